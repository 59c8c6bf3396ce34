import PyProof.Rows.All
import Wide.All
import OpenK.AllK
import Wide.FinOn
import HandS.ForMost
import HandS.More
import HandS.Defaults
import HandS.HeadHook1
import HandS.Deep
import HandS.SortInts
import HandS.SortRule
import HandS.IsInst
import HandS.Wide
import HandS.Style
import KE.IntTextLaws
import HandS.SetFor
import HandS.Replace
import HandS.Conv
import HandS.Zip
import HandS.RaiseMore
import HandS.Small
import KE.KDictZip
import KE.KDictList
import KE.DataMinMax
import HandS.TupLen
import KE.KDictSum
import HandS.Comp
import HandS.TryOnly
import HandS.DictComp
import HandS.WordsDict
import HandS.Exc
import HandS.ExcOwn
import HandS.Head0
import HandS.Head1
import HandS.Head2
import HandS.HeadEnd
import HandS.HeadHook2
import HandS.HeadHook4
import HandS.ExcInit
import HandS.ExcField
import HandS.Iter
import HandS.ExcIs
import HandS.TupSets
import HandS.Strs
import KE.SortData
import HandS.TupLe
import KE.GoesMore
import HandS.WideBits
import HandS.StrMore
import PyProof.ListStr
import KE.GoesZip
import HandS.Dict
import HandS.DictEq
import KE.KEqDict
import KE.KIntText
import PySem.Challenge.RW_twostamps_k49_what_bars_by_all_plans
set_option Elab.async false
set_option linter.all false
set_option maxRecDepth 100000
set_option maxHeartbeats 0
set_option autoImplicit false
namespace L3
open PySem PySem.Spec PyProof.Rows L2
inductive D where
  | bad | non | bl (b : Bool) | int (i : Int) | str (s : Str)
  | lst (o : Bool) (xs : List D) | tup (xs : List D)
  | dk (o : Bool) (ks : List Key) (xs : List D) | dt (o : Bool) (ks : List (List Key)) (xs : List D)
  | obj (nm : Str) (ns : List Str) (xs : List D)
  | exc (nm : Str) (ns : List Str) (xs : List D)
  | ptr (k : Nat)
  deriving Inhabited
inductive Cell where
  | lst (xs : List D) | dk (ks : List Key) (xs : List D) | dt (ks : List (List Key)) (xs : List D)
  | ins (C : Str) (ns : List Str) (xs : List D) | dead
  deriving Inhabited
abbrev Slots := List (Option D)
abbrev Store := List Cell
abbrev Ads := List (Option Addr)
abbrev Av := Addr → Prop
def LstA (av : Av) (H : Hp) (a : Addr) (vs : List V) : Prop := Rd H a (.lst vs) ∧ ¬ av a
def TupA (av : Av) (H : Hp) (a : Addr) (vs : List V) : Prop := H a = some (.tup vs) ∧ ¬ av a
theorem LstA.sq {K : PySem.W.Frag} {av : Av} {H : Hp} {a : Addr} {vs : List V} (h : LstA av H a vs) : SqL K H a vs := .inl h.1
theorem TupA.sq {K : PySem.W.Frag} {av : Av} {H : Hp} {a : Addr} {vs : List V} (h : TupA av H a vs) : SqT K H a vs := .inl (.inl h.1)
def ExT (cls : Value) (d : Option Addr) (a : Addr) : HO := .ext fun h => ∃ (oe : Obj) (vs : Array Value), h.get? a = some oe ∧ oe.cls = cls ∧ oe.dict = d ∧ oe.data = .fields vs
def ExD (av : Av) (H : Hp) (d : Option Addr) (fs : List (Str × V)) : Prop := (d = none ∧ fs = []) ∨ ∃ dd, d = some dd ∧ H dd = some (.xd fs) ∧ ¬ av dd
mutual
inductive Den (K : PySem.W.Frag) (H0 : Hp) (av : Av) (ad : Ads) (H : Hp) : V → D → Prop
  | bad {v : V} : Den K H0 av ad H v .bad
  | non : Den K H0 av ad H .non .non
  | bl {b : Bool} : Den K H0 av ad H (.bl b) (.bl b)
  | int {i : Int} : Den K H0 av ad H (.int i) (.int i)
  | str {s : Str} : Den K H0 av ad H (.str s) (.str s)
  | lst {a : Addr} {vs : List V} {o : Bool} {ds : List D} : LstA av H a vs → (o = false → H0 a = none ∧ H a = some (.lst vs)) → DenAll K H0 av ad H vs ds → Den K H0 av ad H (.ref a) (.lst o ds)
  | tup {a : Addr} {vs : List V} {ds : List D} : TupA av H a vs → DenAll K H0 av ad H vs ds → Den K H0 av ad H (.ref a) (.tup ds)
  | dk {a : Addr} {kvs : List (Key × V)} {o : Bool} {ks : List Key} {ds : List D} : Rd H a (.dK kvs) → ¬ av a → (o = false → H0 a = none) → kvs.map (·.1) = ks → DenAll K H0 av ad H (kvs.map (·.2)) ds → Den K H0 av ad H (.ref a) (.dk o ks ds)
  | dt {a : Addr} {kvs : List (List Key × V)} {o : Bool} {ks : List (List Key)} {ds : List D} : Rd H a (.dT kvs) → ¬ av a → (o = false → H0 a = none) → kvs.map (·.1) = ks → DenAll K H0 av ad H (kvs.map (·.2)) ds → Den K H0 av ad H (.ref a) (.dt o ks ds)
  | obj {a dx : Addr} {nm : Str} {fs : List (Str × V)} {ns : List Str} {ds : List D} : H a = some (.ins (He.ga K nm) dx fs) → ¬ av a → fs.map (·.1) = ns → DenAll K H0 av ad H (fs.map (·.2)) ds → Den K H0 av ad H (.ref a) (.obj nm ns ds)
  | exc {a : Addr} {d : Option Addr} {nm : Str} {fs : List (Str × V)} {ns : List Str} {ds : List D} : H a = some (ExT (.ref (He.ga K nm)) d a) → ¬ av a → ExD av H d fs → fs.map (·.1) = ns → DenAll K H0 av ad H (fs.map (·.2)) ds → Den K H0 av ad H (.ref a) (.exc nm ns ds)
  | ptr {a : Addr} {k : Nat} : ad[k]? = some (some a) → Den K H0 av ad H (.ref a) (.ptr k)
inductive DenAll (K : PySem.W.Frag) (H0 : Hp) (av : Av) (ad : Ads) (H : Hp) : List V → List D → Prop
  | nil : DenAll K H0 av ad H [] []
  | cons {v : V} {vs : List V} {d : D} {ds : List D} : Den K H0 av ad H v d → DenAll K H0 av ad H vs ds → DenAll K H0 av ad H (v :: vs) (d :: ds)
end
def Fz (av : Av) (H : Hp) (av' : Av) (H' : Hp) : Prop := ∀ a o, H a = some o → ¬ av a → H' a = some o ∧ ¬ av' a
theorem Fz.refl {av : Av} {H : Hp} : Fz av H av H := fun _ _ h n => ⟨h, n⟩
theorem Fz.trans {av av1 av2 : Av} {H H1 H2 : Hp} (x : Fz av H av1 H1) (y : Fz av1 H1 av2 H2) : Fz av H av2 H2 := fun a o h n => y a o (x a o h n).1 (x a o h n).2
theorem Fz.same {av : Av} {H H' : Hp} (x : ∀ a o, H a = some o → H' a = some o) : Fz av H av H' := fun a o h n => ⟨x a o h, n⟩
theorem Fz.rd {av av' : Av} {H H' : Hp} {a : Addr} {u : HO} (x : Fz av H av' H') (h : Rd H a u) (n : ¬ av a) : Rd H' a u ∧ ¬ av' a := by
  rcases h with h | ⟨o, h⟩
  · exact ⟨.inl (x _ _ h n).1, (x _ _ h n).2⟩
  · exact ⟨.inr ⟨o, (x _ _ h n).1⟩, (x _ _ h n).2⟩
theorem Fz.exd {av av' : Av} {H H' : Hp} {d : Option Addr} {fs : List (Str × V)} (x : Fz av H av' H') (h : ExD av H d fs) : ExD av' H' d fs := by
  rcases h with h | ⟨dd, e, h, n⟩
  · exact .inl h
  · exact .inr ⟨dd, e, (x _ _ h n).1, (x _ _ h n).2⟩
theorem Fz.lst {av av' : Av} {H H' : Hp} {a : Addr} {vs : List V} (x : Fz av H av' H') (h : LstA av H a vs) : LstA av' H' a vs := x.rd h.1 h.2
theorem Fz.tup {av av' : Av} {H H' : Hp} {a : Addr} {vs : List V} (x : Fz av H av' H') (h : TupA av H a vs) : TupA av' H' a vs := x _ _ h.1 h.2
def Pre (ad ad' : Ads) : Prop := ∀ (k : Nat) (a : Addr), ad[k]? = some (some a) → ad'[k]? = some (some a)
theorem Pre.refl {ad : Ads} : Pre ad ad := fun _ _ h => h
theorem Pre.trans {ad ad1 ad2 : Ads} (x : Pre ad ad1) (y : Pre ad1 ad2) : Pre ad ad2 := fun k a h => y k a (x k a h)
section
variable {K : PySem.W.Frag} {H0 : Hp} {av av' : Av} {ad ad' : Ads} {H H' : Hp}
mutual
theorem Den.mono (f : Fz av H av' H') (p : Pre ad ad') : ∀ {v : V} {d : D}, Den K H0 av ad H v d → Den K H0 av' ad' H' v d
  | _, _, .bad => .bad
  | _, _, .non => .non
  | _, _, .bl => .bl
  | _, _, .int => .int
  | _, _, .str => .str
  | _, _, .lst r o x => .lst (f.lst r) (fun z => ⟨(o z).1, (f _ _ (o z).2 r.2).1⟩) (DenAll.mono f p x)
  | _, _, .tup r x => .tup (f.tup r) (DenAll.mono f p x)
  | _, _, .dk r n o k x => .dk (f.rd r n).1 (f.rd r n).2 o k (DenAll.mono f p x)
  | _, _, .dt r n o k x => .dt (f.rd r n).1 (f.rd r n).2 o k (DenAll.mono f p x)
  | _, _, .obj r n k x => .obj (f _ _ r n).1 (f _ _ r n).2 k (DenAll.mono f p x)
  | _, _, .exc r n q k x => .exc (f _ _ r n).1 (f _ _ r n).2 (f.exd q) k (DenAll.mono f p x)
  | _, _, .ptr h => .ptr (p _ _ h)
theorem DenAll.mono (f : Fz av H av' H') (p : Pre ad ad') : ∀ {vs : List V} {ds : List D}, DenAll K H0 av ad H vs ds → DenAll K H0 av' ad' H' vs ds
  | _, _, .nil => .nil
  | _, _, .cons a b => .cons (Den.mono f p a) (DenAll.mono f p b)
end
theorem DenAll.length : ∀ {vs : List V} {ds : List D}, DenAll K H0 av ad H vs ds → vs.length = ds.length
  | _, _, .nil => rfl
  | _, _, .cons _ t => congrArg (· + 1) t.length
theorem DenAll.get : ∀ {vs : List V} {ds : List D} {i : Nat} {d : D}, DenAll K H0 av ad H vs ds → ds[i]? = some d → ∃ v, vs[i]? = some v ∧ Den K H0 av ad H v d
  | _, _, _, _, .nil, e => by simp at e
  | _, _, 0, _, .cons r _, e => by simp at e; subst e; exact ⟨_, rfl, r⟩
  | _, _, i + 1, d, .cons _ t, e => by
    obtain ⟨u, h1, h2⟩ := DenAll.get (i := i) (d := d) t (by simpa using e)
    exact ⟨u, by simpa using h1, h2⟩
theorem DenAll.get' : ∀ {vs : List V} {ds : List D} {i : Nat} {v : V}, DenAll K H0 av ad H vs ds → vs[i]? = some v → ∃ d, ds[i]? = some d ∧ Den K H0 av ad H v d
  | _, _, _, _, .nil, e => by simp at e
  | _, _, 0, _, .cons r _, e => by simp at e; subst e; exact ⟨_, rfl, r⟩
  | _, _, i + 1, d, .cons _ t, e => by
    obtain ⟨u, h1, h2⟩ := DenAll.get' (i := i) t (by simpa using e)
    exact ⟨u, by simpa using h1, h2⟩
theorem DenAll.append : ∀ {vs us : List V} {ds es : List D}, DenAll K H0 av ad H vs ds → DenAll K H0 av ad H us es → DenAll K H0 av ad H (vs ++ us) (ds ++ es)
  | _, _, _, _, .nil, s => s
  | _, _, _, _, .cons r t, s => .cons r (t.append s)
theorem DenAll.set {v : V} {d : D} (r : Den K H0 av ad H v d) : ∀ {vs : List V} {ds : List D} (i : Nat), DenAll K H0 av ad H vs ds → DenAll K H0 av ad H (vs.set i v) (ds.set i d)
  | _, _, _, .nil => .nil
  | _, _, 0, .cons _ t => .cons r t
  | _, _, i + 1, .cons q t => .cons q (DenAll.set r i t)
theorem DenAll.take : ∀ {vs : List V} {ds : List D} (n : Nat), DenAll K H0 av ad H vs ds → DenAll K H0 av ad H (vs.take n) (ds.take n)
  | _, _, 0, _ => .nil
  | _, _, _ + 1, .nil => .nil
  | _, _, n + 1, .cons r t => .cons r (t.take n)
theorem DenAll.drop : ∀ {vs : List V} {ds : List D} (n : Nat), DenAll K H0 av ad H vs ds → DenAll K H0 av ad H (vs.drop n) (ds.drop n)
  | _, _, 0, r => r
  | _, _, _ + 1, .nil => .nil
  | _, _, n + 1, .cons _ t => t.drop n
theorem DenAll.reverse {vs : List V} {ds : List D} (x : DenAll K H0 av ad H vs ds) : DenAll K H0 av ad H vs.reverse ds.reverse := by
  induction vs generalizing ds with
  | nil => cases x; exact .nil
  | cons v vs ih =>
    cases x with
    | cons a b => rw [List.reverse_cons, List.reverse_cons]; exact (ih b).append (.cons a .nil)
theorem DenAll.erase : ∀ {vs : List V} {ds : List D} (n : Nat), DenAll K H0 av ad H vs ds → DenAll K H0 av ad H (vs.eraseIdx n) (ds.eraseIdx n)
  | _, _, _, .nil => .nil
  | _, _, 0, .cons _ t => t
  | _, _, n + 1, .cons r t => .cons r (t.erase n)
theorem DenAll.dropLast {vs : List V} {ds : List D} (x : DenAll K H0 av ad H vs ds) : DenAll K H0 av ad H vs.dropLast ds.dropLast := by
  rw [List.dropLast_eq_take, List.dropLast_eq_take, x.length]
  exact x.take _
theorem DenAll.flat {α : Type} {f : α → List V} {g : α → List D} : ∀ l : List α, (∀ x ∈ l, DenAll K H0 av ad H (f x) (g x)) → DenAll K H0 av ad H (l.flatMap f) (l.flatMap g)
  | [], _ => .nil
  | x :: l, h => by
    rw [List.flatMap_cons, List.flatMap_cons]
    exact (h x (List.mem_cons_self ..)).append (DenAll.flat l fun y hy => h y (List.mem_cons_of_mem _ hy))
end
def CellOk (K : PySem.W.Frag) (H0 : Hp) (av : Av) (ad : Ads) (H : Hp) (a : Addr) : Cell → Prop
  | .lst xs => ∃ vs, H a = some (.lst vs) ∧ DenAll K H0 av ad H vs xs
  | .dk ks xs => ∃ kvs : List (Key × V), H a = some (.dK kvs) ∧ kvs.map (·.1) = ks ∧ DenAll K H0 av ad H (kvs.map (·.2)) xs
  | .dt ks xs => ∃ kvs : List (List Key × V), H a = some (.dT kvs) ∧ kvs.map (·.1) = ks ∧ DenAll K H0 av ad H (kvs.map (·.2)) xs
  | .ins C ns xs => ∃ dx, ∃ fs : List (Str × V), H a = some (.ins (He.ga K C) dx fs) ∧ fs.map (·.1) = ns ∧ DenAll K H0 av ad H (fs.map (·.2)) xs
  | .dead => False
theorem CellOk.there {K : PySem.W.Frag} {H0 : Hp} {av : Av} {ad : Ads} {H : Hp} {a : Addr} {c : Cell} (x : CellOk K H0 av ad H a c) : H a ≠ none := by
  intro e
  cases c with
  | lst _ => obtain ⟨_, h, _⟩ := x; rw [h] at e; cases e
  | dk _ _ => obtain ⟨_, h, _⟩ := x; rw [h] at e; cases e
  | dt _ _ => obtain ⟨_, h, _⟩ := x; rw [h] at e; cases e
  | ins _ _ _ => obtain ⟨_, _, h, _⟩ := x; rw [h] at e; cases e
  | dead => exact x
theorem CellOk.mono {K : PySem.W.Frag} {H0 : Hp} {av av' : Av} {ad ad' : Ads} {H H' : Hp} {a : Addr} {c : Cell} (f : Fz av H av' H') (p : Pre ad ad') (h : H' a = H a) (x : CellOk K H0 av ad H a c) : CellOk K H0 av' ad' H' a c := by
  cases c with
  | lst _ => obtain ⟨vs, e, r⟩ := x; exact ⟨vs, h.trans e, r.mono f p⟩
  | dk _ _ => obtain ⟨vs, e, k, r⟩ := x; exact ⟨vs, h.trans e, k, r.mono f p⟩
  | dt _ _ => obtain ⟨vs, e, k, r⟩ := x; exact ⟨vs, h.trans e, k, r.mono f p⟩
  | ins _ _ _ => obtain ⟨dx, vs, e, k, r⟩ := x; exact ⟨dx, vs, h.trans e, k, r.mono f p⟩
  | dead => exact x
structure Rep (K : PySem.W.Frag) (H0 : Hp) (A0 : List Addr) (av : Av) (ad : Ads) (Γ : Slots) (C : Store) (σ : L2.St) (H : Hp) : Prop where
  sub : ∀ a, some a ∈ ad → av a
  dom : ∀ a, av a → H a ≠ none
  avt : ∀ a xs, av a → H a = some (.tup xs) → False
  nd : ∀ (i j : Nat) (a : Addr), ad[i]? = some (some a) → ad[j]? = some (some a) → i = j
  len : ad.length = C.length
  pre : ∀ (i : Nat) (a : Addr), A0[i]? = some a → ad[i]? = some (some a)
  loc : ∀ (i : Nat) (a : Addr), ad[i]? = some (some a) → A0.length ≤ i → H0 a = none
  keep : ∀ a o, H0 a = some o → a ∉ A0 → H a = some o
  there : ∀ a, H a = none → H0 a = none
  gone : ∀ (i : Nat), ad[i]? = some none → C[i]? = some .dead
  cells : ∀ (i : Nat) (a : Addr) (c : Cell), ad[i]? = some (some a) → C[i]? = some c → CellOk K H0 av ad H a c
  slen : σ.length = Γ.length
  slot : ∀ (i : Nat) d, Γ[i]? = some (some d) → ∃ v, σ[i]? = some (some v) ∧ Den K H0 av ad H v d
section
variable {K : PySem.W.Frag} {H0 : Hp} {A0 : List Addr} {av av' : Av} {ad ad' : Ads} {Γ : Slots} {C : Store} {σ : L2.St} {H H' : Hp}
theorem mem_ads {ad : Ads} {k : Nat} {a : Addr} (h : ad[k]? = some (some a)) : some a ∈ ad := List.mem_of_getElem? h
theorem Rep.av_of (R : Rep K H0 A0 av ad Γ C σ H) {k : Nat} {a : Addr} (h : ad[k]? = some (some a)) : av a := R.sub a (mem_ads h)
theorem Rep.same (R : Rep K H0 A0 av ad Γ C σ H) (s : ∀ a o, H a = some o → H' a = some o) : Rep K H0 A0 av ad Γ C σ H' where
  sub := R.sub
  dom := fun a h e => by
    cases q : H a with
    | none => exact R.dom a h q
    | some o => rw [s a o q] at e; cases e
  avt := fun a xs h r => by
    cases q : H a with
    | none => exact R.dom a h q
    | some o =>
      have q' := s a o q
      rw [r] at q'; cases q'; exact R.avt a xs h q
  nd := R.nd
  len := R.len
  pre := R.pre
  loc := R.loc
  keep := fun a o h n => s a o (R.keep a o h n)
  there := fun a e => R.there a (by
    cases q : H a with
    | none => rfl
    | some o => rw [s a o q] at e; cases e)
  gone := R.gone
  cells := fun i a c h1 h2 => by
    refine (R.cells i a c h1 h2).mono (Fz.same s) Pre.refl ?_
    cases q : H a with
    | none => exact absurd q (R.dom a (R.av_of h1))
    | some o => exact s a o q
  slen := R.slen
  slot := fun i d h => by
    obtain ⟨v, h1, h2⟩ := R.slot i d h
    exact ⟨v, h1, h2.mono (Fz.same s) Pre.refl⟩
theorem same_upd {H : Hp} {p : Addr} {o : HO} (n : H p = none) : ∀ a u, H a = some u → upd H p o a = some u := fun a u h => by
  rw [upd_ne (ne_of_none h n)]
  exact h
theorem Rep.new (R : Rep K H0 A0 av ad Γ C σ H) {p : Addr} {o : HO} (n : H p = none) : Rep K H0 A0 av ad Γ C σ (upd H p o) := R.same (same_upd n)
theorem Rep.nav (R : Rep K H0 A0 av ad Γ C σ H) {p : Addr} (n : H p = none) : ¬ av p := fun h => R.dom p h n
theorem Rep.ban (R : Rep K H0 A0 av ad Γ C σ H) {p : Addr} {o : HO} (n : H p = none) (no : ∀ xs, o ≠ .tup xs) : Rep K H0 A0 (fun a => av a ∨ a = p) ad Γ C σ (upd H p o) := by
  have f : Fz av H (fun a => av a ∨ a = p) (upd H p o) := fun a u h na => ⟨same_upd n a u h, fun z => z.elim na fun e => ne_of_none h n e⟩
  have R' : Rep K H0 A0 av ad Γ C σ (upd H p o) := R.new n
  exact { R' with
    sub := fun a h => .inl (R.sub a h)
    dom := fun a h => h.elim (R'.dom a) fun e => by rw [e, upd_same]; exact fun z => by cases z
    avt := fun a xs h r => by
      rcases h with h | h
      · exact R'.avt a xs h r
      · subst h
        rw [upd_same] at r; exact no xs (Option.some.inj r)
    cells := fun i a c h1 h2 => (R.cells i a c h1 h2).mono f Pre.refl (upd_ne fun e => R.dom a (R.av_of h1) (by rw [e]; exact n))
    slot := fun i d h => by
      obtain ⟨v, h1, h2⟩ := R.slot i d h
      exact ⟨v, h1, h2.mono f Pre.refl⟩ }
theorem Rep.unban (R : Rep K H0 A0 av ad Γ C σ H) (h : ∀ a, av' a → av a) (s : ∀ a, some a ∈ ad → av' a) : Rep K H0 A0 av' ad Γ C σ H := by
  have f : Fz av H av' H := fun a u h1 na => ⟨h1, fun z => na (h a z)⟩
  exact { R with
    sub := s
    dom := fun a z => R.dom a (h a z)
    avt := fun a xs z => R.avt a xs (h a z)
    cells := fun i a c h1 h2 => (R.cells i a c h1 h2).mono f Pre.refl rfl
    slot := fun i d h1 => by
      obtain ⟨v, h2, h3⟩ := R.slot i d h1
      exact ⟨v, h2, h3.mono f Pre.refl⟩ }
theorem Rep.store (R : Rep K H0 A0 av ad Γ C σ H) {v : V} {d : D} (i : Nat) (x : Den K H0 av ad H v d) : Rep K H0 A0 av ad (Γ.set i (some d)) C (σ.set i (some v)) H :=
  { R with
    slen := by simpa using R.slen
    slot := fun j e h => by
      by_cases hj : i = j
      · subst hj
        have hlt : i < Γ.length := by
          have := (List.getElem?_eq_some_iff.mp h).1
          simpa using this
        rw [List.getElem?_set_self hlt] at h
        cases h
        exact ⟨v, by rw [List.getElem?_set_self (by rw [R.slen]; exact hlt)], x⟩
      · rw [List.getElem?_set_ne hj] at h
        obtain ⟨u, h1, h2⟩ := R.slot j e h
        exact ⟨u, by rw [List.getElem?_set_ne hj]; exact h1, h2⟩ }
theorem Rep.slots (R : Rep K H0 A0 av ad Γ C σ H) {Γ' : Slots} {σ' : L2.St} (hl : σ'.length = Γ'.length) (h : ∀ (i : Nat) d, Γ'[i]? = some (some d) → ∃ v, σ'[i]? = some (some v) ∧ Den K H0 av ad H v d) : Rep K H0 A0 av ad Γ' C σ' H :=
  { R with slen := hl, slot := h }
theorem Rep.push {p : Addr} (R : Rep K H0 A0 (fun a => av a ∨ a = p) ad Γ C σ H) {c : Cell} (n0 : H0 p = none) (np : some p ∉ ad) (sub : ∀ a, some a ∈ ad → av a)
    (ok : CellOk K H0 (fun a => av a ∨ a = p) ad H p c) : Rep K H0 A0 (fun a => av a ∨ a = p) (ad ++ [some p]) Γ (C ++ [c]) σ H := by
  have pr : Pre ad (ad ++ [some p]) := fun k a h => by
    have hlt : k < ad.length := (List.getElem?_eq_some_iff.mp h).1
    rw [List.getElem?_append_left hlt]; exact h
  have back : ∀ k a, (ad ++ [some p])[k]? = some (some a) → ad[k]? = some (some a) ∨ (k = ad.length ∧ a = p) := fun k a h => by
    by_cases hk : k < ad.length
    · rw [List.getElem?_append_left hk] at h; exact .inl h
    · rw [List.getElem?_append_right (Nat.le_of_not_lt hk)] at h
      have : k - ad.length = 0 := by
        have := (List.getElem?_eq_some_iff.mp h).1
        simp at this
        omega
      rw [this] at h
      simp at h
      exact .inr ⟨by omega, h.symm⟩
  have f : Fz (fun a => av a ∨ a = p) H (fun a => av a ∨ a = p) H := Fz.refl
  exact { R with
    sub := fun a h => by
      rcases List.mem_append.mp h with h | h
      · exact .inl (sub a h)
      · simp at h; exact .inr h
    nd := fun i j a h1 h2 => by
      rcases back i a h1 with g1 | ⟨g1, e1⟩ <;> rcases back j a h2 with g2 | ⟨g2, e2⟩
      · exact R.nd i j a g1 g2
      · rw [e2] at g1; exact (np (mem_ads g1)).elim
      · rw [e1] at g2; exact (np (mem_ads g2)).elim
      · omega
    len := by simp [R.len]
    pre := fun i a h => pr i a (R.pre i a h)
    loc := fun i a h hi => by
      rcases back i a h with h | ⟨_, e⟩
      · exact R.loc i a h hi
      · rw [e]; exact n0
    gone := fun i h => by
      by_cases hk : i < ad.length
      · rw [List.getElem?_append_left hk] at h
        rw [List.getElem?_append_left (by rw [← R.len]; exact hk)]
        exact R.gone i h
      · rw [List.getElem?_append_right (Nat.le_of_not_lt hk)] at h
        cases q : i - ad.length with
        | zero => rw [q] at h; simp at h
        | succ n => rw [q] at h; simp at h
    cells := fun i a c' h1 h2 => by
      rcases back i a h1 with h | ⟨e1, e2⟩
      · have hlt : i < C.length := by rw [← R.len]; exact (List.getElem?_eq_some_iff.mp h).1
        rw [List.getElem?_append_left hlt] at h2
        exact (R.cells i a c' h h2).mono f pr rfl
      · subst e2
        rw [e1, R.len, List.getElem?_append_right (Nat.le_refl _)] at h2
        simp at h2
        subst h2
        exact ok.mono f pr rfl
    slot := fun i d h => by
      obtain ⟨v, h1, h2⟩ := R.slot i d h
      exact ⟨v, h1, h2.mono f pr⟩ }
theorem Rep.write (R : Rep K H0 A0 av ad Γ C σ H) {k : Nat} {a : Addr} {o : HO} {c : Cell} (ha : ad[k]? = some (some a)) (hc : k < C.length)
    (no : ∀ xs, o ≠ .tup xs) (ok : ∀ (f : Fz av H av (upd H a o)), CellOk K H0 av ad (upd H a o) a c) : Rep K H0 A0 av ad Γ (C.set k c) σ (upd H a o) := by
  have f : Fz av H av (upd H a o) := fun b u h n => ⟨by
    rw [upd_ne (fun e => n (by rw [e]; exact R.av_of ha))]
    exact h, n⟩
  exact { R with
    dom := fun b h e => by
      by_cases q : b = a
      · subst q; rw [upd_same] at e; cases e
      · rw [upd_ne q] at e; exact R.dom b h e
    avt := fun b xs h r => by
      by_cases q : b = a
      · subst q
        rw [upd_same] at r; exact no xs (Option.some.inj r)
      · rw [upd_ne q] at r; exact R.avt b xs h r
    len := by simpa using R.len
    keep := fun b u h n => by
      have q : b ≠ a := fun e => by
        subst e
        by_cases hk : k < A0.length
        · have e2 := R.pre k _ (List.getElem?_eq_getElem hk)
          rw [ha] at e2
          cases e2
          exact n (List.getElem_mem ..)
        · rw [R.loc k _ ha (Nat.le_of_not_lt hk)] at h; cases h
      rw [upd_ne q]; exact R.keep b u h n
    there := fun b e => by
      by_cases q : b = a
      · subst q; rw [upd_same] at e; cases e
      · rw [upd_ne q] at e; exact R.there b e
    gone := fun i h => by
      have q : k ≠ i := fun e => by subst e; rw [ha] at h; cases h
      rw [List.getElem?_set_ne q]
      exact R.gone i h
    cells := fun i b c' h1 h2 => by
      by_cases hi : i = k
      · subst hi
        rw [ha] at h1; cases h1
        rw [List.getElem?_set_self hc] at h2; cases h2
        exact ok f
      · have q : b ≠ a := fun e => hi (R.nd i k a (by rw [← e]; exact h1) ha)
        rw [List.getElem?_set_ne (Ne.symm hi)] at h2
        exact (R.cells i b c' h1 h2).mono f Pre.refl (upd_ne q)
    slot := fun i d h => by
      obtain ⟨v, h1, h2⟩ := R.slot i d h
      exact ⟨v, h1, h2.mono f Pre.refl⟩ }
end
structure Le (av : Av) (ad : Ads) (H : Hp) (av' : Av) (ad' : Ads) (H' : Hp) : Prop where
  fz : Fz av H av' H'
  pre : Pre ad ad'
  there : ∀ a, H' a = none → H a = none
  avm : ∀ a, av a → av' a
  adn : ∀ a, some a ∈ ad' → some a ∈ ad ∨ H a = none
  kp : ∀ a o, H a = some o → some a ∉ ad → H' a = some o
theorem Le.refl {av : Av} {ad : Ads} {H : Hp} : Le av ad H av ad H := ⟨Fz.refl, Pre.refl, fun _ h => h, fun _ h => h, fun _ h => .inl h, fun _ _ h _ => h⟩
theorem Le.trans {av av1 av2 : Av} {ad ad1 ad2 : Ads} {H H1 H2 : Hp} (x : Le av ad H av1 ad1 H1) (y : Le av1 ad1 H1 av2 ad2 H2) : Le av ad H av2 ad2 H2 :=
  ⟨x.fz.trans y.fz, x.pre.trans y.pre, fun a h => x.there a (y.there a h), fun a h => y.avm a (x.avm a h), fun a h => (y.adn a h).elim (x.adn a) fun z => .inr (x.there a z), fun a o h n => y.kp a o (x.kp a o h n) fun z => (x.adn a z).elim n fun e => by rw [h] at e; cases e⟩
theorem Le.same {av : Av} {ad : Ads} {H H' : Hp} (s : ∀ a o, H a = some o → H' a = some o) : Le av ad H av ad H' := ⟨Fz.same s, Pre.refl, (fun a e => by
  cases q : H a with
  | none => rfl
  | some o => (rw [s a o q] at e; cases e)), fun _ h => h, fun _ h => .inl h, fun a o h _ => s a o h⟩
theorem Le.new {av : Av} {ad : Ads} {H : Hp} {p : Addr} {o : HO} (n : H p = none) : Le av ad H av ad (upd H p o) := Le.same (same_upd n)
theorem Den.le {K : PySem.W.Frag} {H0 : Hp} {av av' : Av} {ad ad' : Ads} {H H' : Hp} {v : V} {d : D} (x : Den K H0 av ad H v d) (l : Le av ad H av' ad' H') : Den K H0 av' ad' H' v d := x.mono l.fz l.pre
theorem DenAll.le {K : PySem.W.Frag} {H0 : Hp} {av av' : Av} {ad ad' : Ads} {H H' : Hp} {v : List V} {d : List D} (x : DenAll K H0 av ad H v d) (l : Le av ad H av' ad' H') : DenAll K H0 av' ad' H' v d := x.mono l.fz l.pre
end L3
namespace L3
open PySem PySem.Spec PyProof.Rows L2
abbrev EV := Slots → Store → (D → Store → Prop) → Prop
abbrev BV := Slots → Store → (Bool → Store → Prop) → Prop
abbrev AV := Slots → Store → (List D → Store → Prop) → Prop
abbrev FV := Slots → Store → (Cell → Store → Prop) → Prop
section
variable (K : PySem.W.Frag)
def SimE (t : TE) (E : EV) : Prop := ∀ (H0 : Hp) (A0 : List Addr) (av : Av) (ad : Ads) (Γ : Slots) (C : Store) (σ : L2.St) (H : Hp) (Q3 : D → Store → Prop) (Q : VK), Rep K H0 A0 av ad Γ C σ H → E Γ C Q3 →
  (∀ (v : V) (H' : Hp) (av' : Av) (ad' : Ads) (d : D) (C' : Store), Rep K H0 A0 av' ad' Γ C' σ H' → Le av ad H av' ad' H' → Den K H0 av' ad' H' v d → Q3 d C' → Q v H') → t σ H Q
def SimT (t : TT) (E : BV) : Prop := ∀ (H0 : Hp) (A0 : List Addr) (av : Av) (ad : Ads) (Γ : Slots) (C : Store) (σ : L2.St) (H : Hp) (Q3 : Bool → Store → Prop) (Q : Bool → Hp → Prop), Rep K H0 A0 av ad Γ C σ H → E Γ C Q3 →
  (∀ (b : Bool) (H' : Hp) (av' : Av) (ad' : Ads) (C' : Store), Rep K H0 A0 av' ad' Γ C' σ H' → Le av ad H av' ad' H' → Q3 b C' → Q b H') → t σ H Q
def SimA (t : TA) (E : AV) : Prop := ∀ (H0 : Hp) (A0 : List Addr) (av : Av) (ad : Ads) (Γ : Slots) (C : Store) (σ : L2.St) (H : Hp) (Q3 : List D → Store → Prop) (Q : List V → Hp → Prop), Rep K H0 A0 av ad Γ C σ H → E Γ C Q3 →
  (∀ (vs : List V) (H' : Hp) (av' : Av) (ad' : Ads) (ds : List D) (C' : Store), Rep K H0 A0 av' ad' Γ C' σ H' → Le av ad H av' ad' H' → DenAll K H0 av' ad' H' vs ds → Q3 ds C' → Q vs H') → t σ H Q
def SimF (t : TE) (E : FV) : Prop := ∀ (H0 : Hp) (A0 : List Addr) (av : Av) (ad : Ads) (Γ : Slots) (C : Store) (σ : L2.St) (H : Hp) (Q3 : Cell → Store → Prop) (Q : VK), Rep K H0 A0 av ad Γ C σ H → E Γ C Q3 →
  (∀ (a : Addr) (H' : Hp) (av' : Av) (ad' : Ads) (c : Cell) (C' : Store), Rep K H0 A0 (fun b => av' b ∨ b = a) ad' Γ C' σ H' → (∀ b, some b ∈ ad' → av' b) → ¬ av' a → H a = none → Le av ad H (fun b => av' b ∨ b = a) ad' H' →
    CellOk K H0 (fun b => av' b ∨ b = a) ad' H' a c → Q3 c C' → Q (.ref a) H') → t σ H Q
structure VE (X : Cx) (e : Expr) (t : TE) (E : EV) : Prop where
  pe : PE X e t
  sim : SimE K t E
structure VF (X : Cx) (e : Expr) (t : TE) (E : FV) : Prop where
  pe : PE X e t
  sim : SimF K t E
structure VT (X : Cx) (e : Expr) (t : TT) (E : BV) : Prop where
  pt : PT X e t
  sim : SimT K t E
structure VW (X : Cx) (e : Expr) (t : TT) (E : BV) : Prop where
  pw : PW X e t
  sim : SimT K t E
structure VA (X : Cx) (es : List Expr) (t : TA) (E : AV) : Prop where
  pa : PA X es t
  sim : SimA K t E
end
def Cell.frz : Cell → D
  | .lst xs => .lst false xs
  | .dk ks xs => .dk false ks xs
  | .dt ks xs => .dt false ks xs
  | _ => .bad
def eFrz (F : FV) : EV := fun Γ C Q => F Γ C fun c C' => Q c.frz C'
def eCell (F : FV) : EV := fun Γ C Q => F Γ C fun c C' => Q (.ptr C'.length) (C' ++ [c])
section
variable {K : PySem.W.Frag} {X : Cx} {e a b : Expr} {es : List Expr} {t ta tb te : TE} {tt tu : TT} {E Ea Eb : EV} {F : FV} {B B' : BV} {pos : Pos}
theorem CellOk.frz {H0 : Hp} {av : Av} {ad : Ads} {H : Hp} {p : Addr} {c : Cell} (n0 : H0 p = none) (nav : ¬ av p) (x : CellOk K H0 av ad H p c) : Den K H0 av ad H (.ref p) c.frz := by
  cases c with
  | lst xs => obtain ⟨vs, e, r⟩ := x; exact .lst ⟨.inl e, nav⟩ (fun _ => ⟨n0, e⟩) r
  | dk ks xs => obtain ⟨vs, e, k, r⟩ := x; exact .dk (.inl e) nav (fun _ => n0) k r
  | dt ks xs => obtain ⟨vs, e, k, r⟩ := x; exact .dt (.inl e) nav (fun _ => n0) k r
  | ins _ _ _ => exact .bad
  | dead => exact .bad
theorem Fz.less {av av' : Av} {H : Hp} (h : ∀ a, av' a → av a) : Fz av H av' H := fun a u h1 na => ⟨h1, fun z => na (h a z)⟩
theorem VF.frz (h : VF K X e t F) : VE K X e t (eFrz F) := by
  refine ⟨h.pe, fun H0 A0 av ad Γ C σ H Q3 Q R hE q => ?_⟩
  refine h.sim H0 A0 av ad Γ C σ H _ Q R hE fun p H' av' ad' c C' R' sub np hn l ok q3 => ?_
  have R2 : Rep K H0 A0 av' ad' Γ C' σ H' := R'.unban (fun _ z => .inl z) sub
  have f2 : Fz (fun b => av' b ∨ b = p) H' av' H' := Fz.less fun _ z => .inl z
  refine q _ _ av' ad' _ C' R2 ⟨l.fz.trans f2, l.pre, l.there, fun b h => (l.avm b h).elim (fun z => z) (fun e => by subst e; exact absurd hn (R.dom _ h)), l.adn, l.kp⟩ ?_ q3
  exact (ok.mono f2 Pre.refl rfl).frz (R.there p hn) np
theorem VF.cell (h : VF K X e t F) : VE K X e t (eCell F) := by
  refine ⟨h.pe, fun H0 A0 av ad Γ C σ H Q3 Q R hE q => ?_⟩
  refine h.sim H0 A0 av ad Γ C σ H _ Q R hE fun p H' av' ad' c C' R' sub np hn l ok q3 => ?_
  have R2 := R'.push (R.there p hn) (fun z => np (sub p z)) sub ok
  have pr : Pre ad' (ad' ++ [some p]) := fun k a h => by
    have hlt : k < ad'.length := (List.getElem?_eq_some_iff.mp h).1
    rw [List.getElem?_append_left hlt]; exact h
  refine q _ _ _ _ _ _ R2 ⟨l.fz, l.pre.trans pr, l.there, l.avm, fun b h => (List.mem_append.mp h).elim (l.adn b) (fun z => by simp at z; subst z; exact .inr hn), l.kp⟩ (.ptr ?_) q3
  rw [← R'.len, List.getElem?_append_right (Nat.le_refl _), Nat.sub_self]
  rfl
def eVar (i : Nat) : EV := fun Γ C Q => ∃ d, Γ[i]? = some (some d) ∧ Q d C
def eC (d : D) : EV := fun _ C Q => Q d C
theorem sim_var {i : Nat} : SimE K (tVar i) (eVar i) := fun H0 A0 av ad Γ C σ H Q3 Q R ⟨d, e, q3⟩ q => by
  obtain ⟨v, h1, h2⟩ := R.slot i d e
  exact ⟨v, h1, q v H av ad d C R Le.refl h2 q3⟩
theorem ve_var (i : Nat) {x : Str} {pos : Pos} (hN : X.N[i]? = some x := by rfl) (hv : Vis X.env.scope x := by first | exact Or.inl rfl | exact Or.inr (Or.inl rfl) | exact Or.inr (Or.inr rfl)) (hd : (x == ("__debug__" : Str)) = false := by decide)
    (hcd : (x == ("__classdict__" : Str)) = false := by decide) : VE K X (.Name x pos) (tVar i) (eVar i) := ⟨pe_var hN hv hd hcd, sim_var⟩
theorem sim_c {v : V} {d : D} (h : ∀ H0 av ad H, Den K H0 av ad H v d) : SimE K (tC v) (eC d) := fun H0 A0 av ad Γ C σ H Q3 Q R q3 q => q v H av ad d C R Le.refl (h H0 av ad H) q3
theorem ve_int {i : Int} {j pos} : VE K X (.Constant (.int i) j pos) (tC (.int i)) (eC (.int i)) := ⟨pe_int, sim_c fun _ _ _ _ => .int⟩
theorem ve_bl {b : Bool} {j pos} : VE K X (.Constant (.bool b) j pos) (tC (.bl b)) (eC (.bl b)) := ⟨pe_bl, sim_c fun _ _ _ _ => .bl⟩
theorem ve_non {j pos} : VE K X (.Constant .none j pos) (tC .non) (eC .non) := ⟨pe_non, sim_c fun _ _ _ _ => .non⟩
theorem ve_str {x : Str} {j pos} : VE K X (.Constant (.str x) j pos) (tC (.str x)) (eC (.str x)) := ⟨pe_str, sim_c fun _ _ _ _ => .str⟩
theorem ve_gint {x : Str} {i : Int} {pos : Pos} (hm : ∃ t, X.mg x = some (.int i t)) (hg : Gl X x := by rfl) (hd : (x == ("__debug__" : Str)) = false := by decide) : VE K X (.Name x pos) (tC (.int i)) (eC (.int i)) := by
  obtain ⟨t, e⟩ := hm
  exact ⟨pe_glob hg e ⟨t, rfl⟩ hd, sim_c fun _ _ _ _ => .int⟩
theorem ve_gstr {x z : Str} {pos : Pos} (hm : ∃ t, X.mg x = some (.str z t)) (hg : Gl X x := by rfl) (hd : (x == ("__debug__" : Str)) = false := by decide) : VE K X (.Name x pos) (tC (.str z)) (eC (.str z)) := by
  obtain ⟨t, e⟩ := hm
  exact ⟨pe_glob hg e ⟨t, rfl⟩ hd, sim_c fun _ _ _ _ => .str⟩
abbrev O2 := Store → D → D → (D → Prop) → Prop
abbrev O1 := Store → D → (D → Prop) → Prop
abbrev ON := Store → List D → (D → Prop) → Prop
abbrev N2 := Store → D → D → (Cell → Prop) → Prop
abbrev NN := Store → List D → (Cell → Prop) → Prop
def eBin (f : O2) (Ea Eb : EV) : EV := fun Γ C Q => Ea Γ C fun x C1 => Eb Γ C1 fun y C2 => f C2 x y fun z => Q z C2
def fBin (f : N2) (Ea Eb : EV) : FV := fun Γ C Q => Ea Γ C fun x C1 => Eb Γ C1 fun y C2 => f C2 x y fun z => Q z C2
def eUn (f : O1) (Ea : EV) : EV := fun Γ C Q => Ea Γ C fun x C1 => f C1 x fun z => Q z C1
def SimR (K : PySem.W.Frag) (r : R2) (f : O2) : Prop := ∀ (H0 : Hp) (A0 : List Addr) (av : Av) (ad : Ads) (Γ : Slots) (C : Store) (σ : L2.St) (H : Hp) (x y : V) (dx dy : D) (Q3 : D → Prop) (Q : VK), Rep K H0 A0 av ad Γ C σ H →
  Den K H0 av ad H x dx → Den K H0 av ad H y dy → f C dx dy Q3 → (∀ v H' d, (∀ a o, H a = some o → H' a = some o) → Den K H0 av ad H' v d → Q3 d → Q v H') → r x y H Q
def SimU (K : PySem.W.Frag) (r : V → Hp → VK → Prop) (f : O1) : Prop := ∀ (H0 : Hp) (A0 : List Addr) (av : Av) (ad : Ads) (Γ : Slots) (C : Store) (σ : L2.St) (H : Hp) (x : V) (dx : D) (Q3 : D → Prop) (Q : VK), Rep K H0 A0 av ad Γ C σ H →
  Den K H0 av ad H x dx → f C dx Q3 → (∀ v H' d, (∀ a o, H a = some o → H' a = some o) → Den K H0 av ad H' v d → Q3 d → Q v H') → r x H Q
def SimC (K : PySem.W.Frag) (r : List V → Hp → VK → Prop) (f : ON) : Prop := ∀ (H0 : Hp) (A0 : List Addr) (av : Av) (ad : Ads) (Γ : Slots) (C : Store) (σ : L2.St) (H : Hp) (xs : List V) (ds : List D) (Q3 : D → Prop) (Q : VK), Rep K H0 A0 av ad Γ C σ H →
  DenAll K H0 av ad H xs ds → f C ds Q3 → (∀ v H' d, (∀ a o, H a = some o → H' a = some o) → Den K H0 av ad H' v d → Q3 d → Q v H') → r xs H Q
def NoTup (o : HO) : Prop := ∀ xs, o ≠ .tup xs
def Holds (K : PySem.W.Frag) (H0 : Hp) (av : Av) (ad : Ads) (H : Hp) : HO → Cell → Prop
  | .lst vs, .lst xs => DenAll K H0 av ad H vs xs
  | .dK kvs, .dk ks xs => kvs.map (·.1) = ks ∧ DenAll K H0 av ad H (kvs.map (·.2)) xs
  | .dT kvs, .dt ks xs => kvs.map (·.1) = ks ∧ DenAll K H0 av ad H (kvs.map (·.2)) xs
  | _, _ => False
theorem Holds.cell {K : PySem.W.Frag} {H0 : Hp} {av av' : Av} {ad ad' : Ads} {H H' : Hp} {o : HO} {c : Cell} {a : Addr} (f : Fz av H av' H') (p : Pre ad ad') (e : H' a = some o) (x : Holds K H0 av ad H o c) : CellOk K H0 av' ad' H' a c := by
  cases o <;> cases c <;> first
    | exact x.elim
    | exact ⟨_, e, x.mono f p⟩
    | exact ⟨_, e, x.1, x.2.mono f p⟩
def SimRF (K : PySem.W.Frag) (r : R2) (f : N2) : Prop := ∀ (H0 : Hp) (A0 : List Addr) (av : Av) (ad : Ads) (Γ : Slots) (C : Store) (σ : L2.St) (H : Hp) (x y : V) (dx dy : D) (Q3 : Cell → Prop) (Q : VK), Rep K H0 A0 av ad Γ C σ H →
  Den K H0 av ad H x dx → Den K H0 av ad H y dy → f C dx dy Q3 → (∀ H1 p o c, (∀ a o, H a = some o → H1 a = some o) → H1 p = none → NoTup o → Holds K H0 av ad H1 o c → Q3 c → Q (.ref p) (upd H1 p o)) → r x y H Q
def SimCF (K : PySem.W.Frag) (r : List V → Hp → VK → Prop) (f : NN) : Prop := ∀ (H0 : Hp) (A0 : List Addr) (av : Av) (ad : Ads) (Γ : Slots) (C : Store) (σ : L2.St) (H : Hp) (xs : List V) (ds : List D) (Q3 : Cell → Prop) (Q : VK), Rep K H0 A0 av ad Γ C σ H →
  DenAll K H0 av ad H xs ds → f C ds Q3 → (∀ H1 p o c, (∀ a o, H a = some o → H1 a = some o) → H1 p = none → NoTup o → Holds K H0 av ad H1 o c → Q3 c → Q (.ref p) (upd H1 p o)) → r xs H Q
theorem noTup_lst {xs : List V} : NoTup (.lst xs) := fun _ z => nomatch z
theorem noTup_dk {xs : List (Key × V)} : NoTup (.dK xs) := fun _ z => nomatch z
theorem fin_new {H0 : Hp} {A0 : List Addr} {av av1 : Av} {ad ad1 : Ads} {Γ : Slots} {C' : Store} {σ : L2.St} {H H1 H2 : Hp} {p : Addr} {o : HO} {c : Cell} {Q3 : Cell → Store → Prop} {Q : VK}
    (R : Rep K H0 A0 av1 ad1 Γ C' σ H1) (l : Le av ad H av1 ad1 H1) (s : ∀ a o, H1 a = some o → H2 a = some o) (n : H2 p = none) (nt : NoTup o) (ok : Holds K H0 av1 ad1 H2 o c) (q3 : Q3 c C')
    (q : ∀ (a : Addr) (H' : Hp) (av' : Av) (ad' : Ads) (c : Cell) (C' : Store), Rep K H0 A0 (fun b => av' b ∨ b = a) ad' Γ C' σ H' → (∀ b, some b ∈ ad' → av' b) → ¬ av' a → H a = none → Le av ad H (fun b => av' b ∨ b = a) ad' H' →
      CellOk K H0 (fun b => av' b ∨ b = a) ad' H' a c → Q3 c C' → Q (.ref a) H') : Q (.ref p) (upd H2 p o) := by
  have R2 := R.same s
  have f : Fz av1 H2 (fun b => av1 b ∨ b = p) (upd H2 p o) := fun a u h na => ⟨same_upd n a u h, fun z => z.elim na fun e => ne_of_none h n e⟩
  have s2 : Le av1 ad1 H1 av1 ad1 H2 := Le.same s
  have l2 : Le av ad H (fun b => av1 b ∨ b = p) ad1 (upd H2 p o) := (l.trans s2).trans ⟨f, Pre.refl, (fun a e => by
    by_cases h : a = p
    · subst h; exact n
    · rw [upd_ne h] at e; exact e), fun _ h => .inl h, fun _ h => .inl h, fun a u h _ => same_upd n a u h⟩
  exact q p _ av1 ad1 c C' (R2.ban n nt) R2.sub (R2.nav n) ((l.trans s2).there p n) l2 (ok.cell f Pre.refl upd_same) q3
theorem sim_bin {r : R2} {f : O2} (hr : SimR K r f) (ha : SimE K ta Ea) (hb : SimE K tb Eb) : SimE K (tOp r ta tb) (eBin f Ea Eb) := fun H0 A0 av ad Γ C σ H Q3 Q R h q =>
  ha H0 A0 av ad Γ C σ H _ _ R h fun x H1 av1 ad1 dx C1 R1 l1 d1 h1 =>
    hb H0 A0 av1 ad1 Γ C1 σ H1 _ _ R1 h1 fun y H2 av2 ad2 dy C2 R2 l2 d2 h2 =>
      hr H0 A0 av2 ad2 Γ C2 σ H2 x y dx dy _ Q R2 (d1.le l2) d2 h2 fun v H3 d s d3 h3 => q v H3 av2 ad2 d C2 (R2.same s) ((l1.trans l2).trans (Le.same s)) d3 h3
theorem sim_binF {r : R2} {f : N2} (hr : SimRF K r f) (ha : SimE K ta Ea) (hb : SimE K tb Eb) : SimF K (tOp r ta tb) (fBin f Ea Eb) := fun H0 A0 av ad Γ C σ H Q3 Q R h q =>
  ha H0 A0 av ad Γ C σ H _ _ R h fun x H1 av1 ad1 dx C1 R1 l1 d1 h1 =>
    hb H0 A0 av1 ad1 Γ C1 σ H1 _ _ R1 h1 fun y H2 av2 ad2 dy C2 R2 l2 d2 h2 =>
      hr H0 A0 av2 ad2 Γ C2 σ H2 x y dx dy _ Q R2 (d1.le l2) d2 h2 fun H3 p o c s n nt ok h3 => fin_new R2 (l1.trans l2) s n nt ok h3 q
theorem sim_un {r : V → Hp → VK → Prop} {f : O1} (hr : SimU K r f) (ha : SimE K ta Ea) : SimE K (tUn r ta) (eUn f Ea) := fun H0 A0 av ad Γ C σ H Q3 Q R h q =>
  ha H0 A0 av ad Γ C σ H _ _ R h fun x H1 av1 ad1 dx C1 R1 l1 d1 h1 =>
      hr H0 A0 av1 ad1 Γ C1 σ H1 x dx _ Q R1 d1 h1 fun v H3 d s d3 h3 => q v H3 av1 ad1 d C1 (R1.same s) (l1.trans (Le.same s)) d3 h3
end
end L3
namespace L3
open PySem PySem.Spec PyProof.Rows L2
mutual
def pyW (g : Nat → Option PyData) : D → Option PyData
  | .non => some .none
  | .bl b => some (.bool b)
  | .int i => some (.int i)
  | .str s => some (.str s)
  | .lst _ xs => (pyWs g xs).map .list
  | .tup xs => (pyWs g xs).map .tuple
  | .ptr k => g k
  | _ => none
def pyWs (g : Nat → Option PyData) : List D → Option (List PyData)
  | [] => some []
  | x :: xs => (pyW g x).bind fun p => (pyWs g xs).map (p :: ·)
end
def pyG (C : Store) : Nat → Nat → Option PyData
  | 0, _ => none
  | n + 1, k => match C[k]? with
    | some (.lst xs) => (pyWs (pyG C n) xs).map .list
    | _ => none
def pyD (C : Store) (d : D) : Option PyData := pyW (pyG C 2) d
section
variable {K : PySem.W.Frag} {H0 : Hp} {A0 : List Addr} {av : Av} {ad : Ads} {Γ : Slots} {C : Store} {σ : L2.St} {H : Hp}
mutual
theorem dp_of {g : Nat → Option PyData} (hg : ∀ k a p, ad[k]? = some (some a) → g k = some p → Dp K H (.ref a) p) : ∀ {d : D} {v : V} {p : PyData}, Den K H0 av ad H v d → pyW g d = some p → Dp K H v p
  | .non, _, _, .non, e => by simp only [pyW] at e; cases e; exact .non
  | .bl _, _, _, .bl, e => by simp only [pyW] at e; cases e; exact .bl _
  | .int _, _, _, .int, e => by simp only [pyW] at e; cases e; exact .int _
  | .str _, _, _, .str, e => by simp only [pyW] at e; cases e; exact .str _
  | .lst _ xs, _, _, .lst r _ x, e => by
    simp only [pyW] at e
    cases q : pyWs g xs with
    | none => rw [q] at e; cases e
    | some ps => rw [q] at e; cases e; exact .lst r.sq (dps_of hg x q)
  | .tup xs, _, _, .tup r x, e => by
    simp only [pyW] at e
    cases q : pyWs g xs with
    | none => rw [q] at e; cases e
    | some ps => rw [q] at e; cases e; exact .tup r.sq (dps_of hg x q)
  | .ptr k, _, _, .ptr h, e => by simp only [pyW] at e; exact hg k _ _ h e
  | .bad, _, _, _, e => by simp [pyW] at e
  | .dk _ _ _, _, _, _, e => by simp [pyW] at e
  | .dt _ _ _, _, _, _, e => by simp [pyW] at e
  | .obj _ _ _, _, _, _, e => by simp [pyW] at e
  | .exc _ _ _, _, _, _, e => by simp [pyW] at e
theorem dps_of {g : Nat → Option PyData} (hg : ∀ k a p, ad[k]? = some (some a) → g k = some p → Dp K H (.ref a) p) : ∀ {ds : List D} {vs : List V} {ps : List PyData}, DenAll K H0 av ad H vs ds → pyWs g ds = some ps → DpAll K H vs ps
  | [], _, _, .nil, e => by simp only [pyWs] at e; cases e; exact .nil
  | d :: ds, _, _, .cons a b, e => by
    simp only [pyWs] at e
    cases q : pyW g d with
    | none => rw [q] at e; cases e
    | some p =>
      rw [q] at e
      cases q2 : pyWs g ds with
      | none => rw [q2] at e; cases e
      | some ps => rw [q2] at e; cases e; exact .cons (dp_of hg a q) (dps_of hg b q2)
end
theorem dp_g (R : Rep K H0 A0 av ad Γ C σ H) : ∀ (n k : Nat) (a : Addr) (p : PyData), ad[k]? = some (some a) → pyG C n k = some p → Dp K H (.ref a) p
  | 0, _, _, _, _, e => by cases e
  | n + 1, k, a, p, h, e => by
    simp only [pyG] at e
    cases q : C[k]? with
    | none => rw [q] at e; cases e
    | some c =>
      rw [q] at e
      cases c with
      | lst xs =>
        simp only at e
        obtain ⟨vs, e1, r⟩ := R.cells k a _ h q
        cases q2 : pyWs (pyG C n) xs with
        | none => rw [q2] at e; cases e
        | some ps =>
          rw [q2] at e; cases e
          exact .lst (SqL.of e1) (dps_of (dp_g R n) r q2)
      | dk _ _ => cases e
      | dt _ _ => cases e
      | ins _ _ _ => cases e
      | dead => cases e
theorem Rep.dp (R : Rep K H0 A0 av ad Γ C σ H) {v : V} {d : D} {p : PyData} (x : Den K H0 av ad H v d) (e : pyD C d = some p) : Dp K H v p := dp_of (dp_g R 2) x e
def lstOf (C : Store) : D → Option (List D)
  | .lst _ xs => some xs
  | .ptr k => match C[k]? with
    | some (.lst xs) => some xs
    | _ => none
  | _ => none
def seqOf (C : Store) : D → Option (List D)
  | .tup xs => some xs
  | d => lstOf C d
theorem Rep.lst (R : Rep K H0 A0 av ad Γ C σ H) {v : V} {d : D} {xs : List D} (x : Den K H0 av ad H v d) (e : lstOf C d = some xs) : ∃ a vs, v = .ref a ∧ Rd H a (.lst vs) ∧ DenAll K H0 av ad H vs xs := by
  cases x with
  | lst l ho r => simp only [lstOf] at e; cases e; exact ⟨_, _, rfl, l.1, r⟩
  | bad => cases e
  | non => cases e
  | bl => cases e
  | int => cases e
  | str => cases e
  | tup _ _ => cases e
  | dk _ _ _ _ _ => cases e
  | dt _ _ _ _ _ => cases e
  | obj _ _ _ _ => cases e
  | exc _ _ _ _ _ => cases e
  | @ptr a k h =>
    simp only [lstOf] at e
    cases q : C[k]? with
    | none => rw [q] at e; cases e
    | some c =>
      rw [q] at e
      cases c with
      | lst ys =>
        cases e
        obtain ⟨vs, e1, r⟩ := R.cells k a _ h q
        exact ⟨a, vs, rfl, .inl e1, r⟩
      | dk _ _ => cases e
      | dt _ _ => cases e
      | ins _ _ _ => cases e
      | dead => cases e
theorem Rep.tup (R : Rep K H0 A0 av ad Γ C σ H) {v : V} {xs : List D} (x : Den K H0 av ad H v (.tup xs)) : ∃ a vs, v = .ref a ∧ SqT K H a vs ∧ DenAll K H0 av ad H vs xs := by
  cases x with
  | tup l r => exact ⟨_, _, rfl, l.sq, r⟩
theorem Rep.seq (R : Rep K H0 A0 av ad Γ C σ H) {v : V} {d : D} {xs : List D} (x : Den K H0 av ad H v d) (e : seqOf C d = some xs) : ∃ a vs, v = .ref a ∧ (SqL K H a vs ∨ SqT K H a vs) ∧ DenAll K H0 av ad H vs xs := by
  by_cases h : ∃ ys, d = .tup ys
  · obtain ⟨ys, rfl⟩ := h
    simp only [seqOf] at e; cases e
    obtain ⟨a, vs, h1, h2, h3⟩ := R.tup x
    exact ⟨a, vs, h1, .inr h2, h3⟩
  · have e2 : lstOf C d = some xs := by
      cases d <;> first
        | exact e
        | exact absurd ⟨_, rfl⟩ h
    obtain ⟨a, vs, h1, h2, h3⟩ := R.lst x e2
    exact ⟨a, vs, h1, .inl (.inl h2), h3⟩
theorem den_int {v : V} {i : Int} (x : Den K H0 av ad H v (.int i)) : v = .int i := by cases x; rfl
theorem den_bl {v : V} {b : Bool} (x : Den K H0 av ad H v (.bl b)) : v = .bl b := by cases x; rfl
theorem den_str {v : V} {s : Str} (x : Den K H0 av ad H v (.str s)) : v = .str s := by cases x; rfl
theorem den_non {v : V} (x : Den K H0 av ad H v .non) : v = .non := by cases x; rfl
theorem den_ints : ∀ {vs : List V} {is : List Int}, DenAll K H0 av ad H vs (is.map .int) → vs = is.map V.int
  | _, [], x => by cases x; rfl
  | _, i :: is, x => by
    cases x with
    | cons a b => rw [den_int a, den_ints b]; rfl
theorem den_bls : ∀ {vs : List V} {is : List Bool}, DenAll K H0 av ad H vs (is.map .bl) → vs = is.map V.bl
  | _, [], x => by cases x; rfl
  | _, i :: is, x => by
    cases x with
    | cons a b => rw [den_bl a, den_bls b]; rfl
theorem den_strs : ∀ {vs : List V} {is : List Str}, DenAll K H0 av ad H vs (is.map .str) → vs = is.map V.str
  | _, [], x => by cases x; rfl
  | _, i :: is, x => by
    cases x with
    | cons a b => rw [den_str a, den_strs b]; rfl
theorem ints_den : ∀ {is : List Int}, DenAll K H0 av ad H (is.map V.int) (is.map .int)
  | [] => .nil
  | i :: is => .cons .int (ints_den (is := is))
end
def oI (g : Int → Int → D) : O2 := fun _ x y Q => ∃ i j, x = .int i ∧ y = .int j ∧ Q (g i j)
def oIc (c : Int → Int → Prop) (g : Int → Int → D) : O2 := fun _ x y Q => ∃ i j, x = .int i ∧ y = .int j ∧ c i j ∧ Q (g i j)
section
variable {K : PySem.W.Frag} {X : Cx} {e a b : Expr} {es : List Expr} {t ta tb te : TE} {tt tu : TT} {E Ea Eb : EV} {F : FV} {B B' : BV} {pos : Pos}
theorem sr_I {g : Int → Int → V} {g3 : Int → Int → D} (h : ∀ i j H0 av ad H, Den K H0 av ad H (g i j) (g3 i j)) : SimR K (rI0 g) (oI g3) := by
  intro H0 A0 av ad Γ C σ H x y dx dy Q3 Q R d1 d2 h3 q
  obtain ⟨i, j, rfl, rfl, q3⟩ := h3
  exact ⟨i, j, den_int d1, den_int d2, q _ H _ (fun _ _ h => h) (h i j H0 av ad H) q3⟩
theorem sr_Ic {c : Int → Int → Prop} {g : Int → Int → V} {g3 : Int → Int → D} (h : ∀ i j H0 av ad H, Den K H0 av ad H (g i j) (g3 i j)) : SimR K (rI c g) (oIc c g3) := by
  intro H0 A0 av ad Γ C σ H x y dx dy Q3 Q R d1 d2 h3 q
  obtain ⟨i, j, rfl, rfl, hc, q3⟩ := h3
  exact ⟨i, j, den_int d1, den_int d2, hc, q _ H _ (fun _ _ h => h) (h i j H0 av ad H) q3⟩
theorem ve_op {op : Operator} {r : R2} {f : O2} (ho : OpR X (binaryOp op) r) (hs : SimR K r f) (ha : VE K X a ta Ea) (hb : VE K X b tb Eb) : VE K X (.BinOp a op b pos) (tOp r ta tb) (eBin f Ea Eb) :=
  ⟨pe_op ho ha.pe hb.pe, sim_bin hs ha.sim hb.sim⟩
theorem vf_op {op : Operator} {r : R2} {f : N2} (ho : OpR X (binaryOp op) r) (hs : SimRF K r f) (ha : VE K X a ta Ea) (hb : VE K X b tb Eb) : VF K X (.BinOp a op b pos) (tOp r ta tb) (fBin f Ea Eb) :=
  ⟨pe_op ho ha.pe hb.pe, sim_binF hs ha.sim hb.sim⟩
theorem ve_cmp {op : CmpOp} {r : R2} {f : O2} (ho : OpR X (compareOp op) r) (hs : SimR K r f) (ha : VE K X a ta Ea) (hb : VE K X b tb Eb) (hm : behindInMarks op b = false) : VE K X (.Compare a [op] [b] pos) (tOp r ta tb) (eBin f Ea Eb) :=
  ⟨pe_cmpR ho ha.pe hb.pe hm, sim_bin hs ha.sim hb.sim⟩
abbrev oAdd : O2 := oI fun i j => .int (i + j)
abbrev oSub : O2 := oI fun i j => .int (i - j)
abbrev oMod : O2 := oIc (fun _ j => 0 < j) fun i j => .int (i % j)
abbrev oDiv : O2 := oIc CDiv fun i j => .int (i / j)
abbrev oLt : O2 := oI fun i j => .bl (decide (i < j))
abbrev oLe : O2 := oI fun i j => .bl (decide (i ≤ j))
abbrev oGt : O2 := oI fun i j => .bl (decide (j < i))
theorem sr_add : SimR K (rI0 fun i j => .int (i + j)) oAdd := sr_I fun _ _ _ _ _ _ => .int
theorem sr_sub : SimR K (rI0 fun i j => .int (i - j)) oSub := sr_I fun _ _ _ _ _ _ => .int
theorem sr_mod : SimR K (rI (fun _ j => 0 < j) fun i j => .int (i % j)) oMod := sr_Ic fun _ _ _ _ _ _ => .int
theorem sr_lt : SimR K (rI0 fun i j => .bl (decide (i < j))) oLt := sr_I fun _ _ _ _ _ _ => .bl
theorem sr_le : SimR K (rI0 fun i j => .bl (decide (i ≤ j))) oLe := sr_I fun _ _ _ _ _ _ => .bl
theorem sr_gt : SimR K (rI0 fun i j => .bl (decide (j < i))) oGt := sr_I fun _ _ _ _ _ _ => .bl
def oNeg : O1 := fun _ x Q => ∃ i, x = .int i ∧ Q (.int (-i))
theorem ve_un {op : UnaryOp} {r : V → Hp → VK → Prop} {f : O1} (ho : UnR X (unaryOp op) r) (hs : SimU K r f) (ha : VE K X a ta Ea) : VE K X (.UnaryOp op a pos) (tUn r ta) (eUn f Ea) := ⟨pe_un ho ha.pe, sim_un hs ha.sim⟩
theorem su_neg : SimU K (rU fun i => .int (-i)) oNeg := fun H0 A0 av ad Γ C σ H x dx Q3 Q R d1 ⟨i, e, q3⟩ q => by
  subst e
  exact ⟨i, den_int d1, q _ H _ (fun _ _ h => h) .int q3⟩
def oEq (neg : Bool) : O2 := fun C x y Q => match x, y with
  | .int i, .int j => Q (.bl (neg != decide (i = j)))
  | .str s, .str t => Q (.bl (neg != decide (s = t)))
  | .bl i, .bl j => Q (.bl (neg != decide (i = j)))
  | _, _ => ∃ p r, pyD C x = some p ∧ pyD C y = some r ∧ SeqAt.shaped p = true ∧ SeqAt.shaped r = true ∧ Q (.bl (neg != PyData.eqv p r))
theorem eqN {b : Bool} : (false != b) = b := by cases b <;> rfl
theorem eqP {b : Bool} : (true != b) = !b := by cases b <;> rfl
theorem dec_i {i j : Int} : decide (V.int i = V.int j) = decide (i = j) := by simp
theorem dec_s {i j : Str} : decide (V.str i = V.str j) = decide (i = j) := by simp
theorem dec_b {i j : Bool} : decide (V.bl i = V.bl j) = decide (i = j) := by simp
theorem sr_eq : SimR K (fun x y H Q => rEq x y H Q ∨ rEqD K x y H Q) (oEq false) := by
  intro H0 A0 av ad Γ C σ H x y dx dy Q3 Q R d1 d2 h3 q
  unfold oEq at h3
  split at h3
  · refine .inl ?_
    rw [den_int d1, den_int d2]
    rw [eqN] at h3
    exact ⟨rfl, q _ H _ (fun _ _ h => h) .bl (by rw [dec_i]; exact h3)⟩
  · refine .inl ?_
    rw [den_str d1, den_str d2]
    rw [eqN] at h3
    exact ⟨rfl, q _ H _ (fun _ _ h => h) .bl (by rw [dec_s]; exact h3)⟩
  · refine .inl ?_
    rw [den_bl d1, den_bl d2]
    rw [eqN] at h3
    exact ⟨rfl, q _ H _ (fun _ _ h => h) .bl (by rw [dec_b]; exact h3)⟩
  · obtain ⟨p, r, e1, e2, s1, s2, q3⟩ := h3
    rw [eqN] at q3
    exact .inr ⟨p, r, R.dp d1 e1, R.dp d2 e2, s1, s2, q _ H _ (fun _ _ h => h) .bl q3⟩
theorem sr_ne : SimR K (fun x y H Q => rNe x y H Q ∨ rNeD K x y H Q) (oEq true) := by
  intro H0 A0 av ad Γ C σ H x y dx dy Q3 Q R d1 d2 h3 q
  unfold oEq at h3
  split at h3
  · refine .inl ?_
    rw [den_int d1, den_int d2]
    rw [eqP] at h3
    exact ⟨rfl, q _ H _ (fun _ _ h => h) .bl (by rw [dec_i]; exact h3)⟩
  · refine .inl ?_
    rw [den_str d1, den_str d2]
    rw [eqP] at h3
    exact ⟨rfl, q _ H _ (fun _ _ h => h) .bl (by rw [dec_s]; exact h3)⟩
  · refine .inl ?_
    rw [den_bl d1, den_bl d2]
    rw [eqP] at h3
    exact ⟨rfl, q _ H _ (fun _ _ h => h) .bl (by rw [dec_b]; exact h3)⟩
  · obtain ⟨p, r, e1, e2, s1, s2, q3⟩ := h3
    rw [eqP] at q3
    exact .inr ⟨p, r, R.dp d1 e1, R.dp d2 e2, s1, s2, q _ H _ (fun _ _ h => h) .bl q3⟩
theorem op_eqA (hK : X.K = K) (hu : X.A.units + 64 < cLine) : OpR X (compareOp .Eq) (fun x y H Q => rEq x y H Q ∨ rEqD K x y H Q) := by
  subst hK
  exact op_eq.or (op_eqD hu)
theorem op_neA (hK : X.K = K) (hu : X.A.units + 64 < cLine) : OpR X (compareOp .NotEq) (fun x y H Q => rNe x y H Q ∨ rNeD K x y H Q) := by
  subst hK
  exact op_ne.or (op_neD hu)
def isNon : D → Option Bool
  | .non => some true
  | .bad => none
  | _ => some false
def oIsN (neg : Bool) : O2 := fun _ x y Q => y = .non ∧ ∃ b, isNon x = some b ∧ Q (.bl (neg != b))
theorem isNon_of {H0 : Hp} {av : Av} {ad : Ads} {H : Hp} {v : V} {d : D} {b : Bool} (x : Den K H0 av ad H v d) (e : isNon d = some b) : decide (v = .non) = b := by
  cases x <;> simp only [isNon] at e <;> cases e <;> simp
theorem sr_isN : SimR K (fun x y H Q => y = .non ∧ Q (.bl (decide (x = .non))) H) (oIsN false) := by
  intro H0 A0 av ad Γ C σ H x y dx dy Q3 Q R d1 d2 ⟨e, b, hb, q3⟩ q
  subst e
  rw [eqN] at q3
  exact ⟨den_non d2, q _ H _ (fun _ _ h => h) .bl (by rw [isNon_of d1 hb]; exact q3)⟩
end
end L3
namespace L3
open PySem PySem.Spec PyProof.Rows L2
section
variable {K : PySem.W.Frag} {X : Cx} {e a b c o : Expr} {es rest : List Expr} {t ta tb tc te : TE} {tt tu tA : TT} {E Ea Eb Ec : EV} {F : FV} {B B' : BV} {tl : TA} {L : AV} {pos p : Pos} {x : Str}
def CPowW (i j : Int) : Prop := 0 ≤ j ∧ (Builtin.Int.intBits i : Int) * j ≤ 2 ^ 27
theorem op_powW : OpR X (binaryOp .Pow) (rI CPowW fun i j => .int (i ^ j.toNat)) := opI fun _ _ _ _ _ _ _ hc q => pow_int hc.1 hc.2 q
theorem cpow_of {i j : Int} {n : Nat} (h0 : 0 ≤ j) (hi : i.natAbs < 2 ^ n) (h : (n : Int) * j ≤ 2 ^ 27 - 10 * j) : CPowW i j := by
  refine ⟨h0, ?_⟩
  have hb : Builtin.Int.intBits i ≤ n + 1 := by
    unfold Builtin.Int.intBits
    split
    · omega
    · rename_i hz
      have : i.natAbs.log2 < n := by
        rw [Nat.log2_lt (by
          intro z
          exact hz (by simp at z ⊢; omega))]
        exact hi
      omega
  have : (Builtin.Int.intBits i : Int) * j ≤ ((n : Int) + 1) * j := Int.mul_le_mul_of_nonneg_right (by omega) h0
  have e : ((n : Int) + 1) * j = n * j + j := by rw [Int.add_mul, Int.one_mul]
  omega
abbrev oMulW : O2 := oIc CMulW fun i j => .int (i * j)
abbrev oDivW : O2 := oIc CDivW fun i j => .int (i / j)
abbrev oPowW : O2 := oIc CPowW fun i j => .int (i ^ j.toNat)
theorem sr_mulW : SimR K (rI CMulW fun i j => .int (i * j)) oMulW := sr_Ic fun _ _ _ _ _ _ => .int
theorem sr_divW : SimR K (rI CDivW fun i j => .int (i / j)) oDivW := sr_Ic fun _ _ _ _ _ _ => .int
theorem sr_powW : SimR K (rI CPowW fun i j => .int (i ^ j.toNat)) oPowW := sr_Ic fun _ _ _ _ _ _ => .int
def oIn (neg : Bool) : O2 := fun C x y Q => match x, y with
  | .str i, .str j => Q (.bl (neg != !(Builtin.Str.occurrences j i 0 j.length 1).isEmpty))
  | _, _ => ∃ q rs, pyD C x = some q ∧ pyD C y = some (.list rs) ∧ SeqAt.shaped q = true ∧ SeqAt.shaped (.list rs) = true ∧ Q (.bl (neg != rs.any fun z => PyData.eqv z q))
def rInStr : R2 := fun x y H Q => ∃ i j, x = .str i ∧ y = .str j ∧ Q (.bl (!(Builtin.Str.occurrences j i 0 j.length 1).isEmpty)) H
def rNiStr : R2 := fun x y H Q => ∃ i j, x = .str i ∧ y = .str j ∧ Q (.bl (!(!(Builtin.Str.occurrences j i 0 j.length 1).isEmpty))) H
theorem sr_in : SimR K (fun x y H Q => rInStr x y H Q ∨ rInD K x y H Q) (oIn false) := by
  intro H0 A0 av ad Γ C σ H x y dx dy Q3 Q R d1 d2 h3 q
  unfold oIn at h3
  split at h3
  · rw [eqN] at h3
    exact .inl ⟨_, _, den_str d1, den_str d2, q _ H _ (fun _ _ h => h) .bl h3⟩
  · obtain ⟨p, r, e1, e2, s1, s2, q3⟩ := h3
    rw [eqN] at q3
    exact .inr ⟨p, r, R.dp d1 e1, R.dp d2 e2, s1, s2, q _ H _ (fun _ _ h => h) .bl q3⟩
theorem sr_notIn : SimR K (fun x y H Q => rNiStr x y H Q ∨ rNotInD K x y H Q) (oIn true) := by
  intro H0 A0 av ad Γ C σ H x y dx dy Q3 Q R d1 d2 h3 q
  unfold oIn at h3
  split at h3
  · rw [eqP] at h3
    exact .inl ⟨_, _, den_str d1, den_str d2, q _ H _ (fun _ _ h => h) .bl h3⟩
  · obtain ⟨p, r, e1, e2, s1, s2, q3⟩ := h3
    rw [eqP] at q3
    exact .inr ⟨p, r, R.dp d1 e1, R.dp d2 e2, s1, s2, q _ H _ (fun _ _ h => h) .bl q3⟩
theorem op_inA (hK : X.K = K) (hu : X.A.units + 65 < cLine) : OpR X (compareOp .In) (fun x y H Q => rInStr x y H Q ∨ rInD K x y H Q) := by
  subst hK
  exact OpR.or (r := rInStr) op_in_str (op_inD hu)
theorem op_notInA (hK : X.K = K) (hu : X.A.units + 65 < cLine) : OpR X (compareOp .NotIn) (fun x y H Q => rNiStr x y H Q ∨ rNotInD K x y H Q) := by
  subst hK
  exact OpR.or (r := rNiStr) op_notIn_str (op_notInD hu)
def oLtT : O2 := fun _ x y Q => ∃ ns ms : List Int, x = .tup (ns.map .int) ∧ y = .tup (ms.map .int) ∧ Q (.bl (HT.lexLt ns ms))
theorem sr_ltT : SimR K (rLtT K) oLtT := by
  intro H0 A0 av ad Γ C σ H x y dx dy Q3 Q R d1 d2 h3 q
  obtain ⟨ns, ms, rfl, rfl, q3⟩ := h3
  obtain ⟨a, vs, rfl, h1, r1⟩ := R.tup d1
  obtain ⟨b, us, rfl, h2, r2⟩ := R.tup d2
  rw [den_ints r1] at h1
  rw [den_ints r2] at h2
  exact ⟨a, b, ns, ms, rfl, rfl, h1, h2, q _ H _ (fun _ _ h => h) .bl q3⟩
theorem op_ltTA (hK : X.K = K) (hu : X.A.units < cLine) : OpR X (compareOp .Lt) (rLtT K) := by
  subst hK
  exact op_ltT hu
def bB (E : EV) : BV := fun Γ C Q => E Γ C fun d C' => ∃ k, d = .bl k ∧ Q k C'
def bAnd (A B : BV) : BV := fun Γ C Q => A Γ C fun k C' => if k = true then B Γ C' Q else Q false C'
def bOr (A B : BV) : BV := fun Γ C Q => A Γ C fun k C' => if k = true then Q true C' else B Γ C' Q
def bNot (A : BV) : BV := fun Γ C Q => A Γ C fun k C' => Q (!k) C'
def eAnd (A B : EV) : EV := fun Γ C Q => A Γ C fun d C' => ∃ k, d = .bl k ∧ if k = true then B Γ C' Q else Q (.bl false) C'
def eNot (A : EV) : EV := fun Γ C Q => A Γ C fun d C' => ∃ k, d = .bl k ∧ Q (.bl (!k)) C'
def eIf (T : BV) (A B : EV) : EV := fun Γ C Q => T Γ C fun k C' => if k = true then A Γ C' Q else B Γ C' Q
theorem sim_b (h : SimE K t E) : SimT K (tB t) (bB E) := fun H0 A0 av ad Γ C σ H Q3 Q R h3 q =>
  h H0 A0 av ad Γ C σ H _ _ R h3 fun v H' av' ad' d C' R' l d1 ⟨k, e, q3⟩ => ⟨k, den_bl (e ▸ d1), q k H' av' ad' C' R' l q3⟩
theorem vt_val (h : VE K X e t E) (he : ∀ whole, isTrue e X.env whole = (do let v ← whole; standAt e.pos; holding [v] (truthy v)) := by intro _; rfl) : VT K X e (tB t) (bB E) := ⟨pt_val h.pe he, sim_b h.sim⟩
theorem vt_cmp {op : CmpOp} {r : R2} {f : O2} (ho : OpR X (compareOp op) r) (hs : SimR K r f) (ha : VE K X a ta Ea) (hb : VE K X b tb Eb) (hm : behindInMarks op b = false) : VT K X (.Compare a [op] [b] pos) (tTest (tOp r ta tb)) (bB (eBin f Ea Eb)) :=
  ⟨pt_cmpR ho ha.pe hb.pe hm, sim_b (sim_bin hs ha.sim hb.sim)⟩
theorem sim_and (h : SimT K tt B) (h' : SimT K tu B') : SimT K (tAnd tt tu) (bAnd B B') := fun H0 A0 av ad Γ C σ H Q3 Q R h3 q =>
  h H0 A0 av ad Γ C σ H _ _ R h3 fun k H' av' ad' C' R' l q3 => by
    cases k with
    | true => exact h' H0 A0 av' ad' Γ C' σ H' _ _ R' q3 fun k H2 av2 ad2 C2 R2 l2 q4 => q k H2 av2 ad2 C2 R2 (l.trans l2) q4
    | false => exact q false H' av' ad' C' R' l q3
theorem sim_or (h : SimT K tt B) (h' : SimT K tu B') : SimT K (tOr tt tu) (bOr B B') := fun H0 A0 av ad Γ C σ H Q3 Q R h3 q =>
  h H0 A0 av ad Γ C σ H _ _ R h3 fun k H' av' ad' C' R' l q3 => by
    cases k with
    | false => exact h' H0 A0 av' ad' Γ C' σ H' _ _ R' q3 fun k H2 av2 ad2 C2 R2 l2 q4 => q k H2 av2 ad2 C2 R2 (l.trans l2) q4
    | true => exact q true H' av' ad' C' R' l q3
theorem vw_and1 (h : VT K X a tt B) : VW K X (.BoolOp .And [a] pos) tt B := ⟨pw_and1 h.pt, h.sim⟩
theorem vw_or1 (h : VT K X a tt B) : VW K X (.BoolOp .Or [a] pos) tt B := ⟨pw_or1 h.pt, h.sim⟩
theorem vw_and (h : VT K X a tt B) (h' : VW K X (.BoolOp .And (b :: rest) pos) tu B') : VW K X (.BoolOp .And (a :: b :: rest) pos) (tAnd tt tu) (bAnd B B') := ⟨pw_and h.pt h'.pw, sim_and h.sim h'.sim⟩
theorem vw_or (h : VT K X a tt B) (h' : VW K X (.BoolOp .Or (b :: rest) pos) tu B') : VW K X (.BoolOp .Or (a :: b :: rest) pos) (tOr tt tu) (bOr B B') := ⟨pw_or h.pt h'.pw, sim_or h.sim h'.sim⟩
theorem VW.vt (h : VW K X a tt B) : VT K X a tt B := ⟨h.pw.pt, h.sim⟩
theorem vt_not (h : VT K X a tt B) : VT K X (.UnaryOp .Not a pos) (tNot tt) (bNot B) := ⟨pt_not h.pt, fun H0 A0 av ad Γ C σ H Q3 Q R h3 q =>
  h.sim H0 A0 av ad Γ C σ H _ _ R h3 fun k H' av' ad' C' R' l q3 => q (!k) H' av' ad' C' R' l q3⟩
theorem ve_one {op} (h : VE K X a t E) : VE K X (.BoolOp op [a] pos) t E := ⟨pe_one h.pe, h.sim⟩
theorem ve_and (h : VE K X a ta Ea) (h' : VE K X (.BoolOp .And (b :: rest) pos) tb Eb) : VE K X (.BoolOp .And (a :: b :: rest) pos) (tAndV ta tb) (eAnd Ea Eb) := ⟨pe_and h.pe h'.pe, fun H0 A0 av ad Γ C σ H Q3 Q R h3 q =>
  h.sim H0 A0 av ad Γ C σ H _ _ R h3 fun v H' av' ad' d C' R' l d1 ⟨k, e, q3⟩ => ⟨k, den_bl (e ▸ d1), by
    cases k with
    | true => exact h'.sim H0 A0 av' ad' Γ C' σ H' _ _ R' q3 fun v2 H2 av2 ad2 d2 C2 R2 l2 dd q4 => q v2 H2 av2 ad2 d2 C2 R2 (l.trans l2) dd q4
    | false => exact q _ H' av' ad' _ C' R' l .bl q3⟩⟩
theorem ve_not (h : VE K X a ta Ea) : VE K X (.UnaryOp .Not a pos) (tNotV ta) (eNot Ea) := ⟨pe_not h.pe, fun H0 A0 av ad Γ C σ H Q3 Q R h3 q =>
  h.sim H0 A0 av ad Γ C σ H _ _ R h3 fun v H' av' ad' d C' R' l d1 ⟨k, e, q3⟩ => ⟨k, den_bl (e ▸ d1), q _ H' av' ad' _ C' R' l .bl q3⟩⟩
theorem ve_ifExp (hc : VT K X c tA B) (ha : VE K X a ta Ea) (hb : VE K X b tb Eb) : VE K X (.IfExp c a b pos) (tIf tA ta tb) (eIf B Ea Eb) := ⟨pe_ifExp hc.pt ha.pe hb.pe, fun H0 A0 av ad Γ C σ H Q3 Q R h3 q =>
  hc.sim H0 A0 av ad Γ C σ H _ _ R h3 fun k H' av' ad' C' R' l q3 => by
    cases k with
    | true => exact ha.sim H0 A0 av' ad' Γ C' σ H' _ _ R' q3 fun v2 H2 av2 ad2 d2 C2 R2 l2 dd q4 => q v2 H2 av2 ad2 d2 C2 R2 (l.trans l2) dd q4
    | false => exact hb.sim H0 A0 av' ad' Γ C' σ H' _ _ R' q3 fun v2 H2 av2 ad2 d2 C2 R2 l2 dd q4 => q v2 H2 av2 ad2 d2 C2 R2 (l.trans l2) dd q4⟩
def eChain (f f' : O2) (Ea Eb Ec : EV) : EV := fun Γ C Q => Ea Γ C fun x C1 => Eb Γ C1 fun y C2 => f C2 x y fun z => ∃ k, z = .bl k ∧ if k = true then Ec Γ C2 fun w C3 => f' C3 y w fun u => Q u C3 else Q (.bl false) C2
theorem sim_chain {r r' : R2} {f f' : O2} (hr : SimR K r f) (hr' : SimR K r' f') (ha : SimE K ta Ea) (hb : SimE K tb Eb) (hc : SimE K tc Ec) : SimE K (tChain r r' ta tb tc) (eChain f f' Ea Eb Ec) := fun H0 A0 av ad Γ C σ H Q3 Q R h q =>
  ha H0 A0 av ad Γ C σ H _ _ R h fun x H1 av1 ad1 dx C1 R1 l1 d1 h1 =>
    hb H0 A0 av1 ad1 Γ C1 σ H1 _ _ R1 h1 fun y H2 av2 ad2 dy C2 R2 l2 d2 h2 =>
      hr H0 A0 av2 ad2 Γ C2 σ H2 x y dx dy _ _ R2 (d1.le l2) d2 h2 fun v H3 d s d3 ⟨k, e, h3⟩ => ⟨k, den_bl (e ▸ d3), by
        have l3 : Le av ad H av2 ad2 H3 := (l1.trans l2).trans (Le.same s)
        cases k with
        | false => exact q _ H3 av2 ad2 _ C2 (R2.same s) l3 .bl h3
        | true =>
          exact hc H0 A0 av2 ad2 Γ C2 σ H3 _ _ (R2.same s) h3 fun w H4 av4 ad4 dw C4 R4 l4 d4 h4 =>
            hr' H0 A0 av4 ad4 Γ C4 σ H4 y w dy dw _ Q R4 ((d2.le (Le.same s)).le l4) d4 h4 fun u H5 du s5 d5 h5 => q u H5 av4 ad4 du C4 (R4.same s5) ((l3.trans l4).trans (Le.same s5)) d5 h5⟩
theorem ve_chain {op op' : CmpOp} {r r' : R2} {f f' : O2} (ho : OpR X (compareOp op) r) (hs : SimR K r f) (ho' : OpR X (compareOp op') r') (hs' : SimR K r' f') (ha : VE K X a ta Ea) (hb : VE K X b tb Eb) (hc : VE K X c tc Ec)
    (hm : lastMarks [op, op'] [b, c] = false := by with_unfolding_all rfl) : VE K X (.Compare a [op, op'] [b, c] pos) (tChain r r' ta tb tc) (eChain f f' Ea Eb Ec) := ⟨pe_chain ho ho' ha.pe hb.pe hc.pe hm, sim_chain hs hs' ha.sim hb.sim hc.sim⟩
theorem vt_chain {op op' : CmpOp} {r r' : R2} {f f' : O2} (ho : OpR X (compareOp op) r) (hs : SimR K r f) (ho' : OpR X (compareOp op') r') (hs' : SimR K r' f') (ha : VE K X a ta Ea) (hb : VE K X b tb Eb) (hc : VE K X c tc Ec)
    (hm : lastMarks [op, op'] [b, c] = false := by with_unfolding_all rfl) : VT K X (.Compare a [op, op'] [b, c] pos) (tTest (tChain r r' ta tb tc)) (bB (eChain f f' Ea Eb Ec)) := ⟨pt_chain ho ho' ha.pe hb.pe hc.pe hm, sim_b (sim_chain hs hs' ha.sim hb.sim hc.sim)⟩
def aNil : AV := fun _ C Q => Q [] C
def aCons (E : EV) (L : AV) : AV := fun Γ C Q => E Γ C fun d C1 => L Γ C1 fun ds C2 => Q (d :: ds) C2
theorem va_nil : VA K X [] tNil aNil := ⟨pa_nil, fun H0 A0 av ad Γ C σ H Q3 Q R h q => q [] H av ad [] C R Le.refl .nil h⟩
theorem va_cons (h : VE K X e te E) (hr : VA K X es tl L) (hs : starEach (e :: es) X.env = (false, eval e X.env) :: starEach es X.env := by rfl) : VA K X (e :: es) (tCons te tl) (aCons E L) := ⟨pa_cons h.pe hr.pa hs, fun H0 A0 av ad Γ C σ H Q3 Q R h3 q =>
  h.sim H0 A0 av ad Γ C σ H _ _ R h3 fun v H1 av1 ad1 d C1 R1 l1 d1 h4 =>
    hr.sim H0 A0 av1 ad1 Γ C1 σ H1 _ _ R1 h4 fun vs H2 av2 ad2 ds C2 R2 l2 d2 h5 => q (v :: vs) H2 av2 ad2 (d :: ds) C2 R2 (l1.trans l2) (.cons (d1.le l2) d2) h5⟩
def eTup (L : AV) : EV := fun Γ C Q => L Γ C fun ds C1 => ds.length ≤ sizeLine ∧ Q (.tup ds) C1
def fLst (L : AV) : FV := fun Γ C Q => L Γ C fun ds C1 => ds.length ≤ sizeLine ∧ Q (.lst ds) C1
theorem ve_tup {x1} (h : VA K X es tl L) : VE K X (.Tuple es x1 pos) (tTup tl) (eTup L) := ⟨pe_tup h.pa, fun H0 A0 av ad Γ C σ H Q3 Q R h3 q =>
  h.sim H0 A0 av ad Γ C σ H _ _ R h3 fun vs H1 av1 ad1 ds C1 R1 l1 d1 ⟨hl, q3⟩ => ⟨by rw [d1.length]; exact hl, fun p np => q _ _ av1 ad1 _ C1 (R1.new np) (l1.trans (Le.new np)) (.tup ⟨upd_same, R1.nav np⟩ (d1.le (Le.new np))) q3⟩⟩
theorem vf_lst (h : VA K X es tl L) : VF K X (.List es pos) (tLst tl) (fLst L) := ⟨pe_lst h.pa, fun H0 A0 av ad Γ C σ H Q3 Q R h3 q =>
  h.sim H0 A0 av ad Γ C σ H _ _ R h3 fun vs H1 av1 ad1 ds C1 R1 l1 d1 ⟨hl, q3⟩ => ⟨by rw [d1.length]; exact hl, fun p np => fin_new R1 l1 (fun _ _ h => h) np noTup_lst (c := .lst ds) d1 q3 q⟩⟩
def oIxL : O2 := fun C x y Q => ∃ xs i d, lstOf C x = some xs ∧ y = .int i ∧ atI xs i = some d ∧ Q d
def oIxT : O2 := fun C x y Q => ∃ xs i d, x = .tup xs ∧ y = .int i ∧ atI xs i = some d ∧ Q d
def oIxS : O2 := fun C x y Q => ∃ z i k, x = .str z ∧ y = .int i ∧ z.length ≤ sizeLine ∧ atI z.cps.toList i = some k ∧ Q (.str ⟨#[k]⟩)
theorem den_at {H0 : Hp} {av : Av} {ad : Ads} {H : Hp} {vs : List V} {ds : List D} {i : Int} {d : D} (x : DenAll K H0 av ad H vs ds) (e : atI ds i = some d) : ∃ v, atI vs i = some v ∧ Den K H0 av ad H v d := by
  unfold atI at e ⊢
  rw [x.length]
  cases q : ixN ds.length i with
  | none => rw [q] at e; cases e
  | some j => rw [q] at e; exact x.get e
theorem sr_ixL : SimR K (rIxL K) oIxL := by
  intro H0 A0 av ad Γ C σ H x y dx dy Q3 Q R d1 d2 ⟨xs, i, d, e1, e2, e3, q3⟩ q
  subst e2
  obtain ⟨p, vs, rfl, h1, r1⟩ := R.lst d1 e1
  obtain ⟨v, h2, r2⟩ := den_at r1 e3
  exact ⟨p, vs, i, v, rfl, den_int d2, .inl h1, h2, q v H d (fun _ _ h => h) r2 q3⟩
theorem sr_ixT : SimR K (rIxT K) oIxT := by
  intro H0 A0 av ad Γ C σ H x y dx dy Q3 Q R d1 d2 ⟨xs, i, d, e1, e2, e3, q3⟩ q
  subst e1 e2
  obtain ⟨p, vs, rfl, h1, r1⟩ := R.tup d1
  obtain ⟨v, h2, r2⟩ := den_at r1 e3
  exact ⟨p, vs, i, v, rfl, den_int d2, h1, h2, q v H d (fun _ _ h => h) r2 q3⟩
theorem sr_ixS : SimR K rIxS oIxS := by
  intro H0 A0 av ad Γ C σ H x y dx dy Q3 Q R d1 d2 ⟨z, i, k, e1, e2, e3, e4, q3⟩ q
  subst e1 e2
  exact ⟨z, i, k, den_str d1, den_int d2, e3, e4, q _ H _ (fun _ _ h => h) .str q3⟩
theorem ve_ix {r : R2} {f : O2} (hr : IxR X r) (hs : SimR K r f) (ha : VE K X a ta Ea) (hb : VE K X b tb Eb) (hp : PlainIx b := by exact fun _ _ => rfl) : VE K X (.Subscript a b pos) (tOp r ta tb) (eBin f Ea Eb) := ⟨pe_ix hr ha.pe hb.pe hp, sim_bin hs ha.sim hb.sim⟩
theorem ix_listA (hK : X.K = K) : IxR X (rIxL K) := by subst hK; exact ix_list
theorem ix_tupA (hK : X.K = K) : IxR X (rIxT K) := by subst hK; exact ix_tup
end
end L3
namespace L3
open PySem PySem.Spec PyProof.Rows L2
section
variable {K : PySem.W.Frag} {X : Cx} {e a b c o : Expr} {es rest : List Expr} {t ta tb tc te to : TE} {tt tu tA : TT} {E Ea Eb Ec Eo : EV} {F : FV} {B B' : BV} {tl : TA} {L : AV} {pos p apos : Pos} {x : Str} {id T : String}
def eCB (f : ON) (L : AV) : EV := fun Γ C Q => L Γ C fun ds C1 => f C1 ds fun z => Q z C1
def fCB (f : NN) (L : AV) : FV := fun Γ C Q => L Γ C fun ds C1 => f C1 ds fun z => Q z C1
theorem sim_cb {r : List V → Hp → VK → Prop} {f : ON} (hr : SimC K r f) (ha : SimA K tl L) : SimE K (tCB r tl) (eCB f L) := fun H0 A0 av ad Γ C σ H Q3 Q R h q =>
  ha H0 A0 av ad Γ C σ H _ _ R h fun vs H1 av1 ad1 ds C1 R1 l1 d1 h1 =>
      hr H0 A0 av1 ad1 Γ C1 σ H1 vs ds _ Q R1 d1 h1 fun v H3 d s d3 h3 => q v H3 av1 ad1 d C1 (R1.same s) (l1.trans (Le.same s)) d3 h3
theorem sim_cbF {r : List V → Hp → VK → Prop} {f : NN} (hr : SimCF K r f) (ha : SimA K tl L) : SimF K (tCB r tl) (fCB f L) := fun H0 A0 av ad Γ C σ H Q3 Q R h q =>
  ha H0 A0 av ad Γ C σ H _ _ R h fun vs H1 av1 ad1 ds C1 R1 l1 d1 h1 =>
      hr H0 A0 av1 ad1 Γ C1 σ H1 vs ds _ Q R1 d1 h1 fun H3 p o c s n nt ok h3 => fin_new R1 l1 s n nt ok h3 q
theorem ve_callB {r : List V → Hp → VK → Prop} {f : ON} (hc : CallR X (.builtin id) r) (hs : SimC K r f) (hm : X.mg x = none) (ha : VA K X (e :: es) tl L) (hg : Gl X x := by rfl) (hv : bootBuiltins x = some (.builtin id) := by decide +kernel) (hn : x ≠ "__name__" := by decide) (hdb : (x == ("__debug__" : Str)) = false := by decide)
    (he : starEach (e :: es) X.env = (false, eval e X.env) :: starEach es X.env := by rfl) (hpl : (backTo pos (starEach es X.env)).any (·.1) = false := by rfl) : VE K X (.Call (.Name x p) (e :: es) [] pos) (tCB r tl) (eCB f L) :=
  ⟨pe_callB hc hg hm hv ha.pa hn hdb he hpl, sim_cb hs ha.sim⟩
theorem ve_callTy {r : List V → Hp → VK → Prop} {f : ON} (hc : CallR X (.type T) r) (hs : SimC K r f) (hm : X.mg x = none) (ha : VA K X (e :: es) tl L) (hg : Gl X x := by rfl) (hv : bootBuiltins x = some (.type T) := by decide +kernel) (hn : x ≠ "__name__" := by decide) (hdb : (x == ("__debug__" : Str)) = false := by decide)
    (he : starEach (e :: es) X.env = (false, eval e X.env) :: starEach es X.env := by rfl) (hpl : (backTo pos (starEach es X.env)).any (·.1) = false := by rfl) : VE K X (.Call (.Name x p) (e :: es) [] pos) (tCB r tl) (eCB f L) :=
  ⟨pe_callTy hc hg hm hv ha.pa hn hdb he hpl, sim_cb hs ha.sim⟩
theorem vf_callB {r : List V → Hp → VK → Prop} {f : NN} (hc : CallR X (.builtin id) r) (hs : SimCF K r f) (hm : X.mg x = none) (ha : VA K X (e :: es) tl L) (hg : Gl X x := by rfl) (hv : bootBuiltins x = some (.builtin id) := by decide +kernel) (hn : x ≠ "__name__" := by decide) (hdb : (x == ("__debug__" : Str)) = false := by decide)
    (he : starEach (e :: es) X.env = (false, eval e X.env) :: starEach es X.env := by rfl) (hpl : (backTo pos (starEach es X.env)).any (·.1) = false := by rfl) : VF K X (.Call (.Name x p) (e :: es) [] pos) (tCB r tl) (fCB f L) :=
  ⟨pe_callB hc hg hm hv ha.pa hn hdb he hpl, sim_cbF hs ha.sim⟩
theorem vf_callTy {r : List V → Hp → VK → Prop} {f : NN} (hc : CallR X (.type T) r) (hs : SimCF K r f) (hm : X.mg x = none) (ha : VA K X (e :: es) tl L) (hg : Gl X x := by rfl) (hv : bootBuiltins x = some (.type T) := by decide +kernel) (hn : x ≠ "__name__" := by decide) (hdb : (x == ("__debug__" : Str)) = false := by decide)
    (he : starEach (e :: es) X.env = (false, eval e X.env) :: starEach es X.env := by rfl) (hpl : (backTo pos (starEach es X.env)).any (·.1) = false := by rfl) : VF K X (.Call (.Name x p) (e :: es) [] pos) (tCB r tl) (fCB f L) :=
  ⟨pe_callTy hc hg hm hv ha.pa hn hdb he hpl, sim_cbF hs ha.sim⟩
theorem den1 {H0 : Hp} {av : Av} {ad : Ads} {H : Hp} {vs : List V} {d : D} (x : DenAll K H0 av ad H vs [d]) : ∃ v, vs = [v] ∧ Den K H0 av ad H v d := by
  cases x with
  | cons a b => cases b; exact ⟨_, rfl, a⟩
theorem den2 {H0 : Hp} {av : Av} {ad : Ads} {H : Hp} {vs : List V} {d d' : D} (x : DenAll K H0 av ad H vs [d, d']) : ∃ v v', vs = [v, v'] ∧ Den K H0 av ad H v d ∧ Den K H0 av ad H v' d' := by
  cases x with
  | cons a b => obtain ⟨v, rfl, r⟩ := den1 b; exact ⟨_, v, rfl, a, r⟩
def oLen : ON := fun C ds Q => ∃ d xs, ds = [d] ∧ seqOf C d = some xs ∧ Q (.int xs.length)
theorem sc_len : SimC K (fun xs H Q => ∃ p ys, xs = [.ref p] ∧ (SqL K H p ys ∨ SqT K H p ys) ∧ Q (.int ys.length) H) oLen := by
  intro H0 A0 av ad Γ C σ H vs ds Q3 Q R d1 ⟨d, xs, e1, e2, q3⟩ q
  subst e1
  obtain ⟨v, rfl, r⟩ := den1 d1
  obtain ⟨p, us, rfl, h1, r1⟩ := R.seq r e2
  exact ⟨p, us, rfl, h1, q _ H _ (fun _ _ h => h) .int (by rw [r1.length]; exact q3)⟩
def oLenS : ON := fun _ ds Q => ∃ z, ds = [.str z] ∧ z.length ≤ sizeLine ∧ Q (.int z.length)
theorem sc_lenS : SimC K (fun xs H Q => ∃ z, xs = [.str z] ∧ z.length ≤ sizeLine ∧ Q (.int z.length) H) oLenS := by
  intro H0 A0 av ad Γ C σ H vs ds Q3 Q R d1 ⟨z, e1, e2, q3⟩ q
  subst e1
  obtain ⟨v, rfl, r⟩ := den1 d1
  exact ⟨z, by rw [den_str r], e2, q _ H _ (fun _ _ h => h) .int q3⟩
def oLenA : ON := fun C ds Q => match ds with
  | [.str z] => z.length ≤ sizeLine ∧ Q (.int z.length)
  | _ => oLen C ds Q
def rLenSq (K : PySem.W.Frag) : List V → Hp → VK → Prop := fun xs H Q => ∃ p ys, xs = [.ref p] ∧ (SqL K H p ys ∨ SqT K H p ys) ∧ Q (.int ys.length) H
def rLenSt : List V → Hp → VK → Prop := fun xs H Q => ∃ z, xs = [.str z] ∧ z.length ≤ sizeLine ∧ Q (.int z.length) H
theorem sc_lenA : SimC K (fun xs H Q => rLenSq K xs H Q ∨ rLenSt xs H Q) oLenA := by
  intro H0 A0 av ad Γ C σ H vs ds Q3 Q R d1 h q
  unfold oLenA at h
  split at h
  · exact .inr (sc_lenS H0 A0 av ad Γ C σ H vs _ Q3 Q R d1 ⟨_, rfl, h.1, h.2⟩ q)
  · exact .inl (sc_len H0 A0 av ad Γ C σ H vs ds Q3 Q R d1 h q)
theorem call_lenAA (hK : X.K = K) : CallR X (.builtin "len") (fun xs H Q => rLenSq K xs H Q ∨ rLenSt xs H Q) := by
  subst hK
  exact CallR.or (r := rLenSq X.K) (r' := rLenSt) call_len_seq call_len_str
def oAbs : ON := fun _ ds Q => ∃ i, ds = [.int i] ∧ Q (.int (if i < 0 then -i else i))
def oMax2 : ON := fun _ ds Q => ∃ i j, ds = [.int i, .int j] ∧ Q (.int (max i j))
def oMin2 : ON := fun _ ds Q => ∃ i j, ds = [.int i, .int j] ∧ Q (.int (min i j))
theorem sc_max2 : SimC K (fun xs H Q => ∃ i j, xs = [.int i, .int j] ∧ Q (.int (if j > i then j else i)) H) oMax2 := by
  intro H0 A0 av ad Γ C σ H vs ds Q3 Q R d1 ⟨i, j, e1, q3⟩ q
  subst e1
  obtain ⟨v, u, rfl, r1, r2⟩ := den2 d1
  refine ⟨i, j, by rw [den_int r1, den_int r2], ?_⟩
  have e : (if j > i then j else i) = max i j := by split <;> omega
  rw [e]
  exact q _ H _ (fun _ _ h => h) .int q3
theorem sc_min2 : SimC K (fun xs H Q => ∃ i j, xs = [.int i, .int j] ∧ Q (.int (if j < i then j else i)) H) oMin2 := by
  intro H0 A0 av ad Γ C σ H vs ds Q3 Q R d1 ⟨i, j, e1, q3⟩ q
  subst e1
  obtain ⟨v, u, rfl, r1, r2⟩ := den2 d1
  refine ⟨i, j, by rw [den_int r1, den_int r2], ?_⟩
  have e : (if j < i then j else i) = min i j := by split <;> omega
  rw [e]
  exact q _ H _ (fun _ _ h => h) .int q3
def oInt : ON := fun _ ds Q => match ds with
  | [.int i] => Q (.int i)
  | [.bl k] => Q (.int (if k then 1 else 0))
  | _ => False
theorem sc_int : SimC K (fun xs H Q => (∃ i, xs = [.int i] ∧ Q (.int i) H) ∨ ∃ k, xs = [.bl k] ∧ Q (.int (if k then 1 else 0)) H) oInt := by
  intro H0 A0 av ad Γ C σ H vs ds Q3 Q R d1 h q
  unfold oInt at h
  split at h
  · obtain ⟨v, rfl, r⟩ := den1 d1
    exact .inl ⟨_, by rw [den_int r], q _ H _ (fun _ _ h => h) .int h⟩
  · obtain ⟨v, rfl, r⟩ := den1 d1
    exact .inr ⟨_, by rw [den_bl r], q _ H _ (fun _ _ h => h) .int h⟩
  · exact h.elim
def oSum : ON := fun C ds Q => ∃ (d : D) (ns : List Int), ds = [d] ∧ lstOf C d = some (ns.map .int) ∧ Q (.int ns.sum)
def oMaxL : ON := fun C ds Q => ∃ (d : D) (ns : List Int), ds = [d] ∧ lstOf C d = some (ns.map .int) ∧ 0 < ns.length ∧ ∀ m, m ∈ ns → (∀ y, y ∈ ns → y ≤ m) → Q (.int m)
def oMinL : ON := fun C ds Q => ∃ (d : D) (ns : List Int), ds = [d] ∧ lstOf C d = some (ns.map .int) ∧ 0 < ns.length ∧ ∀ m, m ∈ ns → (∀ y, y ∈ ns → m ≤ y) → Q (.int m)
theorem sc_maxL : SimC K (rMax K) oMaxL := by
  intro H0 A0 av ad Γ C σ H vs ds Q3 Q R d1 ⟨d, ns, e1, e2, h0, q3⟩ q
  subst e1
  obtain ⟨v, rfl, r⟩ := den1 d1
  obtain ⟨p, us, rfl, h1, r1⟩ := R.lst r e2
  rw [den_ints r1] at h1
  exact ⟨p, ns, rfl, .inl h1, h0, fun m a b => q _ H _ (fun _ _ h => h) .int (q3 m a b)⟩
theorem sc_minL : SimC K (rMin K) oMinL := by
  intro H0 A0 av ad Γ C σ H vs ds Q3 Q R d1 ⟨d, ns, e1, e2, h0, q3⟩ q
  subst e1
  obtain ⟨v, rfl, r⟩ := den1 d1
  obtain ⟨p, us, rfl, h1, r1⟩ := R.lst r e2
  rw [den_ints r1] at h1
  exact ⟨p, ns, rfl, .inl h1, h0, fun m a b => q _ H _ (fun _ _ h => h) .int (q3 m a b)⟩
theorem call_maxL (hK : X.K = K) (hc : X.calm = true) : CallR X (.builtin "max") (rMax K) := by subst hK; exact cr_max hc
theorem call_minL (hK : X.K = K) (hc : X.calm = true) : CallR X (.builtin "min") (rMin K) := by subst hK; exact cr_min hc
def oAll : ON := fun C ds Q => ∃ (d : D) (bs : List Bool), ds = [d] ∧ lstOf C d = some (bs.map .bl) ∧ Q (.bl (bs.all fun b => b))
theorem sc_all : SimC K (rAll K) oAll := by
  intro H0 A0 av ad Γ C σ H vs ds Q3 Q R d1 ⟨d, ns, e1, e2, q3⟩ q
  subst e1
  obtain ⟨v, rfl, r⟩ := den1 d1
  obtain ⟨p, us, rfl, h1, r1⟩ := R.lst r e2
  rw [den_bls r1] at h1
  exact ⟨p, ns, rfl, .inl h1, q _ H _ (fun _ _ h => h) .bl q3⟩
theorem call_all (hK : X.K = K) (hc : X.calm = true) : CallR X (.builtin "all") (rAll K) := by subst hK; exact cr_all hc
def nList : NN := fun C ds Q => ∃ d xs, ds = [d] ∧ seqOf C d = some xs ∧ Q (.lst xs)
theorem sf_list : SimCF K (fun xs H Q => ∃ p ys, xs = [.ref p] ∧ (SqL K H p ys ∨ SqT K H p ys) ∧ ∀ l, H l = none → Q (.ref l) (upd H l (.lst ys))) nList := by
  intro H0 A0 av ad Γ C σ H vs ds Q3 Q R d1 ⟨d, xs, e1, e2, q3⟩ q
  subst e1
  obtain ⟨v, rfl, r⟩ := den1 d1
  obtain ⟨p, us, rfl, h1, r1⟩ := R.seq r e2
  exact ⟨p, us, rfl, h1, fun l nl => q H l _ (.lst xs) (fun _ _ h => h) nl noTup_lst r1 q3⟩
theorem call_listA (hK : X.K = K) : CallR X (.type "list") (fun xs H Q => ∃ p ys, xs = [.ref p] ∧ (SqL K H p ys ∨ SqT K H p ys) ∧ ∀ l, H l = none → Q (.ref l) (upd H l (.lst ys))) := by subst hK; exact call_list_of
def oNone : Slots → Store → (Option Int → Store → Prop) → Prop := fun _ C Q => Q none C
def oSome (E : EV) : Slots → Store → (Option Int → Store → Prop) → Prop := fun Γ C Q => E Γ C fun d C1 => ∃ i, d = .int i ∧ Q (some i) C1
abbrev OV := Slots → Store → (Option Int → Store → Prop) → Prop
def SimO (K : PySem.W.Frag) (t : TO) (E : OV) : Prop := ∀ (H0 : Hp) (A0 : List Addr) (av : Av) (ad : Ads) (Γ : Slots) (C : Store) (σ : L2.St) (H : Hp) (Q3 : Option Int → Store → Prop) (Q : Option Int → Hp → Prop), Rep K H0 A0 av ad Γ C σ H → E Γ C Q3 →
  (∀ (b : Option Int) (H' : Hp) (av' : Av) (ad' : Ads) (C' : Store), Rep K H0 A0 av' ad' Γ C' σ H' → Le av ad H av' ad' H' → Q3 b C' → Q b H') → t σ H Q
structure VO (K : PySem.W.Frag) (X : Cx) (e : Option Expr) (t : TO) (E : OV) : Prop where
  po : PO X e t
  sim : SimO K t E
theorem vo_none : VO K X none tNoPart oNone := ⟨po_none, fun H0 A0 av ad Γ C σ H Q3 Q R h q => q none H av ad C R Le.refl h⟩
theorem vo_some (h : VE K X e te E) : VO K X (some e) (tPart te) (oSome E) := ⟨po_some h.pe, fun H0 A0 av ad Γ C σ H Q3 Q R h3 q =>
  h.sim H0 A0 av ad Γ C σ H _ _ R h3 fun v H' av' ad' d C' R' l d1 ⟨i, e, q3⟩ => ⟨i, den_int (e ▸ d1), q (some i) H' av' ad' C' R' l q3⟩⟩
def cutD (xs : List D) (lo hi : Option Int) : List D := (xs.drop (HT.sIx xs.length 0 lo)).take (HT.sIx xs.length xs.length hi - HT.sIx xs.length 0 lo)
theorem den_cut {H0 : Hp} {av : Av} {ad : Ads} {H : Hp} {vs : List V} {ds : List D} (x : DenAll K H0 av ad H vs ds) (lo hi : Option Int) : DenAll K H0 av ad H (cutV vs lo hi) (cutD ds lo hi) := by
  unfold cutV cutD
  rw [x.length]
  exact (x.drop _).take _
def fSlL (Ea : EV) (Lo Hi : OV) : FV := fun Γ C Q => Ea Γ C fun x C1 => Lo Γ C1 fun l C2 => Hi Γ C2 fun u C3 => ∃ xs, lstOf C3 x = some xs ∧ Q (.lst (cutD xs l u)) C3
theorem vf_slL {lo hi : Option Expr} {p2 : Pos} {tlo thi : TO} {Lo Hi : OV} (hK : X.K = K) (h : VE K X a ta Ea) (hl : VO K X lo tlo Lo) (hh : VO K X hi thi Hi) : VF K X (.Subscript a (.Slice lo hi none p2) pos) (tSl (rSlL K) ta tlo thi) (fSlL Ea Lo Hi) := by
  subst hK
  refine ⟨pe_slice sl_list h.pe hl.po hh.po, fun H0 A0 av ad Γ C σ H Q3 Q R h3 q => ?_⟩
  refine h.sim H0 A0 av ad Γ C σ H _ _ R h3 fun v H1 av1 ad1 d C1 R1 l1 d1 h4 => ?_
  refine hl.sim H0 A0 av1 ad1 Γ C1 σ H1 _ _ R1 h4 fun l H2 av2 ad2 C2 R2 l2 h5 => ?_
  refine hh.sim H0 A0 av2 ad2 Γ C2 σ H2 _ _ R2 h5 fun u H3 av3 ad3 C3 R3 l3 ⟨xs, e, q3⟩ => ?_
  obtain ⟨a, vs, rfl, hs, rs⟩ := R3.lst ((d1.le l2).le l3) e
  exact ⟨a, vs, rfl, .inl hs, fun p np => fin_new R3 ((l1.trans l2).trans l3) (fun _ _ h => h) np noTup_lst (c := .lst _) (den_cut rs l u) q3 q⟩
end
end L3
namespace L3
open PySem PySem.Spec PyProof.Rows L2
structure XD where
  nm : Str
  fs : List (Str × D) := []
def DenX (K : PySem.W.Frag) (H0 : Hp) (av : Av) (ad : Ads) (H : Hp) (cls : Value) (d : Option Addr) (x : XD) : Prop :=
  cls = .ref (He.ga K x.nm) ∧ ((x.fs = [] ∧ d = none) ∨ ∃ (dd : Addr) (vs : List (Str × V)), d = some dd ∧ H0 dd = none ∧ H dd = some (.xd vs) ∧ ¬ av dd ∧ vs.map (·.1) = x.fs.map (·.1) ∧ DenAll K H0 av ad H (vs.map (·.2)) (x.fs.map (·.2)))
structure En where
  nx : Slots → Store → Prop
  rt : D → Store → Prop
  bk : Slots → Store → Prop := fun _ _ => False
  ct : Slots → Store → Prop := fun _ _ => False
  ex : XD → Slots → Store → Prop := fun _ _ _ => False
  W : Value → Option Addr → L2.St → Hp → Prop := fun _ _ _ _ => False
abbrev SV := En → Slots → Store → Prop
abbrev GV := D → Slots → Store → (Slots → Store → Prop) → Prop
abbrev GVs := List D → Slots → Store → (Slots → Store → Prop) → Prop
structure Lift (K : PySem.W.Frag) (H0 : Hp) (A0 : List Addr) (av : Av) (ad : Ads) (H : Hp) (D3 : En) (De : L2.Ends) : Prop where
  nx : ∀ (av' : Av) (ad' : Ads) (Γ' : Slots) (C' : Store) (σ' : L2.St) (H' : Hp), Rep K H0 A0 av' ad' Γ' C' σ' H' → Le av ad H av' ad' H' → D3.nx Γ' C' → De.nx σ' H'
  rt : ∀ (av' : Av) (ad' : Ads) (Γ' : Slots) (C' : Store) (σ' : L2.St) (H' : Hp) (v : V) (d : D), Rep K H0 A0 av' ad' Γ' C' σ' H' → Le av ad H av' ad' H' → Den K H0 av' ad' H' v d → D3.rt d C' → De.rt v H'
  bk : ∀ (av' : Av) (ad' : Ads) (Γ' : Slots) (C' : Store) (σ' : L2.St) (H' : Hp), Rep K H0 A0 av' ad' Γ' C' σ' H' → Le av ad H av' ad' H' → D3.bk Γ' C' → De.bk σ' H'
  ct : ∀ (av' : Av) (ad' : Ads) (Γ' : Slots) (C' : Store) (σ' : L2.St) (H' : Hp), Rep K H0 A0 av' ad' Γ' C' σ' H' → Le av ad H av' ad' H' → D3.ct Γ' C' → De.ct σ' H'
  ex : ∀ (av' : Av) (ad' : Ads) (Γ' : Slots) (C' : Store) (σ' : L2.St) (H' : Hp) (cls : Value) (d : Option Addr) (x : XD), Rep K H0 A0 av' ad' Γ' C' σ' H' → Le av ad H av' ad' H' → DenX K H0 av' ad' H' cls d x → D3.ex x Γ' C' → D3.W cls d σ' H'
theorem Lift.later {K : PySem.W.Frag} {H0 : Hp} {A0 : List Addr} {av av1 : Av} {ad ad1 : Ads} {H H1 : Hp} {D3 : En} {D : L2.Ends} (l : Lift K H0 A0 av ad H D3 D) (f : Le av ad H av1 ad1 H1) : Lift K H0 A0 av1 ad1 H1 D3 D :=
  ⟨fun _ _ _ _ _ _ R g q => l.nx _ _ _ _ _ _ R (f.trans g) q, fun _ _ _ _ _ _ _ _ R g x q => l.rt _ _ _ _ _ _ _ _ R (f.trans g) x q, fun _ _ _ _ _ _ R g q => l.bk _ _ _ _ _ _ R (f.trans g) q, fun _ _ _ _ _ _ R g q => l.ct _ _ _ _ _ _ R (f.trans g) q, fun _ _ _ _ _ _ _ _ _ R g x q => l.ex _ _ _ _ _ _ _ _ _ R (f.trans g) x q⟩
section
variable (K : PySem.W.Frag)
def SimS (t : TS) (T : SV) : Prop := ∀ (H0 : Hp) (A0 : List Addr) (av : Av) (ad : Ads) (Γ : Slots) (C : Store) (σ : L2.St) (H : Hp) (D3 : En) (D : L2.Ends), Rep K H0 A0 av ad Γ C σ H → T D3 Γ C → Lift K H0 A0 av ad H D3 D → t D σ H
def SimG (g : TG) (G : GV) : Prop := ∀ (H0 : Hp) (A0 : List Addr) (av : Av) (ad : Ads) (Γ : Slots) (C : Store) (σ : L2.St) (H : Hp) (v : V) (d : D) (Q3 : Slots → Store → Prop) (Q : L2.St → Hp → Prop), Rep K H0 A0 av ad Γ C σ H → Den K H0 av ad H v d → G d Γ C Q3 →
  (∀ (av' : Av) (ad' : Ads) (Γ' : Slots) (C' : Store) (σ' : L2.St) (H' : Hp), Rep K H0 A0 av' ad' Γ' C' σ' H' → Le av ad H av' ad' H' → Q3 Γ' C' → Q σ' H') → g v σ H Q
def SimGs (g : TGs) (G : GVs) : Prop := ∀ (H0 : Hp) (A0 : List Addr) (av : Av) (ad : Ads) (Γ : Slots) (C : Store) (σ : L2.St) (H : Hp) (v : List V) (d : List D) (Q3 : Slots → Store → Prop) (Q : L2.St → Hp → Prop), Rep K H0 A0 av ad Γ C σ H → DenAll K H0 av ad H v d → G d Γ C Q3 →
  (∀ (av' : Av) (ad' : Ads) (Γ' : Slots) (C' : Store) (σ' : L2.St) (H' : Hp), Rep K H0 A0 av' ad' Γ' C' σ' H' → Le av ad H av' ad' H' → Q3 Γ' C' → Q σ' H') → g v σ H Q
structure VS (X : Cx) (st : Stmt) (t : TS) (T : SV) : Prop where
  ps : PS X st t
  sim : SimS K t T
structure VSs (X : Cx) (st : List Stmt) (t : TS) (T : SV) : Prop where
  ps : PSs X st t
  sim : SimS K t T
structure VG (X : Cx) (tg : Expr) (g : TG) (G : GV) : Prop where
  pg : PG X tg g
  sim : SimG K g G
structure VGs (X : Cx) (tg : List Expr) (g : TGs) (G : GVs) : Prop where
  pg : PGs X tg g
  sim : SimGs K g G
end
section
variable {K : PySem.W.Frag} {X : Cx} {e a b c o tg : Expr} {es rest : List Expr} {st : Stmt} {sts body orelse : List Stmt} {t ta tb tc te to : TE} {tt tu tA : TT} {ts us : TS} {T U : SV} {g : TG} {G : GV} {gs : TGs} {Gs : GVs} {E Ea Eb Ec Eo : EV} {F : FV} {B B' : BV} {tl : TA} {L : AV} {pos p apos : Pos} {x : Str} {id Ty : String}
def sNext : SV := fun D Γ C => D.nx Γ C
def sSeq (T U : SV) : SV := fun D Γ C => T { D with nx := U D } Γ C
theorem vss_nil : VSs K X [] tNext sNext := ⟨pss_nil, fun H0 A0 av ad Γ C σ H D3 D R h l => l.nx av ad Γ C σ H R Le.refl h⟩
theorem vss_cons (h : VS K X st ts T) (h' : VSs K X sts us U) : VSs K X (st :: sts) (tSeq ts us) (sSeq T U) := ⟨pss_cons h.ps h'.ps, fun H0 A0 av ad Γ C σ H D3 D R q l =>
  h.sim H0 A0 av ad Γ C σ H { D3 with nx := U D3 } { D with nx := us D } R q ⟨fun av' ad' Γ' C' σ' H' R' f q' => h'.sim H0 A0 av' ad' Γ' C' σ' H' D3 D R' q' (l.later f), l.rt, l.bk, l.ct, l.ex⟩⟩
theorem vss_one (h : VS K X st ts T) : VSs K X [st] ts T := ⟨pss_one h.ps, h.sim⟩
def sNever : SV := fun _ _ _ => False
theorem vs_never : VS K X st tNever sNever := ⟨ps_never, fun _ _ _ _ _ _ _ _ _ _ _ h _ => h.elim⟩
def sDrop (E : EV) : SV := fun D Γ C => E Γ C fun _ C' => D.nx Γ C'
theorem vs_expr (h : VE K X e te E) (hs : swapsWith e none pos.line X.env = pure false := by rfl) : VS K X (.Expr e pos) (tDrop te) (sDrop E) := ⟨ps_expr h.pe hs, fun H0 A0 av ad Γ C σ H D3 D R q l =>
  h.sim H0 A0 av ad Γ C σ H _ _ R q fun v H' av' ad' d C' R' l' _ q' => l.nx av' ad' Γ C' σ H' R' l' q'⟩
def sRet (E : EV) : SV := fun D Γ C => E Γ C D.rt
theorem vs_ret (h : VE K X e te E) : VS K X (.Return (some e) pos) (tRet te) (sRet E) := ⟨ps_ret h.pe, fun H0 A0 av ad Γ C σ H D3 D R q l =>
  h.sim H0 A0 av ad Γ C σ H _ _ R q fun v H' av' ad' d C' R' l' dv q' => l.rt av' ad' Γ C' σ H' v d R' l' dv q'⟩
def sIf (B : BV) (T U : SV) : SV := fun D Γ C => B Γ C fun k C' => if k = true then T D Γ C' else U D Γ C'
theorem vs_if (hc : VT K X c tA B) (h : VSs K X body ts T) (h' : VSs K X orelse us U) : VS K X (.If c body orelse pos) (tIfS tA ts us) (sIf B T U) := ⟨ps_if hc.pt h.ps h'.ps, fun H0 A0 av ad Γ C σ H D3 D R q l =>
  hc.sim H0 A0 av ad Γ C σ H _ _ R q fun k H' av' ad' C' R' l' q' => by
    cases k with
    | true => exact h.sim H0 A0 av' ad' Γ C' σ H' D3 D R' q' (l.later l')
    | false => exact h'.sim H0 A0 av' ad' Γ C' σ H' D3 D R' q' (l.later l')⟩
def gvName (i : Nat) : GV := fun d Γ C Q => Q (Γ.set i (some d)) C
theorem vg_name (i : Nat) {x : Str} {pos : Pos} (hN : X.N.Nodup) (hi : X.N[i]? = some x := by rfl) (hx : Loc X.env.scope x := by first | exact Or.inl rfl | exact Or.inr rfl) (hf : X.fn x = true ∨ X.env.scope.names.lookup x = some .local := by first | exact .inl rfl | exact .inr rfl) : VG K X (.Name x pos) (gName i) (gvName i) :=
  ⟨pg_name hN hi hx hf, fun H0 A0 av ad Γ C σ H v d Q3 Q R dv h q => q av ad _ C _ H (R.store i dv) Le.refl h⟩
def gvNil : GVs := fun ds Γ C Q => ds = [] ∧ Q Γ C
def gvCons (G : GV) (Gs : GVs) : GVs := fun ds Γ C Q => ∃ d r, ds = d :: r ∧ G d Γ C fun Γ' C' => Gs r Γ' C' Q
theorem vgs_nil : VGs K X [] gNil gvNil := ⟨pgs_nil, fun H0 A0 av ad Γ C σ H v d Q3 Q R dv ⟨e, h⟩ q => by
  subst e
  cases dv
  exact ⟨rfl, q av ad Γ C σ H R Le.refl h⟩⟩
theorem vgs_cons (h : VG K X e g G) (h' : VGs K X es gs Gs) (hs : (assignEach (e :: es) X.env).map (·.2) = assign e X.env :: (assignEach es X.env).map (·.2) := by rfl) : VGs K X (e :: es) (gCons g gs) (gvCons G Gs) := ⟨pgs_cons h.pg h'.pg hs, fun H0 A0 av ad Γ C σ H v d Q3 Q R dv ⟨d1, r, e1, h3⟩ q => by
  subst e1
  cases dv with
  | cons r1 r2 =>
    refine ⟨_, _, rfl, h.sim H0 A0 av ad Γ C σ H _ d1 _ _ R r1 h3 fun av' ad' Γ' C' σ' H' R' l q3 => ?_⟩
    exact h'.sim H0 A0 av' ad' Γ' C' σ' H' _ r _ _ R' (r2.le l) q3 fun av2 ad2 Γ2 C2 σ2 H2 R2 l2 q4 => q av2 ad2 Γ2 C2 σ2 H2 R2 (l.trans l2) q4⟩
def gvTup (n : Nat) (Gs : GVs) : GV := fun d Γ C Q => ∃ ds, d = .tup ds ∧ ds.length = n ∧ Gs ds Γ C Q
theorem vg_tup {k n : Nat} (hK : X.K = K) (hc : X.calm = true) (h : VGs K X es gs Gs) (hn : (assignEach es X.env).length = n := by rfl) (hst : (assignEach es X.env).findIdx? (·.1) = none := by rfl) : VG K X (.Tuple es k pos) (gTup K n gs) (gvTup n Gs) := by
  subst hK
  refine ⟨pg_tup hc h.pg hn hst, fun H0 A0 av ad Γ C σ H v d Q3 Q R dv ⟨ds, e, hl, h3⟩ q => ?_⟩
  subst e
  obtain ⟨p, vs, rfl, hs, r⟩ := R.tup dv
  exact ⟨p, vs, rfl, hs, r.length.trans hl, h.sim H0 A0 av ad Γ C σ H vs ds Q3 Q R r h3 q⟩
def gvSubL (Eo Ei : EV) : GV := fun d Γ C Q => Eo Γ C fun x C1 => Ei Γ C1 fun y C2 => ∃ (k : Nat) (xs : List D) (i : Int) (j : Nat), x = .ptr k ∧ y = .int i ∧ C2[k]? = some (.lst xs) ∧ ixN xs.length i = some j ∧ Q Γ (C2.set k (.lst (xs.set j d)))
theorem Rep.lstCell {H0 : Hp} {A0 : List Addr} {av : Av} {ad : Ads} {Γ : Slots} {C : Store} {σ : L2.St} {H : Hp} (R : Rep K H0 A0 av ad Γ C σ H) {k : Nat} {v : V} {xs : List D} (x : Den K H0 av ad H v (.ptr k)) (hc : C[k]? = some (.lst xs)) :
    ∃ a vs, v = .ref a ∧ ad[k]? = some (some a) ∧ H a = some (.lst vs) ∧ DenAll K H0 av ad H vs xs := by
  cases x with
  | ptr h =>
    obtain ⟨vs, e, r⟩ := R.cells k _ _ h hc
    exact ⟨_, vs, rfl, h, e, r⟩
theorem Rep.lstWrite {H0 : Hp} {A0 : List Addr} {av : Av} {ad : Ads} {Γ : Slots} {C : Store} {σ : L2.St} {H : Hp} (R : Rep K H0 A0 av ad Γ C σ H) {k : Nat} {a : Addr} {c : Cell} {ys : List D} {us : List V} (ha : ad[k]? = some (some a)) (hc : C[k]? = some c) (r : DenAll K H0 av ad H us ys) :
    Rep K H0 A0 av ad Γ (C.set k (.lst ys)) σ (upd H a (.lst us)) ∧ Le av ad H av ad (upd H a (.lst us)) := by
  have hlt : k < C.length := (List.getElem?_eq_some_iff.mp hc).1
  have f : Fz av H av (upd H a (.lst us)) := fun b u h n => ⟨by rw [upd_ne (fun e => n (by rw [e]; exact R.av_of ha))]; exact h, n⟩
  refine ⟨R.write ha hlt (fun _ z => nomatch z) fun f => ⟨us, upd_same, r.mono f Pre.refl⟩, f, Pre.refl, fun b e => ?_, fun _ h => h, fun _ h => .inl h, fun b u h n => by rw [upd_ne (fun e => n (by rw [e]; exact mem_ads ha))]; exact h⟩
  by_cases q : b = a
  · subst q; rw [upd_same] at e; cases e
  · rw [upd_ne q] at e; exact e
theorem vg_subL (ho : VE K X o to Eo) (hi : VE K X a ta Ea) (ha : ∀ v, assign (.Subscript o a pos) X.env v = (do
      let ov ← holding [v] (eval o X.env)
      let iv ← holding [v, ov] (eval a X.env)
      standAt pos
      holding [v, ov, iv] (setItem ov iv v)
      release [v, ov, iv] []) := by intro _; rfl) : VG K X (.Subscript o a pos) (gSub to ta rSetL) (gvSubL Eo Ea) := by
  refine ⟨pg_sub ho.pe hi.pe set_list ha, fun H0 A0 av ad Γ C σ H v d Q3 Q R dv h q => ?_⟩
  refine ho.sim H0 A0 av ad Γ C σ H _ _ R h fun vo H1 av1 ad1 d1 C1 R1 l1 e1 h1 => ?_
  refine hi.sim H0 A0 av1 ad1 Γ C1 σ H1 _ _ R1 h1 fun vi H2 av2 ad2 d2 C2 R2 l2 e2 ⟨k, xs, i, j, e3, e4, e5, e6, h2⟩ => ?_
  subst e3 e4
  obtain ⟨p, vs, rfl, hp, hl, r⟩ := R2.lstCell (e1.le l2) e5
  obtain ⟨R3, l3⟩ := R2.lstWrite hp e5 (r.set ((dv.le l1).le l2) j)
  exact ⟨p, vs, i, j, rfl, den_int e2, hl, by rw [r.length]; exact e6, q av2 ad2 Γ _ σ _ R3 ((l1.trans l2).trans l3) h2⟩
def sAsg (E : EV) (G : GV) : SV := fun D Γ C => E Γ C fun d C1 => G d Γ C1 D.nx
theorem sim_asg (h : SimE K te E) (h' : SimG K g G) : SimS K (tAsg te g) (sAsg E G) := fun H0 A0 av ad Γ C σ H D3 D R q l =>
  h H0 A0 av ad Γ C σ H _ _ R q fun v H' av' ad' d C' R' l' dv q' =>
    h' H0 A0 av' ad' Γ C' σ H' v d _ _ R' dv q' fun av2 ad2 Γ2 C2 σ2 H2 R2 l2 q2 => l.nx av2 ad2 Γ2 C2 σ2 H2 R2 (l'.trans l2) q2
theorem vs_asg (h : VE K X e te E) (hg : VG K X tg g G) (hs : swapsWithSole [tg] e pos.line X.env = pure false := by rfl) (hw : swappedStores [tg] e X.env = pure none := by rfl)
    (h1 : (assignEach [tg] X.env).map (·.2) = [assign tg X.env] := by rfl) : VS K X (.Assign [tg] e pos) (tAsg te g) (sAsg E G) := ⟨ps_asg h.pe hg.pg hs hw h1, sim_asg h.sim hg.sim⟩
theorem vs_set (i : Nat) {pos' : Pos} (hN : X.N.Nodup) (h : VE K X e te E) (hi : X.N[i]? = some x := by rfl) (hx : Loc X.env.scope x := by first | exact Or.inl rfl | exact Or.inr rfl) (hs : swapsWith e (some (.Name x pos')) pos.line X.env = pure false := by rfl) (hf : X.fn x = true ∨ X.env.scope.names.lookup x = some .local := by first | exact .inl rfl | exact .inr rfl) :
    VS K X (.Assign [.Name x pos'] e pos) (tAsg te (gName i)) (sAsg E (gvName i)) := ⟨ps_set hN hi hx h.pe hs hf, sim_asg h.sim fun H0 A0 av ad Γ C σ H v d Q3 Q R dv h q => q av ad _ C _ H (R.store i dv) Le.refl h⟩
def sPar (i j : Nat) (L : AV) : SV := fun D Γ C => L Γ C fun ds C1 => ∃ d d', ds = [d, d'] ∧ D.nx ((Γ.set i (some d)).set j (some d')) C1
theorem vs_par (i j : Nat) {x y : Str} {px py pt : Pos} {kt k2 pt2} (hc : X.calm = true) (hN : X.N.Nodup) (ha : VA K X [a, b] tl L) (hi : X.N[i]? = some x := by rfl) (hj : X.N[j]? = some y := by rfl) (hij : i ≠ j := by decide)
    (hx : X.env.scope.names.lookup x = some .local := by rfl) (hy : X.env.scope.names.lookup y = some .local := by rfl)
    (ps : ∀ {t : TA}, PA X [a, b] t → PS X (.Assign [.Tuple [.Name x px, .Name y py] kt pt] (.Tuple [a, b] k2 pt2) pos) (tPar i j t)) :
    VS K X (.Assign [.Tuple [.Name x px, .Name y py] kt pt] (.Tuple [a, b] k2 pt2) pos) (tPar i j tl) (sPar i j L) := ⟨ps ha.pa, fun H0 A0 av ad Γ C σ H D3 D R q l =>
  ha.sim H0 A0 av ad Γ C σ H _ _ R q fun vs H' av' ad' ds C' R' l' dv ⟨d, d', e, q'⟩ => by
    subst e
    obtain ⟨v, v', rfl, r1, r2⟩ := den2 dv
    exact ⟨v, v', rfl, l.nx av' ad' _ C' _ H' ((R'.store i r1).store j r2) l' q'⟩⟩
theorem sr_ipI {f : Int → Int → Int} : SimR K (ipI f) (oI fun i j => .int (f i j)) := by
  intro H0 A0 av ad Γ C σ H x y dx dy Q3 Q R d1 d2 ⟨i, j, e1, e2, q3⟩ q
  subst e1 e2
  exact ⟨i, j, den_int d1, den_int d2, q _ H _ (fun _ _ h => h) .int q3⟩
def sWhile (B : BV) (T : SV) : SV := fun D Γ C => ∃ W : Nat → Slots → Store → Prop, (∃ m, W m Γ C) ∧ ∀ m Γ C, W m Γ C → B Γ C fun k C1 => if k = true then T { D with nx := fun Γ' C' => ∃ m', m' < m ∧ W m' Γ' C', ct := fun Γ' C' => ∃ m', m' < m ∧ W m' Γ' C', bk := D.nx } Γ C1 else D.nx Γ C1
theorem vs_while (hp : PassesOwn (model X.prog X.w) X.A X.env X.xe) (hc : VT K X c tA B) (h : VSs K X body ts T) : VS K X (.While c body [] pos) (tWhile tA ts) (sWhile B T) := ⟨ps_while hp hc.pt h.ps, fun H0 A0 av ad Γ C σ H D3 D R ⟨W, ⟨m0, w0⟩, turn⟩ l => by
  refine ⟨fun m σ' H' => ∃ av' ad' Γ' C', Rep K H0 A0 av' ad' Γ' C' σ' H' ∧ Le av ad H av' ad' H' ∧ W m Γ' C', ⟨m0, av, ad, Γ, C, R, Le.refl, w0⟩, ?_⟩
  rintro m σ1 H1 ⟨av1, ad1, Γ1, C1, R1, f1, w1⟩
  refine hc.sim H0 A0 av1 ad1 Γ1 C1 σ1 H1 _ _ R1 (turn m Γ1 C1 w1) fun k H2 av2 ad2 C2 R2 l2 q2 => ?_
  cases k with
  | false => exact l.nx av2 ad2 Γ1 C2 σ1 H2 R2 (f1.trans l2) q2
  | true =>
    rw [if_pos rfl]
    refine ⟨fun σ' H' => ∃ av' ad' Γ' C', Rep K H0 A0 av' ad' Γ' C' σ' H' ∧ Le av ad H av' ad' H' ∧ ∃ m', m' < m ∧ W m' Γ' C', fun σ' H' ⟨av', ad', Γ', C', R', f', m', hm, w'⟩ => ⟨m', hm, av', ad', Γ', C', R', f', w'⟩, ?_⟩
    have f2 := f1.trans l2
    exact h.sim H0 A0 av2 ad2 Γ1 C2 σ1 H2 _ _ R2 q2 ⟨fun av' ad' Γ' C' σ' H' R' f' q' => ⟨av', ad', Γ', C', R', f2.trans f', q'⟩, fun _ _ _ _ _ _ _ _ R' f' x q' => l.rt _ _ _ _ _ _ _ _ R' (f2.trans f') x q',
      fun av' ad' Γ' C' σ' H' R' f' q' => l.nx av' ad' Γ' C' σ' H' R' (f2.trans f') q', fun av' ad' Γ' C' σ' H' R' f' q' => ⟨av', ad', Γ', C', R', f2.trans f', q'⟩, fun _ _ _ _ _ _ _ _ _ R' f' x q' => l.ex _ _ _ _ _ _ _ _ _ R' (f2.trans f') x q'⟩⟩
end
end L3
namespace L3
open PySem PySem.Spec PyProof.Rows L2
mutual
def noptr : D → Bool
  | .lst _ xs => noptrs xs
  | .tup xs => noptrs xs
  | .dk _ _ xs => noptrs xs
  | .dt _ _ xs => noptrs xs
  | .obj _ _ xs => noptrs xs
  | .exc _ _ xs => noptrs xs
  | .ptr _ => false
  | _ => true
def noptrs : List D → Bool
  | [] => true
  | x :: xs => noptr x && noptrs xs
end
section
variable {K : PySem.W.Frag} {H0 : Hp} {av av' : Av} {ad ad' : Ads} {H H' : Hp}
mutual
theorem Den.np (f : Fz av H av' H') : ∀ {v : V} {d : D}, Den K H0 av ad H v d → noptr d = true → Den K H0 av' ad' H' v d
  | _, _, .bad, _ => .bad
  | _, _, .non, _ => .non
  | _, _, .bl, _ => .bl
  | _, _, .int, _ => .int
  | _, _, .str, _ => .str
  | _, _, .lst r o x, h => .lst (f.lst r) (fun z => ⟨(o z).1, (f _ _ (o z).2 r.2).1⟩) (DenAll.np f x (by simpa [noptr] using h))
  | _, _, .tup r x, h => .tup (f.tup r) (DenAll.np f x (by simpa [noptr] using h))
  | _, _, .dk r n o k x, h => .dk (f.rd r n).1 (f.rd r n).2 o k (DenAll.np f x (by simpa [noptr] using h))
  | _, _, .dt r n o k x, h => .dt (f.rd r n).1 (f.rd r n).2 o k (DenAll.np f x (by simpa [noptr] using h))
  | _, _, .obj r n k x, h => .obj (f _ _ r n).1 (f _ _ r n).2 k (DenAll.np f x (by simpa [noptr] using h))
  | _, _, .exc r n q k x, h => .exc (f _ _ r n).1 (f _ _ r n).2 (f.exd q) k (DenAll.np f x (by simpa [noptr] using h))
  | _, _, .ptr _, h => by simp [noptr] at h
theorem DenAll.np (f : Fz av H av' H') : ∀ {vs : List V} {ds : List D}, DenAll K H0 av ad H vs ds → noptrs ds = true → DenAll K H0 av' ad' H' vs ds
  | _, _, .nil, _ => .nil
  | _, _, .cons a b, h => by
    simp only [noptrs, Bool.and_eq_true] at h
    exact .cons (Den.np f a h.1) (DenAll.np f b h.2)
end
end
theorem noptrs_map {α : Type} {f : α → D} (l : List α) (h : ∀ x ∈ l, noptr (f x) = true) : noptrs (l.map f) = true := by
  induction l with
  | nil => rfl
  | cons x l ih => rw [List.map_cons]; simp only [noptrs, Bool.and_eq_true]; exact ⟨h x (List.mem_cons_self ..), ih fun y hy => h y (List.mem_cons_of_mem _ hy)⟩
def Keeps (av0 : Av) (ad0 : Ads) (C0 : Store) (H0 : Hp) (src : List Nat) (ds : List D) (av : Av) (ad : Ads) (C : Store) (H : Hp) : Prop :=
  Fz av0 H0 av H ∧ (noptrs ds = true ∨ Pre ad0 ad) ∧ ∀ k, k ∈ src → ad[k]? = ad0[k]? ∧ C[k]? = C0[k]?
def Yields (K : PySem.W.Frag) (H0 : Hp) (A0 : List Addr) (J : It) (St : Av → Ads → Store → Hp → Prop) (ds : List D) : Prop :=
  ∀ (av : Av) (ad : Ads) (Γ : Slots) (C : Store) (σ : L2.St) (H : Hp) (i : Nat), Rep K H0 A0 av ad Γ C σ H → St av ad C H →
    (i < ds.length → J.go i H ∧ ∀ x H', J.yld i H x H' → (∀ a o, H a = some o → H' a = some o) ∧ ∃ d, ds[i]? = some d ∧ Den K H0 av ad H' x d) ∧ (ds.length ≤ i → J.stop i H)
abbrev IV := Slots → Store → (List D → List Nat → Store → Prop) → Prop
def SimI (K : PySem.W.Frag) (wi : TI) (E : IV) : Prop := ∀ (H0 : Hp) (A0 : List Addr) (av : Av) (ad : Ads) (Γ : Slots) (C : Store) (σ : L2.St) (H : Hp) (Q3 : List D → List Nat → Store → Prop) (R : It → Hp → Prop), Rep K H0 A0 av ad Γ C σ H → E Γ C Q3 →
  (∀ (J : It) (H' : Hp) (av' : Av) (ad' : Ads) (C' : Store) (ds : List D) (src : List Nat), Rep K H0 A0 av' ad' Γ C' σ H' → Le av ad H av' ad' H' → Yields K H0 A0 J (Keeps av' ad' C' H' src ds) ds → Q3 ds src C' → R J H') → wi σ H R
structure VI (K : PySem.W.Frag) (X : Cx) (tg iter : Expr) (wi : TI) (E : IV) : Prop where
  pi : PI X tg iter wi
  sim : SimI K wi E
def srcOf : D → List Nat
  | .ptr k => [k]
  | _ => []
section
variable {K : PySem.W.Frag} {X : Cx} {e a b c o tg l : Expr} {es rest elts : List Expr} {st : Stmt} {sts body orelse : List Stmt} {t ta tb tc te to tle : TE} {tt tu tA : TT} {ts us : TS} {T U : SV} {g : TG} {G : GV} {E Ea Eb Ec Eo : EV} {F : FV} {B B' : BV} {tl : TA} {L : AV} {pos p apos tpos : Pos} {x : Str} {wi : TI} {I : IV} {kk : Nat}
theorem lst_later {H0 : Hp} {A0 : List Addr} {av : Av} {ad : Ads} {Γ : Slots} {C : Store} {σ : L2.St} {H : Hp} {d : D} {v : V} {xs ds : List D} {src : List Nat} (R : Rep K H0 A0 av ad Γ C σ H) (x : Den K H0 av ad H v d) (e : lstOf C d = some xs) (hsrc : ∀ k, k ∈ srcOf d → k ∈ src)
    (hds : noptrs ds = true → noptrs xs = true) :
    ∃ a, v = .ref a ∧ (∃ vs, SqL K H a vs) ∧ ∀ (av' : Av) (ad' : Ads) (Γ' : Slots) (C' : Store) (σ' : L2.St) (H' : Hp), Rep K H0 A0 av' ad' Γ' C' σ' H' → Keeps av ad C H src ds av' ad' C' H' → ∃ vs, SqL K H' a vs ∧ DenAll K H0 av' ad' H' vs xs := by
  cases x with
  | @lst a vs ob ds' r ho q =>
    simp only [lstOf] at e; cases e
    refine ⟨a, rfl, ⟨vs, r.sq⟩, fun av' ad' Γ' C' σ' H' R' k => ⟨vs, (k.1.lst r).sq, ?_⟩⟩
    rcases k.2.1 with z | z
    · exact q.np k.1 (hds z)
    · exact q.mono k.1 z
  | @ptr a k h =>
    obtain ⟨a', vs, e1, e2, e3⟩ := R.lst (.ptr h) e
    cases e1
    refine ⟨a, rfl, ⟨vs, .inl e2⟩, fun av' ad' Γ' C' σ' H' R' kp => ?_⟩
    obtain ⟨h1, h2⟩ := kp.2.2 k (hsrc k (List.mem_singleton.mpr rfl))
    have e' : lstOf C' (.ptr k) = some xs := by simp only [lstOf] at e ⊢; rw [h2]; exact e
    obtain ⟨a2, us, q1, q2, q3⟩ := R'.lst (v := .ref a) (.ptr (h1.trans h)) e'
    cases q1
    exact ⟨us, .inl q2, q3⟩
  | bad => cases e
  | non => cases e
  | bl => cases e
  | int => cases e
  | str => cases e
  | tup _ _ => cases e
  | dk _ _ _ _ _ => cases e
  | dt _ _ _ _ _ => cases e
  | obj _ _ _ _ => cases e
  | exc _ _ _ _ _ => cases e
def iLst (E : EV) : IV := fun Γ C Q => E Γ C fun d C1 => ∃ xs, lstOf C1 d = some xs ∧ Q xs (srcOf d) C1
theorem vi_list (hK : X.K = K) (h : VE K X l tle E) : VI K X tg l (iList K tle) (iLst E) := by
  subst hK
  refine ⟨pi_list h.pe, fun H0 A0 av ad Γ C σ H Q3 Rr R h3 q => ?_⟩
  refine h.sim H0 A0 av ad Γ C σ H _ _ R h3 fun v H' av' ad' d C' R' l' dv ⟨xs, e, q3⟩ => ?_
  obtain ⟨a, rfl, hs, later⟩ := lst_later (ds := xs) (src := srcOf d) R' dv e (fun _ z => z) (fun z => z)
  refine ⟨a, rfl, hs, q (Itl X.K a) H' av' ad' C' xs (srcOf d) R' l' (fun av1 ad1 Γ1 C1 σ1 H1 i R1 k => ?_) q3⟩
  obtain ⟨vs, s1, r1⟩ := later av1 ad1 Γ1 C1 σ1 H1 R1 k
  refine ⟨fun hi => ⟨⟨vs, vs[i]'(by rw [r1.length]; exact hi), s1, by simp⟩, fun y H2 ⟨e1, e2⟩ => ?_⟩, fun hi => ⟨vs, s1, by rw [r1.length]; exact hi⟩⟩
  subst e1
  obtain ⟨d', e3, r3⟩ := r1.get' (e2 vs s1)
  exact ⟨fun _ _ h => h, d', e3, r3⟩
def iTupl (E : EV) : IV := fun Γ C Q => E Γ C fun d C1 => ∃ xs, d = .tup xs ∧ Q xs [] C1
theorem vi_tup (hK : X.K = K) (h : VE K X l tle E) : VI K X tg l (iTup K tle) (iTupl E) := by
  subst hK
  refine ⟨pi_tup h.pe, fun H0 A0 av ad Γ C σ H Q3 Rr R h3 q => ?_⟩
  refine h.sim H0 A0 av ad Γ C σ H _ _ R h3 fun v H' av' ad' d C' R' l' dv ⟨xs, e, q3⟩ => ?_
  subst e
  cases dv with
  | @tup a vs _ r rs =>
  refine ⟨a, rfl, ⟨vs, r.sq⟩, q (Itt X.K a) H' av' ad' C' xs [] R' l' (fun av1 ad1 Γ1 C1 σ1 H1 i R1 k => ?_) q3⟩
  have s1 : SqT X.K H1 a vs := (k.1.tup r).sq
  have r1 : DenAll X.K H0 av1 ad1 H1 vs xs := by
    rcases k.2.1 with z | z
    · exact rs.np k.1 z
    · exact rs.mono k.1 z
  have inj : ∀ us, SqT X.K H1 a us → (H1 a = some (.tup vs)) → us[i]? = vs[i]? ∨ True := fun _ _ _ => .inr trivial
  refine ⟨fun hi => ⟨⟨vs, vs[i]'(by rw [r1.length]; exact hi), s1, by simp⟩, fun y H2 ⟨e1, e2⟩ => ?_⟩, fun hi => ⟨vs, s1, by rw [r1.length]; exact hi⟩⟩
  subst e1
  obtain ⟨d', e3, r3⟩ := r1.get' (e2 vs s1)
  exact ⟨fun _ _ h => h, d', e3, r3⟩
def rgI (lo : Int) (n : Nat) : List D := (List.range n).map fun i => .int (lo + (i : Nat))
theorem rgI_np {lo : Int} {n : Nat} : noptrs (rgI lo n) = true := noptrs_map _ fun _ _ => rfl
theorem yields_range {H0 : Hp} {A0 : List Addr} {lo : Int} {n : Nat} {St : Av → Ads → Store → Hp → Prop} : Yields K H0 A0 (Itr lo n) St (rgI lo n) := fun av ad Γ C σ H i R _ => by
  have hl : (rgI lo n).length = n := by simp [rgI]
  refine ⟨fun hi => ⟨by rw [hl] at hi; exact hi, fun y H2 ⟨e1, e2⟩ => ?_⟩, fun hi => by rw [hl] at hi; exact hi⟩
  subst e1 e2
  rw [hl] at hi
  exact ⟨fun _ _ h => h, .int (lo + i), by simp [rgI, hi], .int⟩
def iRange1 (L : AV) : IV := fun Γ C Q => L Γ C fun ds C1 => ∃ j : Int, ds = [.int j] ∧ -(2 ^ 62) ≤ j ∧ j < 2 ^ 62 ∧ Q (rgI 0 j.toNat) [] C1
theorem vi_range1 (hm : X.mg "range" = none) (h : VA K X [a] tl L) (hg : Gl X "range" := by rfl) (hs : starEach [a] X.env = [(false, eval a X.env)] := by rfl) : VI K X tg (.Call (.Name "range" p) [a] [] pos) (iRng1 tl) (iRange1 L) :=
  ⟨pi_range1 hg hm h.pa hs, fun H0 A0 av ad Γ C σ H Q3 Rr R h3 q =>
    h.sim H0 A0 av ad Γ C σ H _ _ R h3 fun vs H' av' ad' ds C' R' l' dv ⟨j, e, h1, h2, q3⟩ => by
      subst e
      obtain ⟨v, rfl, r⟩ := den1 dv
      exact ⟨j, by rw [den_int r], h1, h2, q _ H' av' ad' C' _ _ R' l' yields_range q3⟩⟩
def iRange2 (L : AV) : IV := fun Γ C Q => L Γ C fun ds C1 => ∃ i j : Int, ds = [.int i, .int j] ∧ (-(2 ^ 62) ≤ i ∧ i < 2 ^ 62 ∧ -(2 ^ 62) ≤ j ∧ j < 2 ^ 62) ∧ Q (rgI i (j - i).toNat) [] C1
theorem vi_range2 (hm : X.mg "range" = none) (h : VA K X [a, b] tl L) (hg : Gl X "range" := by rfl) (hs : starEach [a, b] X.env = [(false, eval a X.env), (false, eval b X.env)] := by rfl) (hs2 : starEach [b] X.env = [(false, eval b X.env)] := by rfl) :
    VI K X tg (.Call (.Name "range" p) [a, b] [] pos) (iRng2 tl) (iRange2 L) :=
  ⟨pi_range2 hg hm h.pa hs hs2, fun H0 A0 av ad Γ C σ H Q3 Rr R h3 q =>
    h.sim H0 A0 av ad Γ C σ H _ _ R h3 fun vs H' av' ad' ds C' R' l' dv ⟨i, j, e, hb, q3⟩ => by
      subst e
      obtain ⟨v, u, rfl, r, r2⟩ := den2 dv
      exact ⟨i, j, by rw [den_int r, den_int r2], hb, q _ H' av' ad' C' _ _ R' l' yields_range q3⟩⟩
def signs (s : Str) : List D := s.cps.toList.map fun c => .str ⟨#[c]⟩
def iSigns (E : EV) : IV := fun Γ C Q => E Γ C fun d C1 => ∃ s, d = .str s ∧ Q (signs s) [] C1
theorem vi_str (h : VE K X l tle E) : VI K X tg l (iStr tle) (iSigns E) := by
  refine ⟨pi_str h.pe, fun H0 A0 av ad Γ C σ H Q3 Rr R h3 q => ?_⟩
  refine h.sim H0 A0 av ad Γ C σ H _ _ R h3 fun v H' av' ad' d C' R' l' dv ⟨s, e, q3⟩ => ?_
  subst e
  refine ⟨s, den_str dv, q _ H' av' ad' C' _ _ R' l' (fun av1 ad1 Γ1 C1 σ1 H1 i R1 k => ?_) q3⟩
  have hl : (signs s).length = s.cps.size := by simp [signs]
  refine ⟨fun hi => ⟨by rw [hl] at hi; exact hi, fun y H2 ⟨e1, c, e2, e3⟩ => ?_⟩, fun hi => by rw [hl] at hi; exact hi⟩
  subst e1 e3
  refine ⟨fun _ _ h => h, .str ⟨#[c]⟩, ?_, .str⟩
  simp only [signs, List.getElem?_map, Array.getElem?_toList, e2, Option.map_some]
def enumD (i : Nat) : List D → List D
  | [] => []
  | x :: xs => .tup [.int i, x] :: enumD (i + 1) xs
theorem enumD_len : ∀ (xs : List D) (i : Nat), (enumD i xs).length = xs.length
  | [], _ => rfl
  | _ :: xs, i => congrArg (· + 1) (enumD_len xs (i + 1))
theorem enumD_get : ∀ (xs : List D) (i j : Nat) {x : D}, xs[j]? = some x → (enumD i xs)[j]? = some (.tup [.int ((i + j : Nat) : Int), x])
  | [], _, _, _, e => by simp at e
  | y :: xs, i, 0, x, e => by simp at e; subst e; rfl
  | y :: xs, i, j + 1, x, e => by
    have := enumD_get xs (i + 1) j (x := x) (by simpa using e)
    rw [show i + 1 + j = i + (j + 1) by omega] at this
    exact this
def iEnumD (L : AV) : IV := fun Γ C Q => L Γ C fun ds C1 => ∃ d xs, ds = [d] ∧ lstOf C1 d = some xs ∧ Q (enumD 0 xs) (srcOf d) C1
def zipD : List D → List D → List D
  | x :: xs, y :: ys => .tup [x, y] :: zipD xs ys
  | _, _ => []
theorem zipD_len : ∀ (xs ys : List D), (zipD xs ys).length = min xs.length ys.length
  | [], ys => by simp [zipD]
  | _ :: _, [] => by simp [zipD]
  | x :: xs, y :: ys => by simp only [zipD, List.length_cons, zipD_len xs ys]; omega
theorem zipD_get : ∀ (xs ys : List D) (j : Nat) {x y : D}, xs[j]? = some x → ys[j]? = some y → (zipD xs ys)[j]? = some (.tup [x, y])
  | [], _, _, _, _, e, _ => by simp at e
  | _ :: _, [], _, _, _, _, e => by simp at e
  | a :: xs, b :: ys, 0, x, y, e, e2 => by simp at e e2; subst e e2; rfl
  | a :: xs, b :: ys, j + 1, x, y, e, e2 => zipD_get xs ys j (x := x) (y := y) (by simpa using e) (by simpa using e2)
def iZipD (L : AV) : IV := fun Γ C Q => L Γ C fun ds C1 => ∃ d d' xs ys, ds = [d, d'] ∧ lstOf C1 d = some xs ∧ lstOf C1 d' = some ys ∧ (noptrs xs && noptrs ys) = true ∧ Q (zipD xs ys) (srcOf d ++ srcOf d') C1
theorem vi_zip (hK : X.K = K) (hm : X.mg "zip" = none) (h : VA K X [a, b] tl L) (hg : Gl X "zip" := by rfl) (hs : starEach [a, b] X.env = (false, eval a X.env) :: starEach [b] X.env := by rfl) (hpl : (backTo pos (starEach [b] X.env)).any (·.1) = false := by rfl) :
    VI K X (.Tuple elts kk tpos) (.Call (.Name "zip" p) [a, b] [] pos) (iZip K tl) (iZipD L) := by
  subst hK
  refine ⟨pi_zip hg hm h.pa hs hpl, fun H0 A0 av ad Γ C σ H Q3 Rr R h3 q => ?_⟩
  refine h.sim H0 A0 av ad Γ C σ H _ _ R h3 fun vs H' av' ad' ds C' R' l' dv ⟨d, d', xs, ys, e1, e, e', hnp, q3⟩ => ?_
  subst e1
  simp only [Bool.and_eq_true] at hnp
  obtain ⟨v, v', rfl, r, r'⟩ := den2 dv
  obtain ⟨a, rfl, ⟨vs, hs⟩, later⟩ := lst_later (ds := zipD xs ys) (src := srcOf d ++ srcOf d') R' r e (fun _ z => List.mem_append_left _ z) (fun _ => hnp.1)
  obtain ⟨b, rfl, ⟨us, hs2⟩, later2⟩ := lst_later (ds := zipD xs ys) (src := srcOf d ++ srcOf d') R' r' e' (fun _ z => List.mem_append_right _ z) (fun _ => hnp.2)
  refine ⟨a, b, vs, us, rfl, hs, hs2, q _ H' av' ad' C' _ _ R' l' (fun av1 ad1 Γ1 C1 σ1 H1 i R1 k => ?_) q3⟩
  obtain ⟨vs1, s1, r1⟩ := later av1 ad1 Γ1 C1 σ1 H1 R1 k
  obtain ⟨us1, s2, r2⟩ := later2 av1 ad1 Γ1 C1 σ1 H1 R1 k
  have l1 := r1.length
  have l2 := r2.length
  rw [zipD_len]
  refine ⟨fun hi => ⟨⟨vs1, us1, vs1[i]'(by omega), us1[i]'(by omega), s1, s2, by simp, by simp⟩, fun y H2 ⟨T, x, z, e1, e2, e3, e4, e5⟩ => ?_⟩, fun hi => ⟨vs1, us1, s1, s2, by omega⟩⟩
  subst e1 e3
  obtain ⟨dx, e6, rx⟩ := r1.get' (e4 vs1 s1)
  obtain ⟨dz, e7, rz⟩ := r2.get' (e5 us1 s2)
  exact ⟨same_upd e2, _, zipD_get xs ys i e6 e7, .tup ⟨upd_same, R1.nav e2⟩ (.cons (rx.le (Le.new e2)) (.cons (rz.le (Le.new e2)) .nil))⟩
def forW (G : GV) (T : SV) (D3 : En) : List D → Slots → Store → Prop
  | [], Γ, C => D3.nx Γ C
  | d :: ds, Γ, C => G d Γ C fun Γ1 C1 => T { D3 with nx := forW G T D3 ds, ct := forW G T D3 ds, bk := D3.nx } Γ1 C1
def sFor (I : IV) (G : GV) (T : SV) : SV := fun D3 Γ C => I Γ C fun ds src C1 => src = [] ∧ noptrs ds = true ∧ forW G T D3 ds Γ C1
theorem vs_for (hp : PassesOwn (model X.prog X.w) X.A X.env X.xe) (hc : X.calm = true) (hi : VI K X tg e wi I) (hg : VG K X tg g G) (hb : VSs K X body ts T)
    (hs : ∀ x, foldedSetIterable e X.env x = pure x := by intro _; rfl) : VS K X (.For tg e body [] pos) (tFor wi g ts) (sFor I G T) := ⟨ps_for hp hc hi.pi hg.pg hb.ps hs, fun H0 A0 av ad Γ C σ H D3 De R q l => by
  refine hi.sim H0 A0 av ad Γ C σ H _ _ R q fun J H1 av1 ad1 C1 ds src R1 l1 Y ⟨hsrc, hnp, w0⟩ => ?_
  subst hsrc
  refine ⟨fun i m σ' H' => m = ds.length - i ∧ i ≤ ds.length ∧ ∃ av' ad' Γ' C', Rep K H0 A0 av' ad' Γ' C' σ' H' ∧ Le av1 ad1 H1 av' ad' H' ∧ forW G T D3 (ds.drop i) Γ' C', ⟨ds.length, by simp, Nat.zero_le _, av1, ad1, Γ, C1, R1, Le.refl, w0⟩, ?_⟩
  rintro i m σ2 H2 ⟨rfl, hi, av2, ad2, Γ2, C2, R2, f2, w2⟩
  have k : Keeps av1 ad1 C1 H1 [] ds av2 ad2 C2 H2 := ⟨f2.fz, .inl hnp, fun _ z => nomatch z⟩
  obtain ⟨y1, y2⟩ := Y av2 ad2 Γ2 C2 σ2 H2 i R2 k
  by_cases hlt : i < ds.length
  · obtain ⟨hgo, hy⟩ := y1 hlt
    refine .inr ⟨hgo, fun σ' H' => i + 1 ≤ ds.length ∧ ∃ av' ad' Γ' C', Rep K H0 A0 av' ad' Γ' C' σ' H' ∧ Le av1 ad1 H1 av' ad' H' ∧ forW G T D3 (ds.drop (i + 1)) Γ' C', fun σ' H' ⟨h1, h2⟩ => ⟨ds.length - (i + 1), by omega, rfl, h1, h2⟩, fun x H3 hx => ?_⟩
    obtain ⟨s3, d, e3, r3⟩ := hy x H3 hx
    have ed : ds.drop i = d :: ds.drop (i + 1) := by
      rw [List.drop_eq_getElem_cons hlt]
      have : ds[i] = d := by
        rw [List.getElem?_eq_getElem hlt] at e3
        exact Option.some.inj e3
      rw [this]
    rw [ed] at w2
    refine hg.sim H0 A0 av2 ad2 Γ2 C2 σ2 H3 x d _ _ (R2.same s3) r3 w2 fun av4 ad4 Γ4 C4 σ4 H4 R4 l4 w4 => ?_
    have f4 : Le av1 ad1 H1 av4 ad4 H4 := (f2.trans (Le.same s3)).trans l4
    exact hb.sim H0 A0 av4 ad4 Γ4 C4 σ4 H4 _ _ R4 w4 ⟨fun av' ad' Γ' C' σ' H' R' f' q' => ⟨hlt, av', ad', Γ', C', R', f4.trans f', q'⟩,
      fun _ _ _ _ _ _ _ _ R' f' x q' => l.rt _ _ _ _ _ _ _ _ R' ((l1.trans f4).trans f') x q',
      fun av' ad' Γ' C' σ' H' R' f' q' => l.nx av' ad' Γ' C' σ' H' R' ((l1.trans f4).trans f') q', fun av' ad' Γ' C' σ' H' R' f' q' => ⟨hlt, av', ad', Γ', C', R', f4.trans f', q'⟩, fun _ _ _ _ _ _ _ _ _ R' f' x q' => l.ex _ _ _ _ _ _ _ _ _ R' ((l1.trans f4).trans f') x q'⟩
  · have e : i = ds.length := by omega
    subst e
    rw [List.drop_length] at w2
    exact .inl ⟨y2 (Nat.le_refl _), l.nx av2 ad2 Γ2 C2 σ2 H2 R2 (l1.trans f2) w2⟩⟩
def forC (G : GV) (T : SV) (D3 : En) (ok : Store → Prop) : List D → Slots → Store → Prop
  | [], Γ, C => D3.nx Γ C
  | d :: ds, Γ, C => G d Γ C fun Γ1 C1 => T { D3 with nx := fun Γ C => ok C ∧ forC G T D3 ok ds Γ C, ct := fun Γ C => ok C ∧ forC G T D3 ok ds Γ C, bk := D3.nx } Γ1 C1
def sForC (I : IV) (G : GV) (T : SV) : SV := fun D3 Γ C => I Γ C fun ds src C1 => noptrs ds = true ∧ forC G T D3 (fun C => ∀ k, k ∈ src → C[k]? = C1[k]?) ds Γ C1
theorem Le.keeps {K : PySem.W.Frag} {H0 : Hp} {A0 : List Addr} {av1 av2 : Av} {ad1 ad2 : Ads} {Γ1 Γ2 : Slots} {C1 C2 : Store} {σ1 σ2 : L2.St} {H1 H2 : Hp} {src : List Nat} {ds : List D} (R1 : Rep K H0 A0 av1 ad1 Γ1 C1 σ1 H1) (R2 : Rep K H0 A0 av2 ad2 Γ2 C2 σ2 H2) (l2 : Le av1 ad1 H1 av2 ad2 H2) (hnp : noptrs ds = true) (ok2 : ∀ k, k ∈ src → C2[k]? = C1[k]?) : Keeps av1 ad1 C1 H1 src ds av2 ad2 C2 H2 := by
  refine ⟨l2.fz, .inl hnp, fun k hk => ⟨?_, ok2 k hk⟩⟩
  cases e : ad1[k]? with
  | none =>
    have h1 := R1.len
    have h2 : C1[k]? = none := by rw [List.getElem?_eq_none_iff] at e ⊢; omega
    have h3 := ok2 k hk
    rw [h2] at h3
    rw [List.getElem?_eq_none_iff] at h3 ⊢
    have := R2.len
    omega
  | some o =>
    cases o with
    | some a => exact l2.pre k a e
    | none =>
      have h1 := R1.gone k e
      have h2 := ok2 k hk
      rw [h1] at h2
      have hlt : k < ad2.length := by rw [R2.len]; exact (List.getElem?_eq_some_iff.mp h2).1
      cases q2 : ad2[k]? with
      | none => rw [List.getElem?_eq_getElem hlt] at q2; cases q2
      | some o =>
        cases o with
        | none => rfl
        | some a => exact (R2.cells k a _ q2 h2).elim
theorem vs_forC (hp : PassesOwn (model X.prog X.w) X.A X.env X.xe) (hc : X.calm = true) (hi : VI K X tg e wi I) (hg : VG K X tg g G) (hb : VSs K X body ts T)
    (hs : ∀ x, foldedSetIterable e X.env x = pure x := by intro _; rfl) : VS K X (.For tg e body [] pos) (tFor wi g ts) (sForC I G T) := ⟨ps_for hp hc hi.pi hg.pg hb.ps hs, fun H0 A0 av ad Γ C σ H D3 De R q l => by
  refine hi.sim H0 A0 av ad Γ C σ H _ _ R q fun J H1 av1 ad1 C1 ds src R1 l1 Y ⟨hnp, w0⟩ => ?_
  let okS : Store → Prop := fun C => ∀ k, k ∈ src → C[k]? = C1[k]?
  refine ⟨fun i m σ' H' => m = ds.length - i ∧ i ≤ ds.length ∧ ∃ av' ad' Γ' C', Rep K H0 A0 av' ad' Γ' C' σ' H' ∧ Le av1 ad1 H1 av' ad' H' ∧ okS C' ∧ forC G T D3 okS (ds.drop i) Γ' C', ⟨ds.length, by simp, Nat.zero_le _, av1, ad1, Γ, C1, R1, Le.refl, fun _ _ => rfl, w0⟩, ?_⟩
  rintro i m σ2 H2 ⟨rfl, hi, av2, ad2, Γ2, C2, R2, f2, ok2, w2⟩
  have k : Keeps av1 ad1 C1 H1 src ds av2 ad2 C2 H2 := f2.keeps R1 R2 hnp ok2
  obtain ⟨y1, y2⟩ := Y av2 ad2 Γ2 C2 σ2 H2 i R2 k
  by_cases hlt : i < ds.length
  · obtain ⟨hgo, hy⟩ := y1 hlt
    refine .inr ⟨hgo, fun σ' H' => i + 1 ≤ ds.length ∧ ∃ av' ad' Γ' C', Rep K H0 A0 av' ad' Γ' C' σ' H' ∧ Le av1 ad1 H1 av' ad' H' ∧ okS C' ∧ forC G T D3 okS (ds.drop (i + 1)) Γ' C', fun σ' H' ⟨h1, h2⟩ => ⟨ds.length - (i + 1), by omega, rfl, h1, h2⟩, fun x H3 hx => ?_⟩
    obtain ⟨s3, d, e3, r3⟩ := hy x H3 hx
    have ed : ds.drop i = d :: ds.drop (i + 1) := by
      rw [List.drop_eq_getElem_cons hlt]
      have : ds[i] = d := by
        rw [List.getElem?_eq_getElem hlt] at e3
        exact Option.some.inj e3
      rw [this]
    rw [ed] at w2
    refine hg.sim H0 A0 av2 ad2 Γ2 C2 σ2 H3 x d _ _ (R2.same s3) r3 w2 fun av4 ad4 Γ4 C4 σ4 H4 R4 l4 w4 => ?_
    have f4 : Le av1 ad1 H1 av4 ad4 H4 := (f2.trans (Le.same s3)).trans l4
    exact hb.sim H0 A0 av4 ad4 Γ4 C4 σ4 H4 _ _ R4 w4 ⟨fun av' ad' Γ' C' σ' H' R' f' q' => ⟨hlt, av', ad', Γ', C', R', f4.trans f', q'.1, q'.2⟩,
      fun _ _ _ _ _ _ _ _ R' f' x q' => l.rt _ _ _ _ _ _ _ _ R' ((l1.trans f4).trans f') x q',
      fun av' ad' Γ' C' σ' H' R' f' q' => l.nx av' ad' Γ' C' σ' H' R' ((l1.trans f4).trans f') q', fun av' ad' Γ' C' σ' H' R' f' q' => ⟨hlt, av', ad', Γ', C', R', f4.trans f', q'.1, q'.2⟩, fun _ _ _ _ _ _ _ _ _ R' f' x q' => l.ex _ _ _ _ _ _ _ _ _ R' ((l1.trans f4).trans f') x q'⟩
  · have e : i = ds.length := by omega
    subst e
    rw [List.drop_length] at w2
    exact .inl ⟨y2 (Nat.le_refl _), l.nx av2 ad2 Γ2 C2 σ2 H2 R2 (l1.trans f2) w2⟩⟩
end
end L3
namespace L3
open PySem PySem.Spec PyProof.Rows L2
structure RoomG (k : Nat) (A : Around) : Prop where
  rm : Room k A
  gd : A.guards = some []
theorem RoomG.mono {j k : Nat} {A : Around} (r : RoomG k A) (h : j ≤ k) : RoomG j A := ⟨r.rm.mono h, r.gd⟩
theorem RoomG.deeper {k : Nat} {A : Around} (r : RoomG (k + 1) A) (env : Env) : RoomG k (A.deeper env) := ⟨r.rm.deeper env, r.gd⟩
theorem RoomG.units {k : Nat} {A : Around} (r : RoomG k A) : A.units + 64 < cLine := r.rm.units
theorem u65 {k : Nat} {A : Around} (r : RoomG k A) : A.units + 65 < cLine := by have := r.rm.un; omega
structure FnOkG (P : Program) (w : World) (K : PySem.W.Frag) (mg : Str → Option Value) (base : Heap) (CX : CXT) (k : Nat) (f : Addr) (fd : FuncData) (ps : List Str) (sp : Sp) : Prop where
  len : ∀ vs H Q E, sp vs H Q E → vs.length = ps.length
  run : ∀ (A : Around) (outer : List Env) (s : Shared) (H : Hp) (args : Args) (us : List Value) (vs : List V) (Q : VK) (E : XK), RoomG k A → Env0 P w K mg base A outer s H → BindsTo s fd args (ps.zip us) → Vals vs us → sp vs H Q E →
    codeAny (model P w) A (.call (.ref f) args) (CR CX outer P w H s Q E) s
theorem FnOkG.mono {P : Program} {w : World} {K : PySem.W.Frag} {mg : Str → Option Value} {base : Heap} {CX : CXT} {j k : Nat} {f : Addr} {fd : FuncData} {ps : List Str} {sp : Sp} (F : FnOkG P w K mg base CX j f fd ps sp) (h : j ≤ k) :
    FnOkG P w K mg base CX k f fd ps sp := ⟨F.len, fun A outer s H args us vs Q E hr => F.run A outer s H args us vs Q E (hr.mono h)⟩
section
variable {X : Cx} {CX : CXT} {k : Nat} {f : Addr} {fd : FuncData} {ps : List Str} {sp : Sp} {E : XK} {x : Str} {p pos : Pos} {e : Expr} {es : List Expr} {t : TA}
theorem run_g {pins : List (Addr × Obj)} {σ : L2.St} {H : Hp} {s : Shared} {Q : VK} {us : List Value} {vs : List V} (F : FnOkG X.prog X.w X.K X.mg X.base CX k f fd ps sp) (hr : RoomG k X.A) (hb : Binds X.K fd ps []) (hx : Passes CX X E)
    (I : Inv X pins σ H s) (r : Vals vs us) (h : sp vs H Q E) : wpAny (model X.prog X.w) X.A (call (.ref f) us) (EP X pins σ Q) X.xe s := by
  have hl : us.length = ps.length := by rw [← r.length]; exact F.len _ _ _ _ h
  have b := hb s us I.kIn (by rw [List.append_nil]; exact hl)
  rw [List.append_nil] at b
  refine wpAny_call (codeAny_mono (F.run X.A X.stack s H ⟨us, []⟩ us vs Q E hr I.env0 b r h) fun r s' hq => ?_)
  rcases r with e | fl
  · exact hx pins σ H s e s' I hq
  · cases fl with
    | ret u => exact I.after hq
    | _ => exact False.elim hq
theorem pe_callG (F : FnOkG X.prog X.w X.K X.mg X.base CX k f fd ps sp) (hr : RoomG k X.A) (hg : Gl X x) (hm : X.mg x = some (.ref f)) (hk : PySem.W.keepIn X.K (.ref f) = true) (hb : Binds X.K fd ps []) (hx : Passes CX X E)
    (ha : PA X (e :: es) t) (hdb : (x == ("__debug__" : Str)) = false := by decide) (he : starEach (e :: es) X.env = (false, eval e X.env) :: starEach es X.env := by rfl) (hpl : (backTo pos (starEach es X.env)).any (·.1) = false := by rfl) :
    PE X (.Call (.Name x p) (e :: es) [] pos) (tCall sp [] E t) := by
  refine ⟨fun pins s σ H Q I h => ?_⟩
  refine wpAny_Call_Name_kw (ld_glob I hg hm ?_ hdb)
  refine PySem.W.callWith_K (h₀ := X.base) I.ok.mod.kin hk (thn (ha.run pos pins s σ H _ I h) fun us s1 ⟨vs, H1, I1, r, q⟩ => ⟨I1.kIn, ?_⟩) he hpl
  have q : sp (vs ++ []) H1 Q E := q
  rw [List.append_nil] at q
  exact run_g F hr hb hx I1 r q
end
section
variable {P : Program} {w : World} {K : PySem.W.Frag} {mg : Str → Option Value} {base : Heap} {CX : CXT} {N ps : List Str} {k : Nat} {sp : Sp} {x qual : Str} {params : Arguments} {body : List Stmt} {scope : Scope} {dvs : List V} {kws : List (Str × V)} {f : Addr} {fd : FuncData}
theorem fun_okG (F : FunD K x qual params body scope dvs kws f fd) (S : FnScope N ps scope) (len : ∀ vs H Q E, sp vs H Q E → vs.length = ps.length)
    (hbody : ∀ (cdv : Value) (A : Around) (outer : List Env) (s : Shared) (H : Hp) (vs : List V) (Q : VK) (E : XK), RoomG k (A.deeper (envOfC qual scope s.heap.objs.size f cdv)) → sp vs H Q E →
      ∃ t, PSs (cxOf CX P w K mg base N qual scope f cdv A outer s H E) body t ∧ t { nx := fun _ H' => Q .non H', rt := Q } (start N vs) H) : FnOkG P w K mg base CX (k + 1) f fd ps sp := by
  obtain ⟨oc, od, dV, kV, doc, pm, an, cdv, ct, osl, rfl, lk, hcd, _, _⟩ := F.ex
  refine ⟨len, fun A outer s H args us vs Q E hr e0 hb r hsp => ?_⟩
  have hl := len _ _ _ _ hsp
  have KX : K.In s.heap := e0.mod.kin.keeps fun b o e => (e0.bs b o e).1
  have lim : s.heap.NoLimit := e0.mod.nolimit.keeps fun b o e => (e0.bs b o e).1
  have hkind : ∀ y ∈ ps.zip us, scope.names.lookup y.1 = some .local ∨ (scope.names.lookup y.1 = some .cell ∧ ((cellsFrom (s.heap.objs.size + 1) scope.names []).lookup y.1).isSome = true) := fun y hy =>
    (S.par y.1 (List.of_mem_zip hy).1).elim .inl fun q => .inr ⟨q, PySem.W.cellsFrom_some _ _ _ (.inl q)⟩
  refine codeAny_call_function hr.rm.depth (KX _ _ lk) rfl S.co S.gen rfl (PySem.W.codeRec_of KX hcd) (hb _ _ _ _ ?_)
  refine wpAny_newFunctionEnv_cells S.kind hkind fun env he s1 x => ?_
  subst he
  refine ⟨lim.keeps x.toInCall.keep, codeAny_func ?_⟩
  obtain ⟨t, ht, hq⟩ := hbody cdv A outer s H vs Q E (hr.deeper _) hsp
  have I := inv_start (CX := CX) (E := E) S hr.rm.hd e0 hl r x
  refine wpAny_mono (ht.run [] s1 (start N vs) H _ I hq) (fun fl s' hs => ?_) fun e s' hs => hs
  cases fl with
  | ret u => obtain ⟨v, σ', H', J, rv, q⟩ := hs; exact ⟨v, H', J.os, J.bare, J.base, J.hok, rv, q⟩
  | next => obtain ⟨σ', H', J, q⟩ := hs; exact ⟨V.non, H', J.os, J.bare, J.base, J.hok, rfl, q⟩
  | _ => obtain ⟨_, _, _, q⟩ := hs; exact False.elim q
end
end L3
namespace L3
open PySem PySem.Spec PyProof.Rows L2
mutual
def mapW (h : Bool → Bool) (g : Nat → D) : D → D
  | .lst o xs => .lst (h o) (mapWs h g xs)
  | .tup xs => .tup (mapWs h g xs)
  | .dk o ks xs => .dk (h o) ks (mapWs h g xs)
  | .dt o ks xs => .dt (h o) ks (mapWs h g xs)
  | .obj nm ns xs => .obj nm ns (mapWs h g xs)
  | .exc nm ns xs => .exc nm ns (mapWs h g xs)
  | .ptr k => g k
  | .bad => .bad
  | .non => .non
  | .bl b => .bl b
  | .int i => .int i
  | .str s => .str s
def mapWs (h : Bool → Bool) (g : Nat → D) : List D → List D
  | [] => []
  | x :: xs => mapW h g x :: mapWs h g xs
end
mutual
def okW (ok : Bool → Bool) : D → Bool
  | .lst o xs => ok o && okWs ok xs
  | .tup xs => okWs ok xs
  | .dk o _ xs => ok o && okWs ok xs
  | .dt o _ xs => ok o && okWs ok xs
  | .obj _ _ xs => ok true && okWs ok xs
  | .exc _ _ xs => ok true && okWs ok xs
  | _ => true
def okWs (ok : Bool → Bool) : List D → Bool
  | [] => true
  | x :: xs => okW ok x && okWs ok xs
end
mutual
theorem okW_all : ∀ d : D, okW (fun _ => true) d = true
  | .lst _ xs => by simp only [okW, Bool.true_and]; exact okWs_all xs
  | .tup xs => by simp only [okW]; exact okWs_all xs
  | .dk _ _ xs => by simp only [okW, Bool.true_and]; exact okWs_all xs
  | .dt _ _ xs => by simp only [okW, Bool.true_and]; exact okWs_all xs
  | .obj _ _ xs => by simp only [okW, Bool.true_and]; exact okWs_all xs
  | .exc _ _ xs => by simp only [okW, Bool.true_and]; exact okWs_all xs
  | .bad => rfl
  | .non => rfl
  | .bl _ => rfl
  | .int _ => rfl
  | .str _ => rfl
  | .ptr _ => rfl
theorem okWs_all : ∀ d : List D, okWs (fun _ => true) d = true
  | [] => rfl
  | x :: xs => by simp only [okWs, Bool.and_eq_true]; exact ⟨okW_all x, okWs_all xs⟩
end
def noold : D → Bool := okW fun o => !o
structure Carry (K : PySem.W.Frag) (H0 : Hp) (av : Av) (ad : Ads) (H0' : Hp) (av' : Av) (ad' : Ads) (H : Hp) (h : Bool → Bool) (ok : Bool → Bool) (g : Nat → D) : Prop where
  l : ∀ (a : Addr) (vs : List V) (o : Bool), LstA av H a vs → (o = false → H0 a = none) → ok o = true → LstA av' H a vs ∧ (h o = false → H0' a = none)
  hh : ∀ o, h o = false → o = false
  r : ∀ (a : Addr) (u : HO) (o : Bool), Rd H a u → ¬ av a → (o = false → H0 a = none) → ok o = true → ¬ av' a ∧ (h o = false → H0' a = none)
  t : ∀ (a : Addr) (vs : List V), TupA av H a vs → TupA av' H a vs
  p : ∀ (k : Nat) (a : Addr), ad[k]? = some (some a) → Den K H0' av' ad' H (.ref a) (g k)
  i : ∀ (a : Addr), H a ≠ none → ¬ av a → ok true = true → ¬ av' a
section
variable {K : PySem.W.Frag} {H0 H0' : Hp} {av av' : Av} {ad ad' : Ads} {H : Hp} {h ok : Bool → Bool} {g : Nat → D}
mutual
theorem Den.carry (c : Carry K H0 av ad H0' av' ad' H h ok g) : ∀ {v : V} {d : D}, Den K H0 av ad H v d → okW ok d = true → Den K H0' av' ad' H v (mapW h g d)
  | _, _, .bad, _ => .bad
  | _, _, .non, _ => .non
  | _, _, .bl, _ => .bl
  | _, _, .int, _ => .int
  | _, _, .str, _ => .str
  | _, _, .lst r o x, e => by
    simp only [okW, Bool.and_eq_true] at e
    have cl := c.l _ _ _ r (fun z => (o z).1) e.1
    exact .lst cl.1 (fun z => ⟨cl.2 z, (o (c.hh _ z)).2⟩) (DenAll.carry c x e.2)
  | _, _, .tup r x, e => .tup (c.t _ _ r) (DenAll.carry c x (by simpa only [okW] using e))
  | _, _, .dk r n o k x, e => by
    simp only [okW, Bool.and_eq_true] at e
    exact .dk r (c.r _ _ _ r n o e.1).1 (c.r _ _ _ r n o e.1).2 k (DenAll.carry c x e.2)
  | _, _, .dt r n o k x, e => by
    simp only [okW, Bool.and_eq_true] at e
    exact .dt r (c.r _ _ _ r n o e.1).1 (c.r _ _ _ r n o e.1).2 k (DenAll.carry c x e.2)
  | _, _, .obj r n k x, e => by
    simp only [okW, Bool.and_eq_true] at e
    exact .obj r (c.i _ (by rw [r]; exact fun z => nomatch z) n e.1) k (DenAll.carry c x e.2)
  | _, _, .exc r n q k x, e => by
    simp only [okW, Bool.and_eq_true] at e
    refine .exc r (c.i _ (by rw [r]; exact fun z => nomatch z) n e.1) ?_ k (DenAll.carry c x e.2)
    rcases q with q | ⟨dd, e1, q, nq⟩
    · exact .inl q
    · exact .inr ⟨dd, e1, q, c.i _ (by rw [q]; exact fun z => nomatch z) nq e.1⟩
  | _, _, .ptr q, _ => c.p _ _ q
theorem DenAll.carry (c : Carry K H0 av ad H0' av' ad' H h ok g) : ∀ {vs : List V} {ds : List D}, DenAll K H0 av ad H vs ds → okWs ok ds = true → DenAll K H0' av' ad' H vs (mapWs h g ds)
  | _, _, .nil, _ => .nil
  | _, _, .cons a b, e => by
    simp only [okWs, Bool.and_eq_true] at e
    exact .cons (Den.carry c a e.1) (DenAll.carry c b e.2)
end
def Cell.mapC (h : Bool → Bool) (g : Nat → D) : Cell → Cell
  | .lst xs => .lst (mapWs h g xs)
  | .dk ks xs => .dk ks (mapWs h g xs)
  | .dt ks xs => .dt ks (mapWs h g xs)
  | .ins C ns xs => .ins C ns (mapWs h g xs)
  | .dead => .dead
def Cell.okC (ok : Bool → Bool) : Cell → Bool
  | .lst xs => okWs ok xs
  | .dk _ xs => okWs ok xs
  | .dt _ xs => okWs ok xs
  | .ins _ _ xs => okWs ok xs
  | .dead => true
theorem Cell.okC_all (c : Cell) : c.okC (fun _ => true) = true := by
  cases c <;> first
    | rfl
    | exact okWs_all _
theorem CellOk.carry (c : Carry K H0 av ad H0' av' ad' H h ok g) {a : Addr} {x : Cell} (q : CellOk K H0 av ad H a x) (e : x.okC ok = true) : CellOk K H0' av' ad' H a (x.mapC h g) := by
  cases x with
  | lst xs => obtain ⟨vs, e1, r⟩ := q; exact ⟨vs, e1, r.carry c e⟩
  | dk ks xs => obtain ⟨vs, e1, k, r⟩ := q; exact ⟨vs, e1, k, r.carry c e⟩
  | dt ks xs => obtain ⟨vs, e1, k, r⟩ := q; exact ⟨vs, e1, k, r.carry c e⟩
  | ins _ ks xs => obtain ⟨dx, vs, e1, k, r⟩ := q; exact ⟨dx, vs, e1, k, r.carry c e⟩
  | dead => exact q.elim
end
def finG (n : Nat) (C : Store) : Nat → Nat → D
  | 0, k => if k < n then .ptr k else .bad
  | m + 1, k => if k < n then .ptr k else match C[k]? with
    | some (.lst xs) => .lst false (mapWs id (finG n C m) xs)
    | some (.dk ks xs) => .dk false ks (mapWs id (finG n C m) xs)
    | some (.dt ks xs) => .dt false ks (mapWs id (finG n C m) xs)
    | _ => .bad
def fin (n : Nat) (C : Store) (d : D) : D := mapW id (finG n C 3) d
def finS (n : Nat) (C : Store) : Store := (C.take n).map fun c => c.mapC id (finG n C 3)
section
variable {K : PySem.W.Frag} {H0 : Hp} {A0 : List Addr} {av : Av} {ad : Ads} {Γ : Slots} {C : Store} {σ : L2.St} {H : Hp}
theorem ads_some {A0 : List Addr} {i : Nat} {a : Addr} : (A0.map some)[i]? = some (some a) ↔ A0[i]? = some a := by
  rw [List.getElem?_map]
  cases A0[i]? <;> simp
def avF (av : Av) (ad : Ads) (n : Nat) : Av := fun a => av a ∧ ∀ k : Nat, n ≤ k → ad[k]? ≠ some (some a)
theorem carry_fin (R : Rep K H0 A0 av ad Γ C σ H) : ∀ m, Carry K H0 av ad H0 (avF av ad A0.length) (A0.map some) H id (fun _ => true) (finG A0.length C m) := by
  have base : ∀ g : Nat → D, (∀ (k : Nat) (a : Addr), ad[k]? = some (some a) → Den K H0 (avF av ad A0.length) (A0.map some) H (.ref a) (g k)) → Carry K H0 av ad H0 (avF av ad A0.length) (A0.map some) H id (fun _ => true) g := fun g hg =>
    ⟨fun a vs o r ho _ => ⟨⟨r.1, fun q => r.2 q.1⟩, ho⟩, fun _ z => z, fun a u o r n ho _ => ⟨fun q => n q.1, ho⟩, fun a vs r => ⟨r.1, fun q => r.2 q.1⟩, hg, fun a _ n _ q => n q.1⟩
  have par : ∀ (k : Nat) (a : Addr), ad[k]? = some (some a) → k < A0.length → Den K H0 (avF av ad A0.length) (A0.map some) H (.ref a) (.ptr k) := fun k a h hk => .ptr (by
    rw [ads_some]
    have e := R.pre k _ (List.getElem?_eq_getElem hk)
    rw [h] at e
    rw [List.getElem?_eq_getElem hk]
    exact (Option.some.inj e).symm ▸ rfl)
  intro m
  induction m with
  | zero =>
    refine base _ fun k a h => ?_
    simp only [finG]
    split
    · rename_i hk; exact par k a h hk
    · exact .bad
  | succ m ih =>
    refine base _ fun k a h => ?_
    simp only [finG]
    split
    · rename_i hk; exact par k a h hk
    · rename_i hk
      have hk' : A0.length ≤ k := Nat.le_of_not_lt hk
      have n0 : H0 a = none := R.loc k a h hk'
      have nav : ¬ avF av ad A0.length a := fun q => q.2 k hk' h
      have hlt : k < C.length := by rw [← R.len]; exact (List.getElem?_eq_some_iff.mp h).1
      have hc : C[k]? = some C[k] := List.getElem?_eq_getElem hlt
      have ok := R.cells k a _ h hc
      rw [hc]
      generalize C[k] = c at ok
      cases c with
      | lst xs => obtain ⟨vs, e1, r⟩ := ok; exact .lst ⟨.inl e1, nav⟩ (fun _ => ⟨n0, e1⟩) (r.carry ih (okWs_all _))
      | dk ks xs => obtain ⟨vs, e1, k, r⟩ := ok; exact .dk (.inl e1) nav (fun _ => n0) k (r.carry ih (okWs_all _))
      | dt ks xs => obtain ⟨vs, e1, k, r⟩ := ok; exact .dt (.inl e1) nav (fun _ => n0) k (r.carry ih (okWs_all _))
      | ins _ _ _ => exact .bad
      | dead => exact .bad
theorem Rep.fin (R : Rep K H0 A0 av ad Γ C σ H) : Rep K H0 A0 (avF av ad A0.length) (A0.map some) [] (finS A0.length C) [] H ∧ Fz av H (avF av ad A0.length) H := by
  have hA : A0.length ≤ ad.length := by
    by_cases h : A0.length = 0
    · omega
    · have := (List.getElem?_eq_some_iff.mp (R.pre (A0.length - 1) _ (List.getElem?_eq_getElem (by omega)))).1
      omega
  have up : ∀ (i : Nat) (a : Addr), A0[i]? = some a → ad[i]? = some (some a) ∧ i < A0.length := fun i a h => ⟨R.pre i a h, (List.getElem?_eq_some_iff.mp h).1⟩
  refine ⟨⟨fun a h => ?_, fun a h => R.dom a h.1, fun a xs h => R.avt a xs h.1, fun i j a h1 h2 => ?_, ?_, fun i a h => ads_some.mpr h, fun i a h hi => ?_, R.keep, R.there, fun i h => (by rw [List.getElem?_map] at h; cases q : A0[i]? with | none => (rw [q] at h; cases h) | some a => (rw [q] at h; cases h)), fun i a c h1 h2 => ?_, rfl, fun i d h => by simp at h⟩, Fz.less fun _ q => q.1⟩
  · obtain ⟨b, hb, e⟩ := List.mem_map.mp h
    cases e
    obtain ⟨i, hi, e⟩ := List.mem_iff_getElem.mp hb
    obtain ⟨h1, h2⟩ := up i a (by rw [List.getElem?_eq_getElem hi, e])
    exact ⟨R.av_of h1, fun k hk q => by have := R.nd i k a h1 q; omega⟩
  · exact R.nd i j a (R.pre i a (ads_some.mp h1)) (R.pre j a (ads_some.mp h2))
  · simp only [List.length_map, finS, List.length_take]
    rw [← R.len]
    omega
  · have := (up i a (ads_some.mp h)).2
    omega
  · obtain ⟨h3, h4⟩ := up i a (ads_some.mp h1)
    simp only [finS, List.getElem?_map, List.getElem?_take, h4, if_true] at h2
    cases q : C[i]? with
    | none => rw [q] at h2; cases h2
    | some c' =>
      rw [q] at h2
      cases h2
      exact (R.cells i a c' h3 q).carry (carry_fin R 3) (Cell.okC_all _)
theorem Rep.finD (R : Rep K H0 A0 av ad Γ C σ H) {v : V} {d : D} (x : Den K H0 av ad H v d) : Den K H0 (avF av ad A0.length) (A0.map some) H v (L3.fin A0.length C d) := x.carry (carry_fin R 3) (okW_all _)
end
abbrev PV := List D → Store → (D → Store → Prop) → Prop
def Sp3 (K : PySem.W.Frag) (n : Nat) (P : PV) : Sp := fun vs H Q _ => ∃ (A0 : List Addr) (av : Av) (ds : List D) (C : Store) (Q3 : D → Store → Prop), A0.length = n ∧ Rep K H A0 av (A0.map some) (ds.map some) C (vs.map some) H ∧ P ds C Q3 ∧
  ∀ (av' : Av) (v : V) (H' : Hp) (d : D) (C' : Store), Rep K H A0 av' (A0.map some) [] C' [] H' → Fz av H av' H' → (∀ a, av a → av' a) → Den K H av' (A0.map some) H' v d → Q3 d C' → Q v H'
def start3 (N : List Str) (ds : List D) : Slots := ds.map some ++ List.replicate (N.length - ds.length) none
theorem Rep.start {K : PySem.W.Frag} {H0 : Hp} {A0 : List Addr} {av : Av} {ad : Ads} {C : Store} {H : Hp} {ds : List D} {vs : List V} (N : List Str) (R : Rep K H0 A0 av ad (ds.map some) C (vs.map some) H) : Rep K H0 A0 av ad (start3 N ds) C (L2.start N vs) H := by
  have hl : vs.length = ds.length := by have := R.slen; simpa using this
  refine R.slots (by simp [start3, L2.start, hl]) fun i d h => ?_
  unfold start3 at h
  unfold L2.start
  by_cases hi : i < ds.length
  · rw [List.getElem?_append_left (by simpa using hi)] at h
    obtain ⟨v, h1, h2⟩ := R.slot i d h
    exact ⟨v, by rw [List.getElem?_append_left (by rw [List.length_map, hl]; exact hi)]; exact h1, h2⟩
  · rw [List.getElem?_append_right (by simpa using Nat.le_of_not_lt hi)] at h
    rw [List.getElem?_replicate] at h
    split at h <;> cases h
section
variable {P : Program} {w : World} {K : PySem.W.Frag} {mg : Str → Option Value} {base : Heap} {x qual : Str} {params : Arguments} {body : List Stmt} {scope : Scope} {dvs : List V} {kws : List (Str × V)} {f : Addr} {fd : FuncData}
def enF (n : Nat) (Q3 : D → Store → Prop) : En := { nx := fun _ C => Q3 .non (finS n C), rt := fun d C => Q3 (fin n C d) (finS n C) }
theorem ok3 {N ps : List Str} {k n : Nat} {Pv : PV} {t : TS} {T : SV} (F : FunD K x qual params body scope dvs kws f fd) (S : FnScope N ps scope) (len : ∀ ds C Q, Pv ds C Q → ds.length = ps.length)
    (hv : ∀ (cdv : Value) (A : Around) (outer : List Env) (s : Shared) (H : Hp) (E : XK), RoomG k (A.deeper (envOfC qual scope s.heap.objs.size f cdv)) → VSs K (cxOf CX0 P w K mg base N qual scope f cdv A outer s H E).nox body t T)
    (hT : ∀ ds C Q3, Pv ds C Q3 → C.length = n → T (enF n Q3) (start3 N ds) C) : FnOkG P w K mg base CX0 (k + 1) f fd ps (Sp3 K n Pv) := by
  refine fun_okG F S (fun vs H Q E h => ?_) (fun cdv A outer s H vs Q E hr h => ?_)
  · obtain ⟨A0, av, ds, C, Q3, _, R, hp, _⟩ := h
    have := R.slen
    simp at this
    rw [this]
    exact len _ _ _ hp
  · obtain ⟨A0, av, ds, C, Q3, hn, R, hp, q⟩ := h
    have V := hv cdv A outer s H E hr
    have hC : C.length = n := by rw [← R.len, List.length_map]; exact hn
    subst hn
    refine ⟨t, V.ps.nox, V.sim H A0 av _ _ C _ H (enF A0.length Q3) _ (R.start N) (hT ds C Q3 hp hC) ⟨fun av' ad' Γ' C' σ' H' R' f q' => ?_, fun av' ad' Γ' C' σ' H' v d R' f x q' => ?_, fun _ _ _ _ _ _ _ _ z => z, fun _ _ _ _ _ _ _ _ z => z, fun _ _ _ _ _ _ _ _ _ _ _ _ z => z⟩⟩
    · exact q _ _ H' _ _ R'.fin.1 (f.fz.trans R'.fin.2) (fun a h => ⟨f.avm a h, fun k hk z => R.dom a h (R'.loc k a z hk)⟩) .non q'
    · exact q _ _ H' _ _ R'.fin.1 (f.fz.trans R'.fin.2) (fun a h => ⟨f.avm a h, fun k hk z => R.dom a h (R'.loc k a z hk)⟩) (R'.finD x) q'
end
end L3
namespace L3
open PySem PySem.Spec PyProof.Rows L2
theorem nodup_ix' {α : Type} {l : List α} (h : l.Nodup) {i j : Nat} {x : α} (a : l[i]? = some x) (b : l[j]? = some x) : i = j := by
  obtain ⟨h1, e1⟩ := List.getElem?_eq_some_iff.mp a
  obtain ⟨h2, e2⟩ := List.getElem?_eq_some_iff.mp b
  exact (List.getElem_inj h).mp (e1.trans e2.symm)
def posOf : List Nat → Nat → Option Nat
  | [], _ => none
  | x :: xs, k => if x = k then some 0 else (posOf xs k).map (· + 1)
theorem posOf_some : ∀ {ks : List Nat} {k j : Nat}, posOf ks k = some j → ks[j]? = some k
  | [], _, _, e => by cases e
  | x :: xs, k, j, e => by
    simp only [posOf] at e
    split at e
    · rename_i h; cases e; rw [h]; rfl
    · cases q : posOf xs k with
      | none => rw [q] at e; cases e
      | some i =>
        rw [q] at e
        simp only [Option.map_some, Option.some.injEq] at e
        subst e
        have := posOf_some q
        simpa using this
theorem posOf_none : ∀ {ks : List Nat} {k : Nat}, posOf ks k = none → k ∉ ks
  | [], _, _ => by simp
  | x :: xs, k, e => by
    simp only [posOf] at e
    split at e
    · cases e
    · rename_i h
      cases q : posOf xs k with
      | none => simp only [List.mem_cons, not_or]; exact ⟨fun z => h z.symm, posOf_none q⟩
      | some i => rw [q] at e; cases e
def viewG (ks : List Nat) (C : Store) : Nat → Nat → D
  | 0, k => match posOf ks k with
    | some j => .ptr j
    | none => .bad
  | m + 1, k => match posOf ks k with
    | some j => .ptr j
    | none => match C[k]? with
      | some (.lst xs) => .lst true (mapWs (fun _ => true) (viewG ks C m) xs)
      | some (.dk qs xs) => .dk true qs (mapWs (fun _ => true) (viewG ks C m) xs)
      | some (.dt qs xs) => .dt true qs (mapWs (fun _ => true) (viewG ks C m) xs)
      | some (.ins nm ns xs) => .obj nm ns (mapWs (fun _ => true) (viewG ks C m) xs)
      | _ => .bad
def views (ks : List Nat) (C : Store) (ds : List D) : List D := mapWs (fun _ => true) (viewG ks C 2) ds
def viewC (ks : List Nat) (C : Store) : Store := ks.map fun k => (C[k]?.getD .dead).mapC (fun _ => true) (viewG ks C 2)
def backG (ks : List Nat) (j : Nat) : D := match ks[j]? with
  | some k => .ptr k
  | none => .bad
def backs (ks : List Nat) (c : Cell) : Cell := c.mapC id (backG ks)
def putS : List Nat → Store → Store → Store
  | k :: ks, c :: cs, C => putS ks cs (C.set k c)
  | _, _, C => C
theorem putS_len : ∀ (ks : List Nat) (cs C : Store), (putS ks cs C).length = C.length
  | [], _, _ => rfl
  | _ :: _, [], _ => rfl
  | k :: ks, c :: cs, C => by simp only [putS]; rw [putS_len ks cs]; simp
theorem putS_out : ∀ (ks : List Nat) (cs C : Store) {i : Nat}, i ∉ ks → (putS ks cs C)[i]? = C[i]?
  | [], _, _, _, _ => rfl
  | _ :: _, [], _, _, _ => rfl
  | k :: ks, c :: cs, C, i, h => by
    simp only [List.mem_cons, not_or] at h
    simp only [putS]
    rw [putS_out ks cs _ h.2, List.getElem?_set_ne (fun e => h.1 e.symm)]
theorem putS_in : ∀ (ks : List Nat) (cs C : Store) {j i : Nat}, ks.Nodup → ks[j]? = some i → j < cs.length → i < C.length → (putS ks cs C)[i]? = cs[j]?
  | [], _, _, _, _, _, e, _, _ => by simp at e
  | _ :: _, [], _, _, _, _, _, h, _ => by simp at h
  | k :: ks, c :: cs, C, 0, i, nd, e, _, hi => by
    simp at e; subst e
    simp only [putS]
    rw [putS_out ks cs _ (List.nodup_cons.mp nd).1, List.getElem?_set_self hi]
    rfl
  | k :: ks, c :: cs, C, j + 1, i, nd, e, hj, hi => by
    simp only [putS]
    rw [putS_in ks cs _ (j := j) (List.nodup_cons.mp nd).2 (by simpa using e) (by simpa using hj) (by simpa using hi)]
    rfl
section
variable {K : PySem.W.Frag} {H0 : Hp} {A0 : List Addr} {av : Av} {ad : Ads} {Γ : Slots} {C : Store} {σ : L2.St} {H : Hp}
theorem carry_view (R : Rep K H0 A0 av ad Γ C σ H) {ks : List Nat} {Ac : List Addr} (hA : ∀ (j k : Nat), ks[j]? = some k → ∃ a, Ac[j]? = some a ∧ ad[k]? = some (some a)) (hA2 : ∀ a, a ∈ Ac → ∃ k, k ∈ ks ∧ ad[k]? = some (some a)) :
    ∀ m, Carry K H0 av ad H (fun a => a ∈ Ac) (Ac.map some) H (fun _ => true) (fun _ => true) (viewG ks C m) := by
  have sub : ∀ a, a ∈ Ac → av a := fun a h => by obtain ⟨k, _, e⟩ := hA2 a h; exact R.av_of e
  have base : ∀ g : Nat → D, (∀ (k : Nat) (a : Addr), ad[k]? = some (some a) → Den K H (fun a => a ∈ Ac) (Ac.map some) H (.ref a) (g k)) → Carry K H0 av ad H (fun a => a ∈ Ac) (Ac.map some) H (fun _ => true) (fun _ => true) g := fun g hg =>
    ⟨fun a vs o r ho _ => ⟨⟨r.1, fun q => r.2 (sub a q)⟩, fun z => nomatch z⟩, fun _ z => (nomatch z), fun a u o r n ho _ => ⟨fun q => n (sub a q), fun z => nomatch z⟩, fun a vs r => ⟨r.1, fun q => r.2 (sub a q)⟩, hg, fun a _ n _ q => n (sub a q)⟩
  have par : ∀ (k j : Nat) (a : Addr), ad[k]? = some (some a) → posOf ks k = some j → Den K H (fun a => a ∈ Ac) (Ac.map some) H (.ref a) (.ptr j) := fun k j a h hp => .ptr (by
    rw [ads_some]
    obtain ⟨b, h1, h2⟩ := hA j k (posOf_some hp)
    rw [h] at h2
    cases h2
    exact h1)
  intro m
  induction m with
  | zero =>
    refine base _ fun k a h => ?_
    simp only [viewG]
    cases q : posOf ks k with
    | some j => exact par k j a h q
    | none => exact .bad
  | succ m ih =>
    refine base _ fun k a h => ?_
    simp only [viewG]
    cases q : posOf ks k with
    | some j => exact par k j a h q
    | none =>
      have nav : ¬ a ∈ Ac := fun z => by
        obtain ⟨k', h1, h2⟩ := hA2 a z
        exact posOf_none q (R.nd k' k a h2 h ▸ h1)
      have hlt : k < C.length := by rw [← R.len]; exact (List.getElem?_eq_some_iff.mp h).1
      have hc : C[k]? = some C[k] := List.getElem?_eq_getElem hlt
      have ok := R.cells k a _ h hc
      rw [hc]
      generalize C[k] = c at ok
      cases c with
      | lst xs => obtain ⟨vs, e1, r⟩ := ok; exact .lst ⟨.inl e1, nav⟩ (fun z => nomatch z) (r.carry ih (okWs_all _))
      | dk ks xs => obtain ⟨vs, e1, k, r⟩ := ok; exact .dk (.inl e1) nav (fun z => nomatch z) k (r.carry ih (okWs_all _))
      | dt ks xs => obtain ⟨vs, e1, k, r⟩ := ok; exact .dt (.inl e1) nav (fun z => nomatch z) k (r.carry ih (okWs_all _))
      | ins _ _ _ => obtain ⟨dx, fs, e1, k, r⟩ := ok; exact .obj e1 nav k (r.carry ih (okWs_all _))
      | dead => exact .bad
theorem addrs_of (R : Rep K H0 A0 av ad Γ C σ H) : ∀ ks : List Nat, (∀ k, k ∈ ks → ∃ c, C[k]? = some c ∧ c ≠ Cell.dead) → ∃ Ac : List Addr, Ac.length = ks.length ∧ (∀ (j k : Nat), ks[j]? = some k → ∃ a, Ac[j]? = some a ∧ ad[k]? = some (some a)) ∧ ∀ a, a ∈ Ac → ∃ k, k ∈ ks ∧ ad[k]? = some (some a)
  | [], _ => ⟨[], rfl, fun j k e => by simp at e, fun a h => by simp at h⟩
  | k :: ks, h => by
    obtain ⟨Ac, h0, h1, h2⟩ := addrs_of R ks (fun k' hk => h k' (List.mem_cons_of_mem _ hk))
    obtain ⟨c, hc, hnd⟩ := h k (List.mem_cons_self ..)
    obtain ⟨a, ha⟩ : ∃ a, ad[k]? = some (some a) := by
      have hlt : k < ad.length := by rw [R.len]; exact (List.getElem?_eq_some_iff.mp hc).1
      cases q : ad[k]? with
      | none => rw [List.getElem?_eq_getElem hlt] at q; cases q
      | some o =>
        cases o with
        | none => have := R.gone k q; rw [hc] at this; cases this; exact absurd rfl hnd
        | some a => exact ⟨a, rfl⟩
    refine ⟨a :: Ac, by simp [h0], fun j k' e => ?_, fun b hb => ?_⟩
    · cases j with
      | zero => simp at e; subst e; exact ⟨a, rfl, ha⟩
      | succ j => exact h1 j k' (by simpa using e)
    · rcases List.mem_cons.mp hb with e | hb
      · subst e; exact ⟨k, List.mem_cons_self .., ha⟩
      · obtain ⟨k', e1, e2⟩ := h2 b hb
        exact ⟨k', List.mem_cons_of_mem _ e1, e2⟩
theorem mapW_np {g : Nat → D} : (∀ d : D, noptr d = true → mapW id g d = d) ∧ ∀ ds : List D, noptrs ds = true → mapWs id g ds = ds := by
  have main : ∀ n, (∀ d : D, sizeOf d ≤ n → noptr d = true → mapW id g d = d) ∧ ∀ ds : List D, sizeOf ds ≤ n → noptrs ds = true → mapWs id g ds = ds := by
    intro n
    induction n with
    | zero =>
      refine ⟨fun d hd => ?_, fun ds hd => ?_⟩
      · cases d <;> simp at hd
      · cases ds <;> simp at hd
    | succ n ih =>
      refine ⟨fun d hd h => ?_, fun ds hd h => ?_⟩
      · cases d with
        | lst o xs => simp only [mapW, id]; rw [ih.2 xs (by simp at hd; omega) (by simpa only [noptr] using h)]
        | tup xs => simp only [mapW]; rw [ih.2 xs (by simp at hd; omega) (by simpa only [noptr] using h)]
        | dk o ks xs => simp only [mapW, id]; rw [ih.2 xs (by simp at hd; omega) (by simpa only [noptr] using h)]
        | dt o ks xs => simp only [mapW, id]; rw [ih.2 xs (by simp at hd; omega) (by simpa only [noptr] using h)]
        | obj nm ns xs => simp only [mapW]; rw [ih.2 xs (by simp at hd; omega) (by simpa only [noptr] using h)]
        | exc nm ns xs => simp only [mapW]; rw [ih.2 xs (by simp at hd; omega) (by simpa only [noptr] using h)]
        | ptr k => simp [noptr] at h
        | bad => rfl
        | non => rfl
        | bl _ => rfl
        | int _ => rfl
        | str _ => rfl
      · cases ds with
        | nil => rfl
        | cons d ds =>
          simp only [noptrs, Bool.and_eq_true] at h
          simp only [mapWs]
          rw [ih.1 d (by simp at hd; omega) h.1, ih.2 ds (by simp at hd; omega) h.2]
  exact ⟨fun d => (main (sizeOf d)).1 d (Nat.le_refl _), fun ds => (main (sizeOf ds)).2 ds (Nat.le_refl _)⟩
theorem Rep.call (R : Rep K H0 A0 av ad Γ C σ H) {ks : List Nat} {P : PV} {vs : List V} {ds : List D} {Q3 : D → Store → Prop} {Q : VK} (dv : DenAll K H0 av ad H vs ds) (hk : ks.Nodup) (hc : ∀ k, k ∈ ks → ∃ c, C[k]? = some c ∧ c ≠ Cell.dead)
    {Qc : D → Store → Prop} (hp : P (views ks C ds) (viewC ks C) Qc) (hq : ∀ d Cc, Cc.length = ks.length → Qc d Cc → noold d = true ∧ (∀ c, c ∈ Cc → c.okC (fun o => !o) = true) ∧ Q3 (mapW id (backG ks) d) (putS ks (Cc.map (backs ks)) C))
    (q : ∀ (v : V) (H' : Hp) (C' : Store) (d : D), Rep K H0 A0 av ad Γ C' σ H' → Le av ad H av ad H' → Den K H0 av ad H' v d → Den K H av ad H' v d → (ks = [] → ∀ a o, H a = some o → H' a = some o) → Q3 d C' → Q v H') (E : XK) : Sp3 K ks.length P vs H Q E := by
  obtain ⟨Ac, hl, hA, hA2⟩ := addrs_of R ks hc
  have hA' : ∀ a, a ∈ Ac → av a := fun a h => by obtain ⟨k, _, e⟩ := hA2 a h; exact R.av_of e
  have cv := carry_view R hA hA2 2
  have same : ∀ (j : Nat) (a : Addr), Ac[j]? = some a → ∃ k, ks[j]? = some k ∧ ad[k]? = some (some a) := fun j a e => by
    have hj : j < ks.length := by rw [← hl]; exact (List.getElem?_eq_some_iff.mp e).1
    obtain ⟨b, h1, h2⟩ := hA j ks[j] (List.getElem?_eq_getElem hj)
    rw [e] at h1; cases h1
    exact ⟨ks[j], List.getElem?_eq_getElem hj, h2⟩
  have R0 : Rep K H Ac (fun a => a ∈ Ac) (Ac.map some) ((views ks C ds).map some) (viewC ks C) (vs.map some) H := by
    have dl : DenAll K H (fun a => a ∈ Ac) (Ac.map some) H vs (views ks C ds) := dv.carry cv (okWs_all _)
    refine ⟨fun a h => ?_, fun a h => R.dom a (hA' a h), fun a xs h => R.avt a xs (hA' a h), fun i j a h1 h2 => ?_, by simp [viewC, hl], fun i a h => ads_some.mpr h, fun i a h hi => ?_, fun a o h _ => h, fun a h => h, fun i h => ?_, fun i a c h1 h2 => ?_, by simp [dl.length], fun i d h => ?_⟩
    · obtain ⟨b, hb, e⟩ := List.mem_map.mp h; cases e; exact hb
    · obtain ⟨k1, e1, g1⟩ := same i a (ads_some.mp h1)
      obtain ⟨k2, e2, g2⟩ := same j a (ads_some.mp h2)
      have e := R.nd k1 k2 a g1 g2
      subst e
      exact nodup_ix' hk e1 e2
    · have := (List.getElem?_eq_some_iff.mp (ads_some.mp h)).1
      omega
    · rw [List.getElem?_map] at h
      cases q : Ac[i]? with
      | none => rw [q] at h; cases h
      | some a => rw [q] at h; cases h
    · obtain ⟨k, e1, g1⟩ := same i a (ads_some.mp h1)
      simp only [viewC, List.getElem?_map, e1, Option.map_some, Option.some.injEq] at h2
      subst h2
      have hlt : k < C.length := by rw [← R.len]; exact (List.getElem?_eq_some_iff.mp g1).1
      have hck : C[k]? = some C[k] := List.getElem?_eq_getElem hlt
      rw [hck]
      exact (R.cells k a _ g1 hck).carry cv (Cell.okC_all _)
    · rw [List.getElem?_map] at h
      cases q : (views ks C ds)[i]? with
      | none => rw [q] at h; cases h
      | some d' =>
        rw [q] at h; cases h
        obtain ⟨v, h1, h2⟩ := dl.get q
        exact ⟨v, by rw [List.getElem?_map, h1]; rfl, h2⟩
  refine ⟨Ac, _, _, _, Qc, hl, R0, hp, fun av' v H' d Cc Rc f _ x hqc => ?_⟩
  obtain ⟨hno, hok, q3⟩ := hq d Cc (by have := Rc.len; simp [hl] at this; exact this.symm) hqc
  have keepH : ∀ a o, H a = some o → a ∉ Ac → H' a = some o := Rc.keep
  have thereH : ∀ a, H' a = none → H a = none := Rc.there
  have lenC : Cc.length = Ac.length := by have := Rc.len; simpa using this.symm
  have cellC : ∀ (j : Nat) (a : Addr), Ac[j]? = some a → ∃ c, Cc[j]? = some c ∧ CellOk K H av' (Ac.map some) H' a c := fun j a e => by
    have hj : j < Cc.length := by rw [lenC]; exact (List.getElem?_eq_some_iff.mp e).1
    exact ⟨Cc[j], List.getElem?_eq_getElem hj, Rc.cells j a _ (ads_some.mpr e) (List.getElem?_eq_getElem hj)⟩
  have memAc : ∀ a, a ∈ Ac → ∃ j, Ac[j]? = some a := fun a h => by
    obtain ⟨i, hi, e⟩ := List.mem_iff_getElem.mp h
    exact ⟨i, by rw [List.getElem?_eq_getElem hi, e]⟩
  have cbz : ∀ Hz : Hp, (∀ a, H a = none → Hz a = none) → Carry K H av' (Ac.map some) Hz av ad H' id (fun o => !o) (backG ks) := by
    intro Hz hz
    refine ⟨fun a vs o r ho hok => ?_, fun _ z => z, fun a u o r n ho hok => ?_, fun a vs r => ⟨r.1, fun z => ?_⟩, fun j a e => ?_, fun a _ n z => ?_⟩
    · have ho' : o = false := by cases o <;> simp at hok ⊢
      have hn := ho ho'
      exact ⟨⟨r.1, R.nav hn⟩, fun _ => hz a hn⟩
    · have ho' : o = false := by cases o <;> simp at hok ⊢
      have hn := ho ho'
      exact ⟨R.nav hn, fun _ => hz a hn⟩
    · by_cases hm : a ∈ Ac
      · exact r.2 (Rc.sub a (List.mem_map.mpr ⟨a, hm, rfl⟩))
      · cases e : H a with
        | none => exact R.dom a z e
        | some o =>
          have := keepH a o e hm
          rw [r.1] at this
          cases this
          exact R.avt a vs z e
    · obtain ⟨k, e1, g1⟩ := same j a (ads_some.mp e)
      simp only [backG, e1]
      exact .ptr g1
    · cases z
  have cb := cbz H0 R.there
  have fz : Fz av H av H' := fun a o h n => ⟨keepH a o h fun z => n (hA' a z), n⟩
  have cellsOut : ∀ (i : Nat) (a : Addr), ad[i]? = some (some a) → a ∈ Ac → i ∈ ks := fun i a h hm => by
    obtain ⟨k, h1, h2⟩ := hA2 a hm
    rw [R.nd i k a h h2]; exact h1
  refine q v H' _ _ ⟨R.sub, fun a h e => ?_, fun a xs h e => ?_, R.nd, by rw [putS_len]; exact R.len, R.pre, R.loc, fun a o h n => ?_, fun a h => R.there a (thereH a h), fun i h => ?_, fun i a c h1 h2 => ?_, R.slen, fun i d h => ?_⟩ ⟨fz, Pre.refl, thereH, fun _ h => h, fun _ h => .inl h, fun a o h n => keepH a o h fun z => n (by obtain ⟨k, _, e⟩ := hA2 a z; exact mem_ads e)⟩ (x.carry cb hno) (x.carry (cbz H fun _ z => z) hno) (fun e a o h => keepH a o h fun z => by subst e; rw [List.length_nil, List.length_eq_zero_iff] at hl; rw [hl] at z; simp at z) q3
  · exact R.dom a h (thereH a e)
  · by_cases hm : a ∈ Ac
    · obtain ⟨j, hj⟩ := memAc a hm
      obtain ⟨c, _, ok⟩ := cellC j a hj
      cases c with
      | lst _ => obtain ⟨_, e2, _⟩ := ok; rw [e] at e2; cases e2
      | dk _ _ => obtain ⟨_, e2, _⟩ := ok; rw [e] at e2; cases e2
      | dt _ _ => obtain ⟨_, e2, _⟩ := ok; rw [e] at e2; cases e2
      | ins _ _ _ => obtain ⟨_, _, e2, _⟩ := ok; rw [e] at e2; cases e2
      | dead => exact ok
    · cases e2 : H a with
      | none => exact R.dom a h e2
      | some o =>
        have := keepH a o e2 hm
        rw [e] at this
        cases this
        exact R.avt a xs h e2
  · refine keepH a o (R.keep a o h n) fun hm => ?_
    obtain ⟨k, h1, h2⟩ := hA2 a hm
    by_cases hk : k < A0.length
    · have e2 := R.pre k _ (List.getElem?_eq_getElem hk)
      rw [h2] at e2
      cases e2
      exact n (List.getElem_mem ..)
    · rw [R.loc k a h2 (Nat.le_of_not_lt hk)] at h; cases h
  · have hn : i ∉ ks := fun hm => by
      obtain ⟨c, h1, h2⟩ := hc i hm
      rw [R.gone i h] at h1
      cases h1
      exact h2 rfl
    rw [putS_out _ _ _ hn]
    exact R.gone i h
  · have hlt : i < C.length := by rw [← R.len]; exact (List.getElem?_eq_some_iff.mp h1).1
    by_cases hm : i ∈ ks
    · obtain ⟨j, hj, e⟩ := List.mem_iff_getElem.mp hm
      have ej : ks[j]? = some i := by rw [List.getElem?_eq_getElem hj, e]
      obtain ⟨b, g1, g2⟩ := hA j i ej
      rw [h1] at g2; cases g2
      obtain ⟨c', g3, ok⟩ := cellC j a g1
      rw [putS_in ks _ C hk ej (by rw [List.length_map]; exact (List.getElem?_eq_some_iff.mp g3).1) hlt, List.getElem?_map, g3] at h2
      cases h2
      exact ok.carry cb (hok c' (List.mem_of_getElem? g3))
    · rw [putS_out _ _ _ hm] at h2
      refine (R.cells i a c h1 h2).mono fz Pre.refl ?_
      cases e : H a with
      | none => exact absurd e (R.dom a (R.av_of h1))
      | some o => exact keepH a o e fun z => hm (cellsOut i a h1 z)
  · obtain ⟨u, h1, h2⟩ := R.slot i d h
    exact ⟨u, h1, h2.mono fz Pre.refl⟩
end
section
variable {K : PySem.W.Frag} {X : Cx} {CX : CXT} {k n : Nat} {f : Addr} {fd : FuncData} {ps : List Str} {P : PV} {x : Str} {p pos : Pos} {e : Expr} {es : List Expr} {tl : TA} {L : AV}
def eCallK (n : Nat) (kf : List D → List Nat) (P : PV) (L : AV) : EV := fun Γ C Q => L Γ C fun ds C1 => (kf ds).length = n ∧ (kf ds).Nodup ∧ (∀ k, k ∈ kf ds → ∃ c, C1[k]? = some c ∧ c ≠ Cell.dead) ∧
  P (views (kf ds) C1 ds) (viewC (kf ds) C1) fun d Cc => noold d = true ∧ (∀ c, c ∈ Cc → c.okC (fun o => !o) = true) ∧ Q (mapW id (backG (kf ds)) d) (putS (kf ds) (Cc.map (backs (kf ds))) C1)
def kf1 : List D → List Nat
  | .ptr k :: _ => [k]
  | _ => []
def eCall (P : PV) (L : AV) : EV := fun Γ C Q => L Γ C fun ds C1 => P (views [] C1 ds) [] fun d _ => (noold d && noptr d) = true ∧ Q d C1
theorem sim_call (hl : SimA K tl L) (E : XK) : SimE K (tCall (Sp3 K 0 P) [] E tl) (eCall P L) := fun H0 A0 av ad Γ C σ H Q3 Q R h q => by
  refine hl H0 A0 av ad Γ C σ H _ _ R h fun vs H1 av1 ad1 ds C1 R1 l1 dv h1 => ?_
  rw [List.append_nil]
  refine R1.call (ks := []) (Q3 := fun d C' => Q3 d C') dv List.nodup_nil (fun _ z => nomatch z) h1 (fun d Cc hC ⟨h2, h3⟩ => ?_) (fun v H' C' d R' l' x _ _ q3 => q v H' av1 ad1 d C' R' (l1.trans l') x q3) E
  simp only [Bool.and_eq_true] at h2
  refine ⟨h2.1, fun c hc => ?_, ?_⟩
  · rw [List.length_nil, List.length_eq_zero_iff] at hC
    rw [hC] at hc
    simp at hc
  · rw [mapW_np.1 d h2.2]
    exact h3
theorem sim_callK {kf : List D → List Nat} (hl : SimA K tl L) (E : XK) : SimE K (tCall (Sp3 K n P) [] E tl) (eCallK n kf P L) := fun H0 A0 av ad Γ C σ H Q3 Q R h q => by
  refine hl H0 A0 av ad Γ C σ H _ _ R h fun vs H1 av1 ad1 ds C1 R1 l1 dv ⟨h0, h1, h2, h3⟩ => ?_
  subst h0
  rw [List.append_nil]
  exact R1.call (ks := kf ds) (Q3 := fun d C' => Q3 d C') dv h1 h2 h3 (fun d Cc _ h4 => h4) (fun v H' C' d R' l' x _ _ q3 => q v H' av1 ad1 d C' R' (l1.trans l') x q3) E
theorem ve_call (F : FnOkG X.prog X.w X.K X.mg X.base CX0 k f fd ps (Sp3 K 0 P)) (hr : RoomG k X.A) (hm : X.mg x = some (.ref f)) (hk : PySem.W.keepIn X.K (.ref f) = true) (hb : Binds X.K fd ps []) (ha : VA K X (e :: es) tl L) (hg : Gl X x := by rfl)
    (hdb : (x == ("__debug__" : Str)) = false := by decide) (he : starEach (e :: es) X.env = (false, eval e X.env) :: starEach es X.env := by rfl) (hpl : (backTo pos (starEach es X.env)).any (·.1) = false := by rfl) :
    VE K X (.Call (.Name x p) (e :: es) [] pos) (tCall (Sp3 K 0 P) [] E0 tl) (eCall P L) := ⟨pe_callG F hr hg hm hk hb pass0 ha.pa hdb he hpl, sim_call ha.sim E0⟩
theorem ve_callK {kf : List D → List Nat} (F : FnOkG X.prog X.w X.K X.mg X.base CX0 k f fd ps (Sp3 K n P)) (hr : RoomG k X.A) (hm : X.mg x = some (.ref f)) (hk : PySem.W.keepIn X.K (.ref f) = true) (hb : Binds X.K fd ps []) (ha : VA K X (e :: es) tl L) (hg : Gl X x := by rfl)
    (hdb : (x == ("__debug__" : Str)) = false := by decide) (he : starEach (e :: es) X.env = (false, eval e X.env) :: starEach es X.env := by rfl) (hpl : (backTo pos (starEach es X.env)).any (·.1) = false := by rfl) :
    VE K X (.Call (.Name x p) (e :: es) [] pos) (tCall (Sp3 K n P) [] E0 tl) (eCallK n kf P L) := ⟨pe_callG F hr hg hm hk hb pass0 ha.pa hdb he hpl, sim_callK ha.sim E0⟩
end
mutual
def flatD : D → Bool
  | .non => true
  | .bl _ => true
  | .int _ => true
  | .str _ => true
  | .tup xs => flatDs xs
  | _ => false
def flatDs : List D → Bool
  | [] => true
  | x :: xs => flatD x && flatDs xs
end
mutual
theorem Den.ban {K : PySem.W.Frag} {H0 : Hp} {av : Av} {ad : Ads} {H : Hp} {p : Addr} {ws : List V} (hp : H p = some (.lst ws)) : ∀ {v : V} {d : D}, Den K H0 av ad H v d → flatD d = true → Den K H0 (fun b => av b ∨ b = p) ad H v d
  | _, _, .bad, e => by simp [flatD] at e
  | _, _, .non, _ => .non
  | _, _, .bl, _ => .bl
  | _, _, .int, _ => .int
  | _, _, .str, _ => .str
  | _, _, .lst _ _ _, e => by simp [flatD] at e
  | _, _, .tup r x, e => .tup ⟨r.1, fun z => z.elim r.2 fun z => by subst z; rw [r.1] at hp; cases hp⟩ (DenAll.ban hp x (by simpa only [flatD] using e))
  | _, _, .dk _ _ _ _ _, e => by simp [flatD] at e
  | _, _, .dt _ _ _ _ _, e => by simp [flatD] at e
  | _, _, .obj _ _ _ _, e => by simp [flatD] at e
  | _, _, .exc _ _ _ _ _, e => by simp [flatD] at e
  | _, _, .ptr _, e => by simp [flatD] at e
theorem DenAll.ban {K : PySem.W.Frag} {H0 : Hp} {av : Av} {ad : Ads} {H : Hp} {p : Addr} {ws : List V} (hp : H p = some (.lst ws)) : ∀ {vs : List V} {ds : List D}, DenAll K H0 av ad H vs ds → flatDs ds = true → DenAll K H0 (fun b => av b ∨ b = p) ad H vs ds
  | _, _, .nil, _ => .nil
  | _, _, .cons a b, e => by
    simp only [flatDs, Bool.and_eq_true] at e
    exact .cons (Den.ban hp a e.1) (DenAll.ban hp b e.2)
end
mutual
theorem flat_np : ∀ {d : D}, flatD d = true → noptr d = true ∧ okW (fun o => !o) d = true
  | .bad, e => by simp [flatD] at e
  | .non, _ => ⟨rfl, rfl⟩
  | .bl _, _ => ⟨rfl, rfl⟩
  | .int _, _ => ⟨rfl, rfl⟩
  | .str _, _ => ⟨rfl, rfl⟩
  | .tup xs, e => by
    have := flats_np (ds := xs) (by simpa only [flatD] using e)
    simpa only [noptr, okW] using this
  | .lst _ _, e => by simp [flatD] at e
  | .dk _ _ _, e => by simp [flatD] at e
  | .dt _ _ _, e => by simp [flatD] at e
  | .obj _ _ _, e => by simp [flatD] at e
  | .exc _ _ _, e => by simp [flatD] at e
  | .ptr _, e => by simp [flatD] at e
theorem flats_np : ∀ {ds : List D}, flatDs ds = true → noptrs ds = true ∧ okWs (fun o => !o) ds = true
  | [], _ => ⟨rfl, rfl⟩
  | x :: xs, e => by
    simp only [flatDs, Bool.and_eq_true] at e
    have h1 := flat_np (d := x) e.1
    have h2 := flats_np (ds := xs) e.2
    simp only [noptrs, okWs, Bool.and_eq_true]
    exact ⟨⟨h1.1, h2.1⟩, h1.2, h2.2⟩
end
end L3
namespace L3
open PySem PySem.Spec PyProof.Rows L2
section
variable {K : PySem.W.Frag} {H0 : Hp} {A0 : List Addr} {av : Av} {ad : Ads} {Γ : Slots} {C : Store} {σ : L2.St} {H H' : Hp}
theorem Rep.grow (R : Rep K H0 A0 av ad Γ C σ H) (s : ∀ a o, H a = some o → H' a = some o) {p : Addr} (n : H p = none) (e : H' p ≠ none) (no : ∀ xs, H' p ≠ some (.tup xs)) : Rep K H0 A0 (fun b => av b ∨ b = p) ad Γ C σ H' := by
  have f : Fz av H (fun b => av b ∨ b = p) H' := fun a u h na => ⟨s a u h, fun z => z.elim na fun e => ne_of_none h n e⟩
  have R' := R.same s
  exact { R' with
    sub := fun a h => .inl (R.sub a h)
    dom := fun a h => h.elim (R'.dom a) fun z => by rw [z]; exact e
    avt := fun a xs h r => h.elim (fun z => R'.avt a xs z r) fun z => by subst z; exact no xs r
    cells := fun i a c h1 h2 => by
      refine (R.cells i a c h1 h2).mono f Pre.refl ?_
      cases q : H a with
      | none => exact absurd q (R.dom a (R.av_of h1))
      | some o => exact s a o q
    slot := fun i d h => by
      obtain ⟨v, h1, h2⟩ := R.slot i d h
      exact ⟨v, h1, h2.mono f Pre.refl⟩ }
theorem Rep.poke (R : Rep K H0 A0 av ad Γ C σ H) {p : Addr} {o : HO} (hp : av p) (n0 : H0 p = none) (np : some p ∉ ad) (no : ∀ xs, o ≠ .tup xs) : Rep K H0 A0 av ad Γ C σ (upd H p o) ∧ Fz av H av (upd H p o) := by
  have f : Fz av H av (upd H p o) := fun a u h na => ⟨by rw [upd_ne (fun e => na (by rw [e]; exact hp))]; exact h, na⟩
  have ne : ∀ (i : Nat) (a : Addr), ad[i]? = some (some a) → a ≠ p := fun i a h e => np (by rw [← e]; exact mem_ads h)
  refine ⟨{ R with
    dom := fun a h e => by
      by_cases q : a = p
      · subst q; rw [upd_same] at e; cases e
      · rw [upd_ne q] at e; exact R.dom a h e
    avt := fun a xs h r => by
      by_cases q : a = p
      · subst q; rw [upd_same] at r; exact no xs (Option.some.inj r)
      · rw [upd_ne q] at r; exact R.avt a xs h r
    keep := fun a u h n => by
      have q : a ≠ p := fun e => by subst e; rw [n0] at h; cases h
      rw [upd_ne q]; exact R.keep a u h n
    there := fun a e => by
      by_cases q : a = p
      · subst q; rw [upd_same] at e; cases e
      · rw [upd_ne q] at e; exact R.there a e
    cells := fun i a c h1 h2 => (R.cells i a c h1 h2).mono f Pre.refl (upd_ne (ne i a h1))
    slot := fun i d h => by
      obtain ⟨v, h1, h2⟩ := R.slot i d h
      exact ⟨v, h1, h2.mono f Pre.refl⟩ }, f⟩
end
def wipe3 (Γ : Slots) : List Nat → Slots
  | [] => Γ
  | v :: vs => (wipe3 Γ vs).set v none
theorem wipe3_length (Γ : Slots) : ∀ vs : List Nat, (wipe3 Γ vs).length = Γ.length
  | [] => rfl
  | v :: vs => by unfold wipe3; rw [List.length_set, wipe3_length Γ vs]
theorem wipe3_some {Γ : Slots} {i : Nat} {d : D} : ∀ {vs : List Nat}, (wipe3 Γ vs)[i]? = some (some d) → Γ[i]? = some (some d) ∧ i ∉ vs
  | [], h => ⟨h, by simp⟩
  | v :: vs, h => by
    unfold wipe3 at h
    by_cases hi : v = i
    · subst hi
      by_cases hv : v < (wipe3 Γ vs).length
      · rw [List.getElem?_set_self hv] at h; cases h
      · rw [List.getElem?_eq_none (by simpa using hv)] at h; cases h
    · rw [List.getElem?_set_ne hi] at h
      obtain ⟨h1, h2⟩ := wipe3_some h
      exact ⟨h1, by simp only [List.mem_cons, not_or]; exact ⟨fun e => hi e.symm, h2⟩⟩
theorem wipe_other {σ : L2.St} {i : Nat} : ∀ {vs : List Nat}, i ∉ vs → (wipe σ vs)[i]? = σ[i]?
  | [], _ => rfl
  | v :: vs, h => by
    simp only [List.mem_cons, not_or] at h
    unfold wipe
    rw [List.getElem?_set_ne (fun e => h.1 e.symm)]
    exact wipe_other h.2
theorem wipe_set {σ : L2.St} {i : Nat} {x : Option V} : ∀ {vs : List Nat}, i ∈ vs → wipe (σ.set i x) vs = wipe σ vs
  | [], h => by simp at h
  | v :: vs, h => by
    unfold wipe
    by_cases hi : i = v
    · subst hi
      by_cases hm : i ∈ vs
      · rw [wipe_set hm]
      · have key : ∀ us : List Nat, wipe (σ.set i x) us = (wipe σ us).set i x ∨ wipe (σ.set i x) us = wipe σ us := by
          intro us
          induction us with
          | nil => exact .inl rfl
          | cons u us ih =>
            unfold wipe
            rcases ih with e | e
            · rw [e]
              by_cases hu : i = u
              · subst hu; right; rw [List.set_set]
              · left; rw [List.set_comm _ _ hu]
            · rw [e]; right; rfl
        rcases key vs with e | e
        · rw [e, List.set_set]
        · rw [e]
    · have hm : i ∈ vs := by simpa [hi] using h
      rw [wipe_set hm]
def GOwn (vs : List Nat) (g : TG) : Prop := ∀ (v : V) (σ σ0 : L2.St) (H : Hp) (Q : L2.St → Hp → Prop), wipe σ vs = wipe σ0 vs → g v σ H Q → g v σ H fun σ2 H2 => wipe σ2 vs = wipe σ0 vs ∧ Q σ2 H2
def GsOwn (vs : List Nat) (g : TGs) : Prop := ∀ (us : List V) (σ σ0 : L2.St) (H : Hp) (Q : L2.St → Hp → Prop), wipe σ vs = wipe σ0 vs → g us σ H Q → g us σ H fun σ2 H2 => wipe σ2 vs = wipe σ0 vs ∧ Q σ2 H2
theorem own_name {vs : List Nat} {i : Nat} (h : i ∈ vs) : GOwn vs (gName i) := fun v σ σ0 H Q e q => ⟨(wipe_set h).trans e, q⟩
theorem own_nil {vs : List Nat} : GsOwn vs gNil := fun us σ σ0 H Q e ⟨h, q⟩ => ⟨h, e, q⟩
theorem own_cons {vs : List Nat} {g : TG} {gs : TGs} (h : GOwn vs g) (h' : GsOwn vs gs) (mono : ∀ (v : V) (σ : L2.St) (H : Hp) (Q Q' : L2.St → Hp → Prop), (∀ σ H, Q σ H → Q' σ H) → g v σ H Q → g v σ H Q') : GsOwn vs (gCons g gs) := fun us σ σ0 H Q e ⟨v, r, e1, q⟩ =>
  ⟨v, r, e1, mono _ _ _ _ _ (fun σ2 H2 ⟨e2, q2⟩ => h' r σ2 σ0 H2 Q e2 q2) (h v σ σ0 H _ e q)⟩
theorem mono_name {i : Nat} (v : V) (σ : L2.St) (H : Hp) (Q Q' : L2.St → Hp → Prop) (h : ∀ σ H, Q σ H → Q' σ H) (q : gName i v σ H Q) : gName i v σ H Q' := h _ _ q
theorem own_tup {vs : List Nat} {n : Nat} {K : PySem.W.Frag} {gs : TGs} (h : GsOwn vs gs) : GOwn vs (gTup K n gs) := fun v σ σ0 H Q e ⟨a, xs, e1, e2, e3, q⟩ => ⟨a, xs, e1, e2, e3, h xs σ σ0 H Q e q⟩
structure VTs (K : PySem.W.Frag) (X : Cx) (ifs : List Expr) (t : TT) (B : BV) : Prop where
  pt : PTs X ifs t
  sim : SimT K t B
def bYes : BV := fun _ C Q => Q true C
def lcW (G : GV) (B : BV) (E : EV) (Γ : Slots) (ok : Store → Prop) (Q : Cell → Store → Prop) : List D → List D → Store → Prop
  | [], acc, C => Q (.lst acc) C
  | d :: ds, acc, C => G d Γ C fun Γ1 C1 => B Γ1 C1 fun k C2 => if k = true then E Γ1 C2 fun y C3 => acc.length < sizeLine ∧ ok C3 ∧ lcW G B E Γ ok Q ds (acc ++ [y]) C3 else ok C2 ∧ lcW G B E Γ ok Q ds acc C2
def srcOk (src : List Nat) (C0 C : Store) : Prop := ∀ k, k ∈ src → C[k]? = C0[k]?
def fLc (vs : List Nat) (I : IV) (G : GV) (B : BV) (E : EV) : FV := fun Γ C Q => I Γ C fun ds src C1 => lcW G B E (wipe3 Γ vs) (srcOk src C1) Q ds [] C1
section
variable {K : PySem.W.Frag} {X : Cx} {elt tg iter c : Expr} {ifs : List Expr} {scope : Scope} {own : List (Str × Nat)} {pos spos py : Pos} {wi : TI} {g : TG} {tt : TT} {te : TE} {I : IV} {G : GV} {B : BV} {E : EV} {F : FV} {x y : Str}
theorem vts_nil : VTs K X [] tYes bYes := ⟨pts_nil, fun H0 A0 av ad Γ C σ H Q3 Q R h q => q true H av ad C R Le.refl h⟩
theorem vts_one (h : VT K X c tt B) : VTs K X [c] tt B := ⟨pts_one h.pt, h.sim⟩
theorem wipe_idem {σ : L2.St} : ∀ vs us : List Nat, (∀ i, i ∈ us → i ∈ vs) → wipe (wipe σ vs) us = wipe σ vs
  | _, [], _ => rfl
  | vs, u :: us, h => by
    unfold wipe
    rw [wipe_idem vs us fun i hi => h i (List.mem_cons_of_mem _ hi)]
    have hu : u ∈ vs := h u (List.mem_cons_self ..)
    have key : ∀ ws : List Nat, u ∈ ws → (wipe σ ws).set u none = wipe σ ws := by
      intro ws
      induction ws with
      | nil => intro h; simp at h
      | cons w ws ih =>
        intro hm
        unfold wipe
        by_cases e : u = w
        · subst e; rw [List.set_set]
        · rw [List.set_comm _ _ (Ne.symm e), ih (by simpa [e] using hm)]
    have := key vs hu
    cases vs <;> exact this
theorem sim_lc {vs : List Nat} (hi : SimI K wi I) (hg : SimG K g G) (ho : GOwn vs g) (ht : SimT K tt B) (he : SimE K te E) : SimF K (tLc wi g tt te vs) (fLc vs I G B E) := by
  intro H0 A0 av ad Γ C σ H Q3 Q R h q
  refine hi H0 A0 av ad Γ C σ H _ _ R h fun J H1 av1 ad1 C1 ds src R1 l1 Y w0 p np => ?_
  have n0 : H0 p = none := R1.there p np
  have nad : some p ∉ ad1 := fun z => R1.nav np (R1.sub p z)
  let Iv : Nat → Hp → Prop := fun i H2 => i ≤ ds.length ∧ ∃ av2 ad2 C2 acc vs2, Rep K H0 A0 av2 ad2 Γ C2 σ H2 ∧ av2 p ∧ some p ∉ ad2 ∧ Le av1 ad1 H1 av2 ad2 H2 ∧ srcOk src C1 C2 ∧ H2 p = some (.lst vs2) ∧
      DenAll K H0 av2 ad2 H2 vs2 acc ∧ lcW G B E (wipe3 Γ vs) (srcOk src C1) Q3 (ds.drop i) acc C2
  have start : Iv 0 (upd H1 p (.lst [])) := by
    refine ⟨Nat.zero_le _, _, ad1, C1, [], [], R1.ban np (fun _ z => nomatch z), .inr rfl, nad, ⟨?_, Pre.refl, fun a e => ?_, fun _ h => .inl h, fun _ h => .inl h, fun a u h _ => same_upd np a u h⟩, fun _ _ => rfl, upd_same, .nil, w0⟩
    · exact fun a u h na => ⟨same_upd np a u h, fun z => z.elim na fun e => ne_of_none h np e⟩
    · by_cases h : a = p
      · subst h; exact np
      · rw [upd_ne h] at e; exact e
  refine ⟨fun i m H2 => m = ds.length - i ∧ Iv i H2, ⟨ds.length, by simp, start⟩, ?_⟩
  rintro i m H2 ⟨rfl, hil, av2, ad2, C2, acc, vs2, R2, pv2, np2, l2, ok2, hp2, da2, w2⟩
  have kp : Keeps av1 ad1 C1 H1 src ds av2 ad2 C2 H2 := by
    refine ⟨l2.fz, .inr l2.pre, fun k hk => ⟨?_, ok2 k hk⟩⟩
    cases e : ad1[k]? with
    | none =>
      have h1 := R1.len
      have h2 : C1[k]? = none := by rw [List.getElem?_eq_none_iff] at e ⊢; omega
      have h3 := ok2 k hk
      rw [h2] at h3
      rw [List.getElem?_eq_none_iff] at h3 ⊢
      have := R2.len
      omega
    | some o =>
      cases o with
      | some a => exact l2.pre k a e
      | none =>
        have h1 := R1.gone k e
        have h2 := ok2 k hk
        rw [h1] at h2
        have hlt : k < ad2.length := by rw [R2.len]; exact (List.getElem?_eq_some_iff.mp h2).1
        cases q2 : ad2[k]? with
        | none => rw [List.getElem?_eq_getElem hlt] at q2; cases q2
        | some o =>
          cases o with
          | none => rfl
          | some a => exact (R2.cells k a _ q2 h2).elim
  obtain ⟨y1, y2⟩ := Y av2 ad2 Γ C2 σ H2 i R2 kp
  by_cases hlt : i < ds.length
  · obtain ⟨hgo, hy⟩ := y1 hlt
    refine .inr ⟨hgo, Iv (i + 1), fun H' h' => ⟨ds.length - (i + 1), by omega, rfl, h'⟩, fun x H3 hx => ?_⟩
    obtain ⟨s3, d, e3, r3⟩ := hy x H3 hx
    have ed : ds.drop i = d :: ds.drop (i + 1) := by
      rw [List.drop_eq_getElem_cons hlt]
      have : ds[i] = d := by
        rw [List.getElem?_eq_getElem hlt] at e3
        exact Option.some.inj e3
      rw [this]
    rw [ed] at w2
    have R3 := R2.same s3
    have RW : Rep K H0 A0 av2 ad2 (wipe3 Γ vs) C2 (wipe σ vs) H3 := R3.slots (by rw [wipe_length, wipe3_length]; exact R3.slen) fun j d hj => by
      obtain ⟨h1, h2⟩ := wipe3_some hj
      obtain ⟨v, h3, h4⟩ := R3.slot j d h1
      exact ⟨v, by rw [wipe_other h2]; exact h3, h4⟩
    have n3 : H3 p = some (.lst vs2) := s3 p _ hp2
    have back : ∀ {av' : Av} {ad' : Ads} {C' : Store} {σ' : L2.St} {Γ' : Slots} {H' : Hp}, Rep K H0 A0 av' ad' Γ' C' σ' H' → Le av2 ad2 H3 av' ad' H' → Rep K H0 A0 av' ad' Γ C' σ H' := fun R' l' => R'.slots R3.slen fun j d hj => by
      obtain ⟨v, h3, h4⟩ := R3.slot j d hj
      exact ⟨v, h3, h4.le l'⟩
    refine ho x (wipe σ vs) σ H3 _ (wipe_idem vs vs fun _ h => h) ?_
    refine hg H0 A0 av2 ad2 (wipe3 Γ vs) C2 (wipe σ vs) H3 x d _ _ RW r3 w2 fun av4 ad4 Γ4 C4 σ4 H4 R4 l4 w4 => ?_
    refine ht H0 A0 av4 ad4 Γ4 C4 σ4 H4 _ _ R4 w4 fun k H5 av5 ad5 C5 R5 l5 w5 => ?_
    have l45 := l4.trans l5
    have l25 : Le av1 ad1 H1 av5 ad5 H5 := (l2.trans (Le.same s3)).trans l45
    have fresh : ∀ {av' : Av} {ad' : Ads} {H' : Hp}, Le av2 ad2 H3 av' ad' H' → some p ∉ ad' := fun l' z => (l'.adn p z).elim np2 fun e => by rw [n3] at e; cases e
    cases k with
    | false =>
      obtain ⟨w5, w6⟩ := w5
      exact ⟨hlt, av5, ad5, C5, acc, vs2, back R5 l45, l45.avm p pv2, fresh l45, l25, w5, l45.kp p _ n3 np2, (da2.le (Le.same s3)).le l45, w6⟩
    | true =>
      rw [if_pos rfl]
      refine he H0 A0 av5 ad5 Γ4 C5 σ4 H5 _ _ R5 w5 fun v H6 av6 ad6 dv C6 R6 l6 r6 ⟨hz, w6, w7⟩ => ?_
      have l46 := l45.trans l6
      have l26 : Le av1 ad1 H1 av6 ad6 H6 := l25.trans l6
      have pv6 : av6 p := l46.avm p pv2
      have np6 : some p ∉ ad6 := fresh l46
      have da6 : DenAll K H0 av6 ad6 H6 (vs2 ++ [v]) (acc ++ [dv]) := ((da2.le (Le.same s3)).le l46).append (.cons r6 .nil)
      obtain ⟨R7, f7⟩ := (back R6 l46).poke (o := .lst (vs2 ++ [v])) pv6 n0 np6 (fun _ z => nomatch z)
      have hl := da2.length
      refine ⟨vs2, l46.kp p _ n3 np2, by rw [hl]; exact hz, hlt, av6, ad6, C6, acc ++ [dv], vs2 ++ [v], R7, pv6, np6, ?_, w6, upd_same, da6.mono f7 Pre.refl, w7⟩
      refine ⟨l26.fz.trans f7, l26.pre, fun a e => ?_, l26.avm, l26.adn, fun a u h n => ?_⟩
      · by_cases h : a = p
        · subst h; exact np
        · rw [upd_ne h] at e; exact l26.there a e
      · rw [upd_ne (ne_of_none h np)]; exact l26.kp a u h n
  · have e : i = ds.length := by omega
    subst e
    rw [List.drop_length] at w2
    refine .inl ⟨y2 (Nat.le_refl _), ?_⟩
    have ea : av2 = fun b => (av2 b ∧ b ≠ p) ∨ b = p := by
      funext b
      refine propext ⟨fun h => ?_, fun h => h.elim (fun z => z.1) fun z => by rw [z]; exact pv2⟩
      by_cases e : b = p
      · exact .inr e
      · exact .inl ⟨h, e⟩
    have l3 := l1.trans l2
    rw [ea] at R2 l3 da2
    exact q p H2 (fun b => av2 b ∧ b ≠ p) ad2 (.lst acc) C2 R2 (fun b hb => ⟨(R2.sub b hb).elim (fun z => z.1) fun z => by rw [z] at hb; exact absurd hb np2, fun z => np2 (by rw [← z]; exact hb)⟩) (fun z => z.2 rfl) (l1.there p np) l3 ⟨vs2, hp2, da2⟩ w2
theorem vf_lc (hc : X.calm = true) (hN : X.N.Nodup) (hi : VI K X tg iter wi I) (ok : BlkOk X.N X.env.scope scope own) (ho : GOwn (own.map (·.2)) g)
    (hg : ∀ (s : Shared) (H : Hp) (C : Addr) (cl : List (Str × Addr)) (fp : List Addr), VG K (X.blk s H scope (compEnvC scope cl C X.env) fp) tg g G) (ht : ∀ (s : Shared) (H : Hp) (C : Addr) (cl : List (Str × Addr)) (fp : List Addr), VTs K (X.blk s H scope (compEnvC scope cl C X.env) fp) ifs tt B)
    (he : ∀ (s : Shared) (H : Hp) (C : Addr) (cl : List (Str × Addr)) (fp : List Addr), VE K (X.blk s H scope (compEnvC scope cl C X.env) fp) elt te E) (hs : ∀ x, foldedSetIterable iter X.env x = pure x := by intro _; rfl) :
    VF K X (.ListComp elt [⟨tg, iter, ifs, 0⟩] scope pos) (tLc wi g tt te (own.map (·.2))) (fLc (own.map (·.2)) I G B E) :=
  ⟨pe_lc hc hN hi.pi ok (fun s H C cl fp => (hg s H C cl fp).pg) (fun s H C cl fp => (ht s H C cl fp).pt) (fun s H C cl fp => (he s H C cl fp).pe) hs,
    sim_lc hi.sim (hg X.s_0 X.H_0 0 [] []).sim ho (ht X.s_0 X.H_0 0 [] []).sim (he X.s_0 X.H_0 0 [] []).sim⟩
theorem vs_setLc (i : Nat) (m : Bool) (hc : X.calm = true) (hN : X.N.Nodup) (hi : VI K X tg iter wi I) (ok : BlkOk X.N X.env.scope scope own) (ho : GOwn (own.map (·.2)) g)
    (hg : ∀ (s : Shared) (H : Hp) (C : Addr) (cl : List (Str × Addr)) (fp : List Addr), VG K (X.blk s H scope (compEnvC scope cl C X.env) fp) tg g G) (ht : ∀ (s : Shared) (H : Hp) (C : Addr) (cl : List (Str × Addr)) (fp : List Addr), VTs K (X.blk s H scope (compEnvC scope cl C X.env) fp) ifs tt B)
    (he : ∀ (s : Shared) (H : Hp) (C : Addr) (cl : List (Str × Addr)) (fp : List Addr), VE K (X.blk s H scope (compEnvC scope cl C X.env) fp) elt te E) (hy : X.N[i]? = some y := by rfl) (hyl : X.env.scope.names.lookup y = some .local := by rfl)
    (hsw : swapsWith (.ListComp elt [⟨tg, iter, ifs, 0⟩] scope pos) (some (.Name y py)) spos.line X.env = pure true := by exact sw_true rfl rfl rfl (by decide +kernel)) (hs : ∀ x, foldedSetIterable iter X.env x = pure x := by intro _; rfl) :
    VS K X (.Assign [.Name y py] (.ListComp elt [⟨tg, iter, ifs, 0⟩] scope pos) spos) (tAsg (tLc wi g tt te (own.map (·.2))) (gName i)) (sAsg (if m then eCell (fLc (own.map (·.2)) I G B E) else eFrz (fLc (own.map (·.2)) I G B E)) (gvName i)) := by
  have V := vf_lc (pos := pos) hc hN hi ok ho hg ht he hs
  refine ⟨ps_setLc hc hN hy hyl hsw hi.pi ok (fun s H C cl fp => (hg s H C cl fp).pg) (fun s H C cl fp => (ht s H C cl fp).pt) (fun s H C cl fp => (he s H C cl fp).pe) hs, ?_⟩
  refine sim_asg ?_ fun H0 A0 av ad Γ C σ H v d Q3 Q R dv h q => q av ad _ C _ H (R.store i dv) Le.refl h
  cases m with
  | true => exact V.cell.sim
  | false => exact V.frz.sim
end
end L3
namespace L2
open PySem PySem.Spec PyProof.Rows
section
variable {X : Cx} {pins : List (Addr × Obj)} {σ : St} {H : Hp} {s : Shared} {l : Addr} {xs : List V}
theorem Inv.lstR (I : Inv X pins σ H s) (hH : Rd H l (.lst xs)) : xs.length ≤ sizeLine ∧ ∃ (its : List Value) (n : Nat), Vals xs its ∧ xs.length = its.length ∧ s.heap.get? l = some { cls := .type "list", data := .seq its.toArray n } := by
  obtain ⟨z, its, n, r, e⟩ := hH.ok I.hok
  exact ⟨z, its, n, r, r.length, e⟩
def rCatR : R2 := fun x y H Q => ∃ l b xs zs, x = .ref l ∧ y = .ref b ∧ Rd H l (.lst xs) ∧ Rd H b (.lst zs) ∧ xs.length + zs.length ≤ sizeLine ∧ ∀ p, H p = none → Q (.ref p) (upd H p (.lst (xs ++ zs)))
theorem op_catR : OpR X (binaryOp .Add) rCatR := by
  intro pins s σ H x y v u Q I rx ry h
  obtain ⟨l, b, xs, zs, rfl, rfl, hH, hB, hz, q⟩ := h
  cases rx
  cases ry
  obtain ⟨z, its, n, r, hl, e⟩ := I.lstR hH
  obtain ⟨z2, its2, n2, r2, hl2, e2⟩ := I.lstR hB
  refine PySem.P.add_list e e2 ?_ (by rw [List.size_toArray, List.size_toArray]; omega)
  have ea : its.toArray ++ its2.toArray = (its ++ its2).toArray := by simp
  rw [ea]
  exact ⟨.ref _, _, I.lnew (t' := s.toks) (r.append r2) (by rw [List.length_append]; omega), rfl, q _ I.fresh⟩
def rExtendR : V → List V → Hp → VK → Prop := fun x vs H Q => ∃ l b xs zs, x = .ref l ∧ vs = [.ref b] ∧ H l = some (.lst xs) ∧ Rd H b (.lst zs) ∧ xs.length + zs.length ≤ sizeLine ∧ Q .non (upd H l (.lst (xs ++ zs)))
theorem mt_extendR : MtM X "list.extend" rExtendR := by
  intro pins s σ H x vs v us Q I rx rv h
  obtain ⟨l, b, xs, zs, rfl, rfl, hH, hB, hz, q⟩ := h
  cases rx
  obtain ⟨u, rfl, ru⟩ := rv.one
  cases ru
  obtain ⟨z, its, n, r, hl, e⟩ := I.lstM hH
  obtain ⟨z2, its2, n2, r2, hl2, e2⟩ := I.lstR hB
  have hsz : its.toArray.size + its2.toArray.size ≤ sizeLine := by rw [List.size_toArray, List.size_toArray]; omega
  have hlong : ¬ (!its.toArray.isEmpty && Builtin.List.listTooLong (its.toArray.size + its2.toArray.size)) = true := by
    rw [notLongL hsz, Bool.and_false]
    exact Bool.false_ne_true
  refine call_meets F.slot_list_extend ⟨_, e, rfl⟩ F.entry_list_extend (F.args_list_extend_2 _ _)
    (AutoSeq1.list_extend_list_list_0 l its.toArray n b its2.toArray n2 hlong (by rw [List.size_toArray]; omega) (by omega)) ⟨e, e2, ?_⟩
  refine ⟨.non, _, I.lset (its' := its ++ its2) hH e (by simp) (r.append r2) ?_, rfl, q⟩
  rw [List.length_append]
  omega
end
end L2
namespace L3
open PySem PySem.Spec PyProof.Rows L2
section
variable {K : PySem.W.Frag} {X : Cx} {e a b c o : Expr} {es : List Expr} {t ta tb tc te to : TE} {E Ea Eb Ec Eo : EV} {F : FV} {B B' : BV} {tl : TA} {L : AV} {pos p apos cpos : Pos} {x name : Str} {id T : String}
def nCat : N2 := fun C x y Q => ∃ xs ys, lstOf C x = some xs ∧ lstOf C y = some ys ∧ xs.length + ys.length ≤ sizeLine ∧ Q (.lst (xs ++ ys))
theorem sf_cat : SimRF K rCatR nCat := by
  intro H0 A0 av ad Γ C σ H x y dx dy Q3 Q R d1 d2 ⟨xs, ys, e1, e2, hl, q3⟩ q
  obtain ⟨a, vs, rfl, h1, r1⟩ := R.lst d1 e1
  obtain ⟨b, us, rfl, h2, r2⟩ := R.lst d2 e2
  exact ⟨a, b, vs, us, rfl, rfl, h1, h2, by rw [r1.length, r2.length]; exact hl, fun p np => q H p _ (.lst _) (fun _ _ h => h) np noTup_lst (r1.append r2) q3⟩
def nRep : N2 := fun C x y Q => ∃ xs i, lstOf C x = some xs ∧ y = .int i ∧ -(2 ^ 63) ≤ i ∧ i < 2 ^ 63 ∧ xs.length * i.toNat ≤ sizeLine ∧ (match x with | .lst o _ => o = false | _ => True) ∧ Q (.lst (List.replicate i.toNat xs).flatten)
theorem den_rep {H0 : Hp} {av : Av} {ad : Ads} {H : Hp} {vs : List V} {ds : List D} (x : DenAll K H0 av ad H vs ds) : ∀ n, DenAll K H0 av ad H (List.replicate n vs).flatten (List.replicate n ds).flatten
  | 0 => .nil
  | n + 1 => by rw [List.replicate_succ, List.replicate_succ, List.flatten_cons, List.flatten_cons]; exact x.append (den_rep x n)
abbrev OM := Store → D → List D → (D → Store → Prop) → Prop
def SimM (K : PySem.W.Frag) (r : V → List V → Hp → VK → Prop) (f : OM) : Prop := ∀ (H0 : Hp) (A0 : List Addr) (av : Av) (ad : Ads) (Γ : Slots) (C : Store) (σ : L2.St) (H : Hp) (x : V) (vs : List V) (dx : D) (ds : List D) (Q3 : D → Store → Prop) (Q : VK), Rep K H0 A0 av ad Γ C σ H →
  Den K H0 av ad H x dx → DenAll K H0 av ad H vs ds → f C dx ds Q3 → (∀ (v : V) (H' : Hp) (C' : Store) (d : D), Rep K H0 A0 av ad Γ C' σ H' → Le av ad H av ad H' → Den K H0 av ad H' v d → Q3 d C' → Q v H') → r x vs H Q
def eMl (f : OM) (Eo : EV) (L : AV) : EV := fun Γ C Q => Eo Γ C fun x C1 => ∃ xs, lstOf C1 x = some xs ∧ L Γ C1 fun ds C2 => f C2 x ds Q
theorem sim_ml {r : V → List V → Hp → VK → Prop} {f : OM} (hs : SimM K r f) (ho : SimE K to Eo) (hl : SimA K tl L) : SimE K (tBM K "list" r to tl) (eMl f Eo L) := fun H0 A0 av ad Γ C σ H Q3 Q R h q =>
  ho H0 A0 av ad Γ C σ H _ _ R h fun x H1 av1 ad1 dx C1 R1 l1 d1 ⟨xs, e1, h1⟩ => by
    obtain ⟨p, vs, rfl, s1, _⟩ := R1.lst d1 e1
    refine ⟨.inl ⟨rfl, vs, .inl s1⟩, hl H0 A0 av1 ad1 Γ C1 σ H1 _ _ R1 h1 fun us H2 av2 ad2 ds C2 R2 l2 d2 h2 => ?_⟩
    exact hs H0 A0 av2 ad2 Γ C2 σ H2 _ us dx ds _ Q R2 (d1.le l2) d2 h2 fun v H3 C3 d R3 l3 d3 q3 => q v H3 av2 ad2 d C3 R3 ((l1.trans l2).trans l3) d3 q3
theorem ve_ml {r : V → List V → Hp → VK → Prop} {f : OM} (hK : X.K = K) (pa : PlainAttrs "list") (slot : Slot "list" name id) (hty : typeOf (.builtin id) = pure (.type "method_descriptor")) (hm : MtR X id r) (hs : SimM K r f) (ho : VE K X o to Eo) (ha : VA K X (e :: es) tl L)
    (hbase : attributeBase o name X.env (eval o X.env) = eval o X.env := by rfl)
    (hfew : ((backTo cpos (starEach (e :: es) X.env)).all (fun x => !x.1) && (backToKw cpos (keywordEach [] X.env)).all (fun x => x.1.isSome)
      && decide ((e :: es).length + ([] : List Keyword).length + (if ([] : List Keyword).isEmpty then 0 else 1) < 30)) = true := by rfl)
    (hline : (apos.endLine == cpos.line) = true := by rfl) (hst : starEach (e :: es) X.env = (false, eval e X.env) :: starEach es X.env := by rfl) (hplain : (backTo cpos (starEach es X.env)).any (·.1) = false := by rfl) :
    VE K X (.Call (.Attribute o name apos) (e :: es) [] cpos) (tBM K "list" r to tl) (eMl f Eo L) := by
  subst hK
  exact ⟨pe_bm pa slot hty hm ho.pe ha.pa hbase hfew hline hst hplain, sim_ml hs ho.sim ha.sim⟩
theorem ve_ml0 {r : V → List V → Hp → VK → Prop} {f : OM} (hK : X.K = K) (pa : PlainAttrs "list") (slot : Slot "list" name id) (hty : typeOf (.builtin id) = pure (.type "method_descriptor")) (hm : MtR X id r) (hs : SimM K r f) (ho : VE K X o to Eo)
    (hbase : attributeBase o name X.env (eval o X.env) = eval o X.env := by rfl) (hline : (apos.endLine == cpos.line) = true := by rfl) :
    VE K X (.Call (.Attribute o name apos) [] [] cpos) (tBM0 K "list" r to) (eMl f Eo aNil) := by
  subst hK
  refine ⟨pe_bm0 pa slot hty hm ho.pe hbase hline, fun H0 A0 av ad Γ C σ H Q3 Q R h q => ?_⟩
  exact (sim_ml (tl := tNil) hs ho.sim va_nil_sim) H0 A0 av ad Γ C σ H Q3 Q R h q
where va_nil_sim : SimA X.K tNil aNil := fun H0 A0 av ad Γ C σ H Q3 Q R h q => q [] H av ad [] C R Le.refl .nil h
def mAppend : OM := fun C x ds Q => ∃ (k : Nat) (xs : List D) (y : D), x = .ptr k ∧ ds = [y] ∧ C[k]? = some (.lst xs) ∧ xs.length < sizeLine ∧ Q .non (C.set k (.lst (xs ++ [y])))
theorem sm_append : SimM K rAppend mAppend := by
  intro H0 A0 av ad Γ C σ H x vs dx ds Q3 Q R d1 d2 ⟨k, xs, y, e1, e2, e3, hl, q3⟩ q
  subst e1 e2
  obtain ⟨v, rfl, r⟩ := den1 d2
  obtain ⟨p, us, rfl, hp, hu, ru⟩ := R.lstCell d1 e3
  obtain ⟨R2, l2⟩ := R.lstWrite hp e3 (ru.append (.cons r .nil))
  exact ⟨p, us, v, rfl, rfl, hu, by rw [ru.length]; exact hl, q _ _ _ _ R2 l2 .non q3⟩
def mExtend : OM := fun C x ds Q => ∃ (k : Nat) (xs : List D) (y : D) (ys : List D), x = .ptr k ∧ ds = [y] ∧ C[k]? = some (.lst xs) ∧ lstOf C y = some ys ∧ xs.length + ys.length ≤ sizeLine ∧ Q .non (C.set k (.lst (xs ++ ys)))
theorem sm_extend : SimM K rExtendR mExtend := by
  intro H0 A0 av ad Γ C σ H x vs dx ds Q3 Q R d1 d2 ⟨k, xs, y, ys, e1, e2, e3, e4, hl, q3⟩ q
  subst e1 e2
  obtain ⟨v, rfl, r⟩ := den1 d2
  obtain ⟨p, us, rfl, hp, hu, ru⟩ := R.lstCell d1 e3
  obtain ⟨b, ws, rfl, hb, rb⟩ := R.lst r e4
  obtain ⟨R2, l2⟩ := R.lstWrite hp e3 (ru.append rb)
  exact ⟨p, b, us, ws, rfl, rfl, hu, hb, by rw [ru.length, rb.length]; exact hl, q _ _ _ _ R2 l2 .non q3⟩
def mPop : OM := fun C x ds Q => ∃ (k : Nat) (xs : List D) (y : D), x = .ptr k ∧ ds = [] ∧ C[k]? = some (.lst xs) ∧ xs[xs.length - 1]? = some y ∧ Q y (C.set k (.lst xs.dropLast))
theorem sm_pop : SimM K rPop mPop := by
  intro H0 A0 av ad Γ C σ H x vs dx ds Q3 Q R d1 d2 ⟨k, xs, y, e1, e2, e3, e4, q3⟩ q
  subst e1 e2
  cases d2
  obtain ⟨p, us, rfl, hp, hu, ru⟩ := R.lstCell d1 e3
  obtain ⟨v, e5, rv⟩ := ru.get e4
  obtain ⟨R2, l2⟩ := R.lstWrite hp e3 ru.dropLast
  exact ⟨p, us, v, rfl, rfl, hu, by rw [ru.length]; exact e5, q _ _ _ _ R2 l2 (rv.le l2) q3⟩
def mPopAt : OM := fun C x ds Q => ∃ (k : Nat) (xs : List D) (i : Int) (j : Nat) (y : D), x = .ptr k ∧ ds = [.int i] ∧ C[k]? = some (.lst xs) ∧ -(2 ^ 63) ≤ i ∧ i < 2 ^ 63 ∧ seqIndex? i xs.length = some j ∧ xs[j]? = some y ∧ Q y (C.set k (.lst (xs.eraseIdx j)))
theorem sm_popAt : SimM K rPopAt mPopAt := by
  intro H0 A0 av ad Γ C σ H x vs dx ds Q3 Q R d1 d2 ⟨k, xs, i, j, y, e1, e2, e3, h1, h2, e4, e5, q3⟩ q
  subst e1 e2
  obtain ⟨v, rfl, r⟩ := den1 d2
  obtain ⟨p, us, rfl, hp, hu, ru⟩ := R.lstCell d1 e3
  obtain ⟨w, e6, rw'⟩ := ru.get e5
  obtain ⟨R2, l2⟩ := R.lstWrite hp e3 (ru.erase j)
  exact ⟨p, us, i, j, w, rfl, by rw [den_int r], hu, h1, h2, by rw [ru.length]; exact e4, e6, q _ _ _ _ R2 l2 (rw'.le l2) q3⟩
def oJoin : OM := fun C x ds Q => ∃ (s : Str) (y : D) (ys : List Str), x = .str s ∧ ds = [y] ∧ seqOf C y = some (ys.map .str) ∧ (ys.map (·.length)).sum + ys.length * s.length ≤ 16777216 ∧ Q (.str (Txt.join s ys)) C
def rJoin (K : PySem.W.Frag) : V → List V → Hp → VK → Prop := fun x xs H Q => ∃ a p, ∃ ys : List Str, x = .str a ∧ xs = [.ref p] ∧ (SqL K H p (ys.map V.str) ∨ SqT K H p (ys.map V.str)) ∧ (ys.map (·.length)).sum + ys.length * a.length ≤ 16777216 ∧ Q (.str (Txt.join a ys)) H
theorem sm_join : SimM K (rJoin K) oJoin := by
  intro H0 A0 av ad Γ C σ H x vs dx ds Q3 Q R d1 d2 ⟨s, y, ys, e1, e2, e3, hl, q3⟩ q
  subst e1 e2
  obtain ⟨v, rfl, r⟩ := den1 d2
  obtain ⟨p, us, rfl, hp, ru⟩ := R.seq r e3
  rw [den_strs ru] at hp
  exact ⟨s, p, ys, den_str d1, rfl, hp, hl, q _ _ _ _ R Le.refl .str q3⟩
def eM1 (f : OM) (Eo : EV) (E : EV) : EV := fun Γ C Q => Eo Γ C fun x C1 => (∃ s, x = .str s) ∧ E Γ C1 fun d C2 => f C2 x [d] Q
theorem ve_join (hK : X.K = K) (ho : VE K X o to Eo) (he : VE K X e te E) (hs : starEach [e] X.env = [(false, eval e X.env)] := by rfl) (hbase : attributeBase o "join" X.env (eval o X.env) = eval o X.env := by rfl) (hline : (apos.endLine == pos.line) = true := by rfl) :
    VE K X (.Call (.Attribute o "join" apos) [e] [] pos) (tM1 (rJoin K) to te) (eM1 oJoin Eo E) := by
  subst hK
  refine ⟨pe_join ho.pe he.pe hs hbase hline, fun H0 A0 av ad Γ C σ H Q3 Q R h q => ?_⟩
  refine ho.sim H0 A0 av ad Γ C σ H _ _ R h fun x H1 av1 ad1 dx C1 R1 l1 d1 ⟨⟨s, e1⟩, h1⟩ => ?_
  subst e1
  refine ⟨⟨s, den_str d1⟩, he.sim H0 A0 av1 ad1 Γ C1 σ H1 _ _ R1 h1 fun v H2 av2 ad2 d C2 R2 l2 d2 h2 => ?_⟩
  exact sm_join H0 A0 av2 ad2 Γ C2 σ H2 _ [v] _ [d] _ Q R2 (d1.le l2) (.cons d2 .nil) h2 fun v H3 C3 d R3 l3 d3 q3 => q v H3 av2 ad2 d C3 R3 ((l1.trans l2).trans l3) d3 q3
end
end L3
namespace L3
open PySem PySem.Spec PyProof.Rows L2
abbrev FnD (K : PySem.W.Frag) (x : Str) (st : Stmt) (f : Addr) (fd : FuncData) : Prop := FunD K x x (defArgs st) (defBody st) (defScope st) [] [] f fd
def Cal (P : Program) (w : World) (K : PySem.W.Frag) (mg : Str → Option Value) (base : Heap) (k : Nat) (x : Str) (st : Stmt) (ps : List Str) (n : Nat) (Pv : PV) : Prop :=
  ∃ (f : Addr) (fd : FuncData), FnOkG P w K mg base CX0 k f fd ps (Sp3 K n Pv) ∧ mg x = some (.ref f) ∧ PySem.W.keepIn K (.ref f) = true ∧ Binds K fd ps [] ∧ FnD K x st f fd
section
variable {K : PySem.W.Frag} {X : Cx} {e a b c o : Expr} {es : List Expr} {t ta tb tc te to : TE} {E Ea Eb Ec Eo : EV} {F : FV} {pos p tpos : Pos} {x : Str}
theorem pget_list (hK : X.K = K) : PGet X (rIxL K) := by
  subst hK
  intro pins s σ H x y v u Q I rx ry h
  obtain ⟨p, xs, i, z, rfl, rfl, hq, he, q⟩ := h
  cases rx
  obtain ⟨t, rfl⟩ := ry
  obtain ⟨its, r, pl, hz⟩ := I.list hq
  obtain ⟨j, h1, h2, h3, h4, h5⟩ := atI_get he
  obtain ⟨w, ew, rw'⟩ := r.get h2
  have hl := r.length
  have hn := line63
  have fin : EP X pins σ Q w s := ⟨z, H, I, rw', q⟩
  by_cases h0 : 0 ≤ i
  · have hj : i.toNat = j := by
      rw [seqIndex_of h0 h5] at h1
      exact Option.some.inj h1
    exact wpAny_getItem_list (x := w) pl.isList h0 (by omega) (by rw [hj]; simpa using ew) fin
  · have hj : (i + (its.toArray.size : Int)).toNat = j := by
      rw [seqIndex_neg (by omega) h4] at h1
      rw [List.size_toArray, ← hl]
      exact Option.some.inj h1
    exact wpAny_getItem_list_neg (x := w) pl.isList (by omega) (by rw [List.size_toArray] <;> omega) (by omega) (by rw [hj]; simpa using ew) fin
def sAugL (f : O2) (Eo Ei E : EV) : SV := fun D3 Γ C => Eo Γ C fun x C1 => Ei Γ C1 fun y C2 => ∃ (k : Nat) (xs : List D) (i : Int) (j : Nat) (d : D), x = .ptr k ∧ y = .int i ∧ C2[k]? = some (.lst xs) ∧ ixN xs.length i = some j ∧ xs[j]? = some d ∧
  E Γ C2 fun z C3 => f C3 d z fun u => C3[k]? = some (.lst xs) ∧ D3.nx Γ (C3.set k (.lst (xs.set j u)))
theorem vs_augL {op : Operator} {ti : TIp} {f : O2} (hK : X.K = K) (ho : VE K X o to Eo) (hi : VE K X a ta Ea) (hp : PIp X op ti) (hs : SimR K ti f) (h : VE K X e te E)
    (ha : ∀ ov iv new, augStore a ov iv new = (do holding [new, ov, iv] (setItem ov iv new); release [new, ov, iv] []; pure .next) := by intros; rfl) : VS K X (.AugAssign (.Subscript o a tpos) op e pos) (tAugS to ta te (rIxL K) ti rSetL) (sAugL f Eo Ea E) := by
  refine ⟨ps_augS ho.pe hi.pe (pget_list hK) h.pe hp set_list ha, fun H0 A0 av ad Γ C σ H D3 De R q l => ?_⟩
  refine ho.sim H0 A0 av ad Γ C σ H _ _ R q fun vo H1 av1 ad1 d1 C1 R1 l1 e1 h1 => ?_
  refine hi.sim H0 A0 av1 ad1 Γ C1 σ H1 _ _ R1 h1 fun vi H2 av2 ad2 d2 C2 R2 l2 e2 ⟨k, xs, i, j, d, e3, e4, e5, e6, e7, h2⟩ => ?_
  subst e3 e4
  obtain ⟨p, vs, rfl, hp', hl, r⟩ := R2.lstCell (e1.le l2) e5
  obtain ⟨u, hu, ru⟩ := r.get e7
  refine ⟨p, vs, i, u, rfl, den_int e2, SqL.of hl, by unfold atI; rw [r.length, e6]; exact hu, ?_⟩
  refine h.sim H0 A0 av2 ad2 Γ C2 σ H2 _ _ R2 h2 fun v3 H3 av3 ad3 d3 C3 R3 l3 r3 h3 => ?_
  refine hs H0 A0 av3 ad3 Γ C3 σ H3 u v3 d d3 _ _ R3 (ru.le l3) r3 h3 fun v4 H4 d4 s4 r4 ⟨e8, h4⟩ => ?_
  have R4 := R3.same s4
  obtain ⟨p2, vs2, ep, hp2, hl2, r2⟩ := R4.lstCell ((e1.le l2).le l3 |>.le (Le.same s4)) e8
  cases ep
  obtain ⟨R5, l5⟩ := R4.lstWrite hp2 e8 (r2.set r4 j)
  exact ⟨p, vs2, i, j, rfl, den_int e2, hl2, by rw [r2.length]; exact e6, l.nx av3 ad3 Γ _ σ _ R5 ((((l1.trans l2).trans l3).trans (Le.same s4)).trans l5) h4⟩
end
inductive Ty3 where
  | non | bool | int | str | list | tuple | dict
  deriving DecidableEq
def Ty3.name : Ty3 → String
  | .non => "NoneType" | .bool => "bool" | .int => "int" | .str => "str" | .list => "list" | .tuple => "tuple" | .dict => "dict"
def tyOf (C : Store) : D → Option Ty3
  | .bad => none
  | .non => some .non
  | .bl _ => some .bool
  | .int _ => some .int
  | .str _ => some .str
  | .lst _ _ => some .list
  | .tup _ => some .tuple
  | .dk _ _ _ => some .dict
  | .dt _ _ _ => none
  | .obj _ _ _ => none
  | .exc _ _ _ => none
  | .ptr k => match C[k]? with
    | some (.lst _) => some .list
    | some (.dk _ _) => some .dict
    | some (.dt _ _) => some .dict
    | _ => none
def isKind : Ty3 → Ty3 → Bool
  | .bool, .int => true
  | a, b => a = b
theorem isKind_ok : ∀ a b : Ty3, kitB a.name b.name = some (isKind a b) := by
  intro a b
  cases a <;> cases b <;> decide +kernel
section
variable {K : PySem.W.Frag} {H0 : Hp} {A0 : List Addr} {av : Av} {ad : Ads} {Γ : Slots} {C : Store} {σ : L2.St} {H : Hp}
theorem Rep.ty (R : Rep K H0 A0 av ad Γ C σ H) {v : V} {d : D} {t : Ty3} (x : Den K H0 av ad H v d) (e : tyOf C d = some t) : TyX K H v (.type t.name) := by
  cases x with
  | bad => cases e
  | non => cases e; exact .base .non
  | bl => cases e; exact .base (.bl _)
  | int => cases e; exact .base (.int _)
  | str => cases e; exact .base (.str _)
  | lst r o q =>
    cases e
    rcases r.1 with h | ⟨ob, h⟩
    · exact .base (.lst h)
    · exact .base (.frz h)
  | tup r q => cases e; exact .base (.tup r.1)
  | dk r n o k q =>
    cases e
    rcases r with h | ⟨ob, h⟩
    · exact .base (.dK h)
    · exact .fDict h
  | dt r n o k q => cases e
  | obj _ _ _ _ => cases e
  | exc _ _ _ _ _ => cases e
  | @ptr a k h =>
    simp only [tyOf] at e
    cases q : C[k]? with
    | none => rw [q] at e; cases e
    | some c =>
      rw [q] at e
      have ok := R.cells k a c h q
      cases c with
      | lst _ => cases e; obtain ⟨_, h1, _⟩ := ok; exact .base (.lst h1)
      | dk _ _ => cases e; obtain ⟨_, h1, _⟩ := ok; exact .base (.dK h1)
      | dt _ _ => cases e; obtain ⟨_, h1, _⟩ := ok; exact .base (.dT h1)
      | ins _ _ _ => cases e
      | dead => cases e
end
section
variable {K : PySem.W.Frag} {X : Cx} {e a b : Expr} {te : TE} {E : EV} {pos p p2 p3 p4 : Pos} {x y : Str} {kk : Nat}
def eIsi (ty : Ty3) (E : EV) : EV := fun Γ C Q => E Γ C fun d C1 => ∃ t, tyOf C1 d = some t ∧ Q (.bl (isKind t ty)) C1
theorem ve_isi (ty : Ty3) (hK : X.K = K) (hm : X.mg "isinstance" = none) (hx : X.mg x = none) (h : VE K X e te E) (hv : bootBuiltins x = some (.type ty.name) := by decide +kernel) (hg : Gl X "isinstance" := by rfl) (hgx : Gl X x := by rfl) (hn : x ≠ "__name__" := by decide) (hd : (x == ("__debug__" : Str)) = false := by decide)
    (h1 : starEach [e, .Name x p2] X.env = (false, eval e X.env) :: starEach [.Name x p2] X.env := by rfl) (h2 : starEach [.Name x p2] X.env = (false, eval (.Name x p2) X.env) :: starEach [] X.env := by rfl) (hpl : (backTo pos (starEach [.Name x p2] X.env)).any (·.1) = false := by rfl) :
    VE K X (.Call (.Name "isinstance" p) [e, .Name x p2] [] pos) (tCB (rIsi K) (tCons te (tCons (tC (.ty ty.name)) tNil))) (eIsi ty E) := by
  subst hK
  refine ⟨pe_callB call_isi hg hm (by decide +kernel) (pa_cons h.pe (pa_cons (pe_bltn hgx hx hv rfl hn hd) pa_nil h2) h1) (by decide) (by decide) h1 hpl, fun H0 A0 av ad Γ C σ H Q3 Q R h3 q => ?_⟩
  refine h.sim H0 A0 av ad Γ C σ H _ _ R h3 fun v H1 av1 ad1 d C1 R1 l1 d1 ⟨t, e1, q3⟩ => ?_
  exact ⟨v, .ty ty.name, .type t.name, .type ty.name, isKind t ty, rfl, .ty _, R1.ty d1 e1, kit_ty (isKind_ok t ty), q _ H1 av1 ad1 _ C1 R1 l1 .bl q3⟩
def eIsi2 (ty ty2 : Ty3) (E : EV) : EV := fun Γ C Q => E Γ C fun d C1 => ∃ t, tyOf C1 d = some t ∧ Q (.bl (isKind t ty || isKind t ty2)) C1
theorem ve_isi2 (ty ty2 : Ty3) (hK : X.K = K) (hm : X.mg "isinstance" = none) (hx : X.mg x = none) (hy : X.mg y = none) (h : VE K X e te E) (hv : bootBuiltins x = some (.type ty.name) := by decide +kernel) (hv2 : bootBuiltins y = some (.type ty2.name) := by decide +kernel) (hg : Gl X "isinstance" := by rfl) (hgx : Gl X x := by rfl) (hgy : Gl X y := by rfl)
    (hn : x ≠ "__name__" := by decide) (hd : (x == ("__debug__" : Str)) = false := by decide) (hny : y ≠ "__name__" := by decide) (hdy : (y == ("__debug__" : Str)) = false := by decide)
    (h1 : starEach [e, .Tuple [.Name x p2, .Name y p3] kk p4] X.env = (false, eval e X.env) :: starEach [.Tuple [.Name x p2, .Name y p3] kk p4] X.env := by rfl) (h2 : starEach [.Tuple [.Name x p2, .Name y p3] kk p4] X.env = (false, eval (.Tuple [.Name x p2, .Name y p3] kk p4) X.env) :: starEach [] X.env := by rfl)
    (h3 : starEach [.Name x p2, .Name y p3] X.env = (false, eval (.Name x p2) X.env) :: starEach [.Name y p3] X.env := by rfl) (h4 : starEach [.Name y p3] X.env = (false, eval (.Name y p3) X.env) :: starEach [] X.env := by rfl)
    (hpl : (backTo pos (starEach [.Tuple [.Name x p2, .Name y p3] kk p4] X.env)).any (·.1) = false := by rfl) :
    VE K X (.Call (.Name "isinstance" p) [e, .Tuple [.Name x p2, .Name y p3] kk p4] [] pos) (tCB (rIsiT K) (tCons te (tCons (tTup (tCons (tC (.ty ty.name)) (tCons (tC (.ty ty2.name)) tNil))) tNil))) (eIsi2 ty ty2 E) := by
  subst hK
  refine ⟨pe_callB call_isiT hg hm (by decide +kernel) (pa_cons h.pe (pa_cons (pe_tup (pa_cons (pe_bltn hgx hx hv rfl hn hd) (pa_cons (pe_bltn hgy hy hv2 rfl hny hdy) pa_nil h4) h3)) pa_nil h2) h1) (by decide) (by decide) h1 hpl, fun H0 A0 av ad Γ C σ H Q3 Q R h3 q => ?_⟩
  refine h.sim H0 A0 av ad Γ C σ H _ _ R h3 fun v H1 av1 ad1 d C1 R1 l1 d1 ⟨t, e1, q3⟩ => ?_
  refine ⟨by show 2 ≤ sizeLine; decide, fun tp np => ?_⟩
  have R2 := R1.new (o := .tup [.ty ty.name, .ty ty2.name]) np
  refine ⟨v, tp, [.ty ty.name, .ty ty2.name], .type t.name, [.type ty.name, .type ty2.name], isKind t ty || isKind t ty2, rfl, upd_same, .cons (.ty _) (.cons (.ty _) .nil), R2.ty (d1.le (Le.new np)) e1, ?_, q _ _ av1 ad1 _ C1 R2 (l1.trans (Le.new np)) .bl q3⟩
  have k1 : PySem.W.kitOne X.K (.type t.name) (.type ty.name) = some (isKind t ty) := kit_ty (isKind_ok t ty)
  have k2 : PySem.W.kitOne X.K (.type t.name) (.type ty2.name) = some (isKind t ty2) := kit_ty (isKind_ok t ty2)
  simp only [PySem.W.kitAny, k1, k2]
  cases isKind t ty <;> cases isKind t ty2 <;> rfl
end
end L3
namespace L2
open PySem PySem.Spec PyProof.Rows
section
variable {X : Cx}
end
end L2
namespace L3
open PySem PySem.Spec PyProof.Rows L2
def fCall (P : PV) (L : AV) : FV := fun Γ C Q => L Γ C fun ds C1 => P (views [] C1 ds) [] fun d _ => ∃ xs, d = .lst false xs ∧ flatDs xs = true ∧ Q (.lst xs) C1
section
variable {K : PySem.W.Frag} {X : Cx} {k n : Nat} {f : Addr} {fd : FuncData} {ps : List Str} {P : PV} {x : Str} {p pos : Pos} {e : Expr} {es : List Expr} {tl : TA} {L : AV}
theorem sim_fcall (hl : SimA K tl L) (E : XK) : SimF K (tCall (Sp3 K 0 P) [] E tl) (fCall P L) := fun H0 A0 av ad Γ C σ H Q3 Q R h q => by
  refine hl H0 A0 av ad Γ C σ H _ _ R h fun vs H1 av1 ad1 ds C1 R1 l1 dv h1 => ?_
  rw [List.append_nil]
  refine R1.call (ks := []) (Q3 := fun d C' => C' = C1 ∧ ∃ xs, d = .lst false xs ∧ flatDs xs = true ∧ Q3 (.lst xs) C1) dv List.nodup_nil (fun _ z => nomatch z) h1 (fun d Cc hC ⟨xs, h2, h3, h4⟩ => ?_) (fun v H' C' d R' l' x x2 s ⟨eC, xs, e2, e3, q3⟩ => ?_) E
  · subst h2
    have np := flats_np h3
    refine ⟨by simp only [noold, okW, Bool.not_false, Bool.true_and]; exact np.2, fun c hc => ?_, ?_⟩
    · rw [List.length_nil, List.length_eq_zero_iff] at hC
      rw [hC] at hc
      simp at hc
    · rw [mapW_np.1 (.lst false xs) (by simpa only [noptr] using np.1)]
      exact ⟨rfl, xs, rfl, h3, h4⟩
  · subst e2 eC
    cases x2 with
    | @lst a vs' o ds' r2 o2 y2 =>
      obtain ⟨n1, hp⟩ := o2 rfl
      cases x with
      | @lst a vs'' o ds' r o y =>
        have e : vs'' = vs' := by
          have h1 := (o rfl).2
          rw [hp] at h1
          cases h1
          rfl
        subst e
        refine q a H' av1 ad1 (.lst xs) _ (R1.grow (s rfl) n1 (by rw [hp]; simp) fun ys z => by rw [hp] at z; cases z) (fun b hb => R1.sub b hb) (fun z => R1.dom _ z n1) (l1.there a n1) (l1.trans ⟨?_, Pre.refl, l'.there, fun _ z => .inl z, fun _ z => .inl z, fun a o h _ => s rfl a o h⟩) ⟨vs'', hp, y.ban hp e3⟩ q3
        exact fun b o h n => ⟨s rfl b o h, fun z => z.elim n fun e => ne_of_none h n1 e⟩
theorem vf_call (F : FnOkG X.prog X.w X.K X.mg X.base CX0 k f fd ps (Sp3 K 0 P)) (hr : RoomG k X.A) (hm : X.mg x = some (.ref f)) (hk : PySem.W.keepIn X.K (.ref f) = true) (hb : Binds X.K fd ps []) (ha : VA K X (e :: es) tl L) (hg : Gl X x := by rfl)
    (hdb : (x == ("__debug__" : Str)) = false := by decide) (he : starEach (e :: es) X.env = (false, eval e X.env) :: starEach es X.env := by rfl) (hpl : (backTo pos (starEach es X.env)).any (·.1) = false := by rfl) :
    VF K X (.Call (.Name x p) (e :: es) [] pos) (tCall (Sp3 K 0 P) [] E0 tl) (fCall P L) := ⟨pe_callG F hr hg hm hk hb pass0 ha.pa hdb he hpl, sim_fcall ha.sim E0⟩
end
section
variable {K : PySem.W.Frag} {X : Cx} {e a b c o : Expr} {es : List Expr} {t ta tb tc te to : TE} {E Ea Eb Ec Eo : EV} {F : FV} {B B' : BV} {tl : TA} {L : AV} {pos p apos cpos : Pos} {x name : Str} {id T : String}
end
end L3
namespace L3
open PySem PySem.Spec PyProof.Rows L2
section
variable {Γ : Slots} {C : Store} {Q : D → Store → Prop} {Qb : Bool → Store → Prop} {Ql : List D → Store → Prop} {Qc : Cell → Store → Prop} {Qs : Slots → Store → Prop} {Qi : List D → List Nat → Store → Prop} {Qo : Option Int → Store → Prop} {q : D → Prop} {qc : Cell → Prop} {E Ea Eb Ec : EV} {F : FV} {B B' : BV} {L : AV} {T U : SV} {De : En} {G : GV} {Gs : GVs} {I : IV} {Lo Hi : OV} {f f' : O2} {P : PV} {d x y : D} {ds : List D} {i j n : Nat} {neg b : Bool} {c : Cell}
@[simp] theorem u_eFrz : eFrz F Γ C Q = F Γ C fun c C' => Q c.frz C' := rfl
@[simp] theorem u_eCell : eCell F Γ C Q = F Γ C fun c C' => Q (.ptr C'.length) (C' ++ [c]) := rfl
@[simp] theorem u_frz {xs : List D} : (Cell.lst xs).frz = .lst false xs := rfl
@[simp] theorem u_eVar : eVar i Γ C Q = ∃ d, Γ[i]? = some (some d) ∧ Q d C := rfl
@[simp] theorem u_eC : eC d Γ C Q = Q d C := rfl
@[simp] theorem u_eBin : eBin f Ea Eb Γ C Q = Ea Γ C fun x C1 => Eb Γ C1 fun y C2 => f C2 x y fun z => Q z C2 := rfl
@[simp] theorem u_fBin {f : N2} : fBin f Ea Eb Γ C Qc = Ea Γ C fun x C1 => Eb Γ C1 fun y C2 => f C2 x y fun z => Qc z C2 := rfl
@[simp] theorem u_eUn {f : O1} : eUn f Ea Γ C Q = Ea Γ C fun x C1 => f C1 x fun z => Q z C1 := rfl
@[simp] theorem u_oI {g : Int → Int → D} {k l : Int} : oI g C (.int k) (.int l) q = q (g k l) := by simp [oI]
@[simp] theorem u_oIc {cc : Int → Int → Prop} {g : Int → Int → D} {k l : Int} : oIc cc g C (.int k) (.int l) q = (cc k l ∧ q (g k l)) := by simp [oIc]
@[simp] theorem u_oNeg {k : Int} : oNeg C (.int k) q = q (.int (-k)) := by simp [oNeg]
@[simp] theorem u_eqI {k l : Int} : oEq neg C (.int k) (.int l) q = q (.bl (neg != decide (k = l))) := rfl
@[simp] theorem u_eqS {k l : Str} : oEq neg C (.str k) (.str l) q = q (.bl (neg != decide (k = l))) := rfl
@[simp] theorem u_eqB {k l : Bool} : oEq neg C (.bl k) (.bl l) q = q (.bl (neg != decide (k = l))) := rfl
@[simp] theorem u_eqL {o o' : Bool} {xs ys : List D} : oEq neg C (.lst o xs) (.lst o' ys) q = ∃ p r, pyD C (.lst o xs) = some p ∧ pyD C (.lst o' ys) = some r ∧ SeqAt.shaped p = true ∧ SeqAt.shaped r = true ∧ q (.bl (neg != PyData.eqv p r)) := rfl
@[simp] theorem u_isN : oIsN neg C x .non q = ∃ b, isNon x = some b ∧ q (.bl (neg != b)) := by simp [oIsN]
@[simp] theorem u_isNon0 : isNon .non = some true := rfl
@[simp] theorem u_isNonI {k : Int} : isNon (.int k) = some false := rfl
@[simp] theorem u_isNonB : isNon (.bl b) = some false := rfl
@[simp] theorem u_isNonS {s : Str} : isNon (.str s) = some false := rfl
@[simp] theorem u_isNonL {o : Bool} {xs : List D} : isNon (.lst o xs) = some false := rfl
@[simp] theorem u_isNonT {xs : List D} : isNon (.tup xs) = some false := rfl
@[simp] theorem u_isNonP : isNon (.ptr i) = some false := rfl
@[simp] theorem u_bB : bB E Γ C Qb = E Γ C fun d C' => ∃ k, d = .bl k ∧ Qb k C' := rfl
@[simp] theorem u_bAnd : bAnd B B' Γ C Qb = B Γ C fun k C' => if k = true then B' Γ C' Qb else Qb false C' := rfl
@[simp] theorem u_bOr : bOr B B' Γ C Qb = B Γ C fun k C' => if k = true then Qb true C' else B' Γ C' Qb := rfl
@[simp] theorem u_bNot : bNot B Γ C Qb = B Γ C fun k C' => Qb (!k) C' := rfl
@[simp] theorem u_bYes : bYes Γ C Qb = Qb true C := rfl
@[simp] theorem u_eAnd : eAnd Ea Eb Γ C Q = Ea Γ C fun d C' => ∃ k, d = .bl k ∧ if k = true then Eb Γ C' Q else Q (.bl false) C' := rfl
@[simp] theorem u_eNot : eNot Ea Γ C Q = Ea Γ C fun d C' => ∃ k, d = .bl k ∧ Q (.bl (!k)) C' := rfl
@[simp] theorem u_eIf : eIf B Ea Eb Γ C Q = B Γ C fun k C' => if k = true then Ea Γ C' Q else Eb Γ C' Q := rfl
@[simp] theorem u_eChain : eChain f f' Ea Eb Ec Γ C Q = Ea Γ C fun x C1 => Eb Γ C1 fun y C2 => f C2 x y fun z => ∃ k, z = .bl k ∧ if k = true then Ec Γ C2 fun w C3 => f' C3 y w fun u => Q u C3 else Q (.bl false) C2 := rfl
@[simp] theorem u_aNil : aNil Γ C Ql = Ql [] C := rfl
@[simp] theorem u_aCons : aCons E L Γ C Ql = E Γ C fun d C1 => L Γ C1 fun ds C2 => Ql (d :: ds) C2 := rfl
@[simp] theorem u_eTup : eTup L Γ C Q = L Γ C fun ds C1 => ds.length ≤ sizeLine ∧ Q (.tup ds) C1 := rfl
@[simp] theorem u_fLst : fLst L Γ C Qc = L Γ C fun ds C1 => ds.length ≤ sizeLine ∧ Qc (.lst ds) C1 := rfl
@[simp] theorem u_eCB {f : ON} : eCB f L Γ C Q = L Γ C fun ds C1 => f C1 ds fun z => Q z C1 := rfl
@[simp] theorem u_fCB {f : NN} : fCB f L Γ C Qc = L Γ C fun ds C1 => f C1 ds fun z => Qc z C1 := rfl
@[simp] theorem u_oNone : oNone Γ C Qo = Qo none C := rfl
@[simp] theorem u_oSome : oSome E Γ C Qo = E Γ C fun d C1 => ∃ i, d = .int i ∧ Qo (some i) C1 := rfl
@[simp] theorem u_fSlL : fSlL Ea Lo Hi Γ C Qc = Ea Γ C fun x C1 => Lo Γ C1 fun l C2 => Hi Γ C2 fun u C3 => ∃ xs, lstOf C3 x = some xs ∧ Qc (.lst (cutD xs l u)) C3 := rfl
@[simp] theorem u_sNext : sNext De Γ C = De.nx Γ C := rfl
@[simp] theorem u_sSeq : sSeq T U De Γ C = T { De with nx := U De } Γ C := rfl
@[simp] theorem u_sNever : sNever De Γ C = False := rfl
@[simp] theorem u_sDrop : sDrop E De Γ C = E Γ C fun _ C' => De.nx Γ C' := rfl
@[simp] theorem u_sRet : sRet E De Γ C = E Γ C De.rt := rfl
@[simp] theorem u_sIf : sIf B T U De Γ C = B Γ C fun k C' => if k = true then T De Γ C' else U De Γ C' := rfl
@[simp] theorem u_gvName : gvName i d Γ C Qs = Qs (Γ.set i (some d)) C := rfl
@[simp] theorem u_gvNil : gvNil ds Γ C Qs = (ds = [] ∧ Qs Γ C) := rfl
@[simp] theorem u_gvCons : gvCons G Gs ds Γ C Qs = ∃ d r, ds = d :: r ∧ G d Γ C fun Γ' C' => Gs r Γ' C' Qs := rfl
@[simp] theorem u_gvTup : gvTup n Gs d Γ C Qs = ∃ ds, d = .tup ds ∧ ds.length = n ∧ Gs ds Γ C Qs := rfl
@[simp] theorem u_sAsg : sAsg E G De Γ C = E Γ C fun d C1 => G d Γ C1 De.nx := rfl
@[simp] theorem u_sPar {i j : Nat} : sPar i j L De Γ C = L Γ C fun ds C1 => ∃ d d', ds = [d, d'] ∧ De.nx ((Γ.set i (some d)).set j (some d')) C1 := rfl
@[simp] theorem u_eMl {g : OM} : eMl g E L Γ C Q = E Γ C fun x C1 => ∃ xs, lstOf C1 x = some xs ∧ L Γ C1 fun ds C2 => g C2 x ds Q := rfl
@[simp] theorem u_eM1 {g : OM} : eM1 g Ea Eb Γ C Q = Ea Γ C fun x C1 => (∃ s, x = .str s) ∧ Eb Γ C1 fun d C2 => g C2 x [d] Q := rfl
@[simp] theorem u_eCall : eCall P L Γ C Q = L Γ C fun ds C1 => P (views [] C1 ds) [] fun d _ => (noold d && noptr d) = true ∧ Q d C1 := rfl
@[simp] theorem u_fCall : fCall P L Γ C Qc = L Γ C fun ds C1 => P (views [] C1 ds) [] fun d _ => ∃ xs, d = .lst false xs ∧ flatDs xs = true ∧ Qc (.lst xs) C1 := rfl
@[simp] theorem u_eIsi {ty : Ty3} : eIsi ty E Γ C Q = E Γ C fun d C1 => ∃ t, tyOf C1 d = some t ∧ Q (.bl (isKind t ty)) C1 := rfl
@[simp] theorem u_eIsi2 {ty ty2 : Ty3} : eIsi2 ty ty2 E Γ C Q = E Γ C fun d C1 => ∃ t, tyOf C1 d = some t ∧ Q (.bl (isKind t ty || isKind t ty2)) C1 := rfl
@[simp] theorem u_rt {nn : Nat} {Q3 : D → Store → Prop} : (enF nn Q3).rt = fun d C => Q3 (fin nn C d) (finS nn C) := rfl
@[simp] theorem u_nx {nn : Nat} {Q3 : D → Store → Prop} : (enF nn Q3).nx = fun _ C => Q3 .non (finS nn C) := rfl
end
theorem mapWs_ints {h : Bool → Bool} {g : Nat → D} : ∀ l : List Int, mapWs h g (l.map .int) = l.map .int
  | [] => rfl
  | _ :: l => by simp only [List.map_cons, mapWs, mapW, mapWs_ints l]
theorem okWs_ints {h : Bool → Bool} : ∀ l : List Int, okWs h (l.map .int) = true
  | [] => rfl
  | _ :: l => by simp only [List.map_cons, okWs, okW, okWs_ints l, Bool.and_true]
theorem noptrs_ints : ∀ l : List Int, noptrs (l.map .int) = true
  | [] => rfl
  | _ :: l => by simp only [List.map_cons, noptrs, noptr, noptrs_ints l, Bool.and_true]
theorem lcW_run {G : GV} {B : BV} {E : EV} {Γ : Slots} {ok : Store → Prop} {Q : Cell → Store → Prop} (I : List D → List D → Store → Prop)
    (step : ∀ d ds acc C, I (d :: ds) acc C → ∀ R : List D → Store → Prop, (∀ acc' C', I ds acc' C' → R acc' C') →
      G d Γ C fun Γ1 C1 => B Γ1 C1 fun k C2 => if k = true then E Γ1 C2 fun y C3 => acc.length < sizeLine ∧ ok C3 ∧ R (acc ++ [y]) C3 else ok C2 ∧ R acc C2)
    (stop : ∀ acc C, I [] acc C → Q (.lst acc) C) : ∀ ds acc C, I ds acc C → lcW G B E Γ ok Q ds acc C
  | [], acc, C, h => stop acc C h
  | d :: ds, acc, C, h => step d ds acc C h _ fun acc' C' h' => lcW_run I step stop ds acc' C' h'
theorem forW_run {G : GV} {T : SV} {De : En} (I : List D → Slots → Store → Prop)
    (step : ∀ d ds Γ C, I (d :: ds) Γ C → ∀ R : Slots → Store → Prop, (∀ Γ' C', I ds Γ' C' → R Γ' C') → G d Γ C fun Γ1 C1 => T { De with nx := R, ct := R, bk := De.nx } Γ1 C1)
    (stop : ∀ Γ C, I [] Γ C → De.nx Γ C) : ∀ ds Γ C, I ds Γ C → forW G T De ds Γ C
  | [], Γ, C, h => stop Γ C h
  | d :: ds, Γ, C, h => step d ds Γ C h _ fun Γ' C' h' => forW_run I step stop ds Γ' C' h'
theorem lc_map {G : GV} {E : EV} {Γ : Slots} {ok : Store → Prop} {Q : Cell → Store → Prop} {C : Store} (f : D → D) (ds : List D) (hok : ok C) (hl : ds.length ≤ sizeLine)
    (h : ∀ d, d ∈ ds → ∀ R : D → Store → Prop, R (f d) C → G d Γ C fun Γ1 C1 => E Γ1 C1 R) (q : Q (.lst (ds.map f)) C) : lcW G bYes E Γ ok Q ds [] C := by
  refine lcW_run (fun r acc C' => C' = C ∧ ∃ p, ds = p ++ r ∧ acc = p.map f) (fun d r acc C' ⟨e, p, e1, e2⟩ R hR => ?_) (fun acc C' ⟨e, p, e1, e2⟩ => ?_) ds [] C ⟨rfl, [], rfl, rfl⟩
  · subst e e2
    refine h d (by rw [e1]; simp) _ ⟨?_, hok, hR _ _ ⟨rfl, p ++ [d], by rw [e1]; simp, by simp⟩⟩
    rw [e1] at hl
    simp at hl ⊢
    omega
  · subst e e2
    rw [List.append_nil] at e1
    subst e1
    exact q
theorem lc_filter {G : GV} {B : BV} {E : EV} {Γ : Slots} {ok : Store → Prop} {Q : Cell → Store → Prop} {C : Store} (t : D → Bool) (f : D → D) (ds : List D) (hok : ok C) (hl : ds.length ≤ sizeLine)
    (h : ∀ d, d ∈ ds → ∀ R : D → Store → Prop, ∀ R' : Store → Prop, (t d = true → R (f d) C) → (t d = false → R' C) → G d Γ C fun Γ1 C1 => B Γ1 C1 fun k C2 => if k = true then E Γ1 C2 R else R' C2) (q : Q (.lst ((ds.filter t).map f)) C) : lcW G B E Γ ok Q ds [] C := by
  refine lcW_run (fun r acc C' => C' = C ∧ ∃ p, ds = p ++ r ∧ acc = (p.filter t).map f) (fun d r acc C' ⟨e, p, e1, e2⟩ R hR => ?_) (fun acc C' ⟨e, p, e1, e2⟩ => ?_) ds [] C ⟨rfl, [], rfl, rfl⟩
  · subst e e2
    refine h d (by rw [e1]; simp) _ _ (fun ht => ⟨?_, hok, hR _ _ ⟨rfl, p ++ [d], by rw [e1]; simp, by simp [List.filter_append, ht]⟩⟩) (fun ht => ⟨hok, hR _ _ ⟨rfl, p ++ [d], by rw [e1]; simp, by simp [List.filter_append, ht]⟩⟩)
    have := List.length_filter_le t p
    rw [e1] at hl
    simp at hl ⊢
    omega
  · subst e e2
    rw [List.append_nil] at e1
    subst e1
    exact q
end L3
namespace L3
open PySem PySem.Spec PyProof.Rows L2
section
variable {K : PySem.W.Frag} {X : Cx} {e a b c o : Expr} {es : List Expr} {t ta tb tc te to : TE} {E Ea Eb Ec Eo : EV} {F : FV} {pos p p2 p3 p4 : Pos}
def oIxA : O2 := fun C x y Q => match x with
  | .tup xs => ∃ i d, y = .int i ∧ atI xs i = some d ∧ Q d
  | _ => oIxL C x y Q
@[simp] theorem u_ixAT {C : Store} {xs : List D} {y : D} {q : D → Prop} : oIxA C (.tup xs) y q = ∃ i d, y = .int i ∧ atI xs i = some d ∧ q d := rfl
@[simp] theorem u_ixAL {C : Store} {b : Bool} {xs : List D} {y : D} {q : D → Prop} : oIxA C (.lst b xs) y q = oIxL C (.lst b xs) y q := rfl
theorem sf_rep : SimRF K rRep nRep := by
  intro H0 A0 av ad Γ C σ H x y dx dy Q3 Q R d1 d2 ⟨xs, i, e1, e2, h1, h2, hl, ho, q3⟩ q
  subst e2
  have hx : ∃ a vs, x = .ref a ∧ H a = some (.lst vs) ∧ DenAll K H0 av ad H vs xs := by
    cases d1 with
    | lst r o y =>
      have e : _ = xs := Option.some.inj e1
      subst e
      exact ⟨_, _, rfl, (o ho).2, y⟩
    | @ptr a k h =>
      obtain ⟨v, vs, e3, e4, e5⟩ := R.lst (.ptr h) e1
      simp only [lstOf] at e1
      cases q2 : C[k]? with
      | none => rw [q2] at e1; cases e1
      | some c =>
        rw [q2] at e1
        cases c with
        | lst ys =>
          cases e1
          obtain ⟨vs, e6, r6⟩ := R.cells k a _ h q2
          exact ⟨a, vs, rfl, e6, r6⟩
        | _ => cases e1
    | _ => cases e1
  obtain ⟨a, vs, rfl, hH, r⟩ := hx
  exact ⟨a, i, vs, rfl, den_int d2, hH, h1, h2, by rw [r.length]; exact hl, fun p np => q H p _ (.lst _) (fun _ _ h => h) np noTup_lst (den_rep r _) q3⟩
theorem op_repR : OpR X (binaryOp .Mult) rRep := op_rep
def mRemove : OM := fun C x ds Q => ∃ (k : Nat) (ns : List Int) (z : Int) (j : Nat), x = .ptr k ∧ ds = [.int z] ∧ C[k]? = some (.lst (ns.map .int)) ∧ ns[j]? = some z ∧ (∀ m : Nat, m < j → ns[m]? ≠ some z) ∧ Q .non (C.set k (.lst ((ns.eraseIdx j).map .int)))
theorem sm_remove : SimM K rRemI mRemove := by
  intro H0 A0 av ad Γ C σ H x vs dx ds Q3 Q R d1 d2 ⟨k, ns, z, j, e1, e2, e3, h1, h2, q3⟩ q
  subst e1 e2
  obtain ⟨v, rfl, r⟩ := den1 d2
  obtain ⟨p, us, rfl, hp, hu, ru⟩ := R.lstCell d1 e3
  rw [den_ints ru] at hu
  obtain ⟨R2, l2⟩ := R.lstWrite hp e3 (us := (ns.eraseIdx j).map V.int) (ints_den (is := ns.eraseIdx j))
  exact ⟨p, ns, z, j, rfl, by rw [den_int r], hu, h1, h2, q _ _ _ _ R2 l2 .non q3⟩
def mCount : OM := fun C x ds Q => ∃ (ns : List Int) (z : Int), lstOf C x = some (ns.map .int) ∧ ds = [.int z] ∧ Q (.int (ns.count z : Nat)) C
theorem sm_count : SimM K (rCntI K) mCount := by
  intro H0 A0 av ad Γ C σ H x vs dx ds Q3 Q R d1 d2 ⟨ns, z, e1, e2, q3⟩ q
  subst e2
  obtain ⟨v, rfl, r⟩ := den1 d2
  obtain ⟨p, us, rfl, hp, ru⟩ := R.lst d1 e1
  rw [den_ints ru] at hp
  exact ⟨p, ns, z, rfl, by rw [den_int r], .inl hp, q _ _ _ _ R Le.refl .int q3⟩
theorem mt_countA (hK : X.K = K) : MtR X "list.count" (rCntI K) := by subst hK; exact mt_lcount
def mIndex : OM := fun C x ds Q => ∃ (ns : List Int) (z : Int) (j : Nat), lstOf C x = some (ns.map .int) ∧ ds = [.int z] ∧ ns[j]? = some z ∧ (∀ m : Nat, m < j → ns[m]? ≠ some z) ∧ Q (.int (j : Nat)) C
theorem sm_index : SimM K (rIndex K) mIndex := by
  intro H0 A0 av ad Γ C σ H x vs dx ds Q3 Q R d1 d2 ⟨ns, z, j, e1, e2, h1, h2, q3⟩ q
  subst e2
  obtain ⟨v, rfl, r⟩ := den1 d2
  obtain ⟨p, us, rfl, hp, ru⟩ := R.lst d1 e1
  rw [den_ints ru] at hp
  refine ⟨p, ns.map V.int, .int z, j, .int z, rfl, by rw [den_int r], .inl hp, rfl, ?_, by rw [List.getElem?_map, h1]; rfl, ?_, fun m z' hm e => ?_, q _ _ _ _ R Le.refl .int q3⟩
  · rw [List.all_map]
    exact List.all_eq_true.mpr fun _ _ => rfl
  · simp [eqV]
  · rw [List.getElem?_map] at e
    cases q2 : ns[m]? with
    | none => rw [q2] at e; cases e
    | some w =>
      rw [q2] at e
      cases e
      have : w ≠ z := fun h => h2 m hm (by rw [q2, h])
      simp [eqV, this]
theorem mt_indexA (hK : X.K = K) : MtR X "list.index" (rIndex K) := by subst hK; exact mt_index
def fRev (Ea : EV) : FV := fun Γ C Q => Ea Γ C fun x C1 => ∃ xs, lstOf C1 x = some xs ∧ Q (.lst xs.reverse) C1
theorem vf_rev {k : Nat} (hK : X.K = K) (h : VE K X a ta Ea) : VF K X (.Subscript a (.Slice none none (some (.UnaryOp .USub (.Constant (.int 1) k p) p2)) p3) pos) (tRevL K ta) (fRev Ea) := by
  subst hK
  refine ⟨pe_revL h.pe, fun H0 A0 av ad Γ C σ H Q3 Q R h3 q => ?_⟩
  refine h.sim H0 A0 av ad Γ C σ H _ _ R h3 fun v H1 av1 ad1 d C1 R1 l1 d1 ⟨xs, e, q3⟩ => ?_
  obtain ⟨a, vs, rfl, hs, rs⟩ := R1.lst d1 e
  exact ⟨a, vs, rfl, .inl hs, fun p np => fin_new R1 l1 (fun _ _ h => h) np noTup_lst (c := .lst _) rs.reverse q3 q⟩
@[simp] theorem u_fRev {Γ : Slots} {C : Store} {Qc : Cell → Store → Prop} : fRev Ea Γ C Qc = Ea Γ C fun x C1 => ∃ xs, lstOf C1 x = some xs ∧ Qc (.lst xs.reverse) C1 := rfl
end
section
variable {K : PySem.W.Frag} {X : Cx} {k n : Nat} {f : Addr} {fd : FuncData} {ps ks : List Str} {P : PV} {x : Str} {st : Stmt} {p pos kpos : Pos} {e : Expr} {es : List Expr} {kws : List Keyword} {te : TE} {tl tk : TA} {E : EV} {L Lk : AV} {nm : Option Str}
theorem DenAll.app {H0 : Hp} {av : Av} {ad : Ads} {H : Hp} {vs us : List V} {ds es : List D} (a : DenAll K H0 av ad H vs ds) (b : DenAll K H0 av ad H us es) : DenAll K H0 av ad H (vs ++ us) (ds ++ es) := a.append b
end
section
variable {K : PySem.W.Frag} {X : Cx} {e o : Expr} {te to : TE} {E Eo : EV} {apos pos : Pos}
end
end L3
namespace L3
open PySem PySem.Spec PyProof.Rows L2
section
variable {K : PySem.W.Frag} {X : Cx} {e : Expr} {te : TE} {E : EV} {p p2 pos pos2 : Pos}
def fListRange (E : EV) : FV := fun Γ C Q => E Γ C fun d C1 => ∃ n : Int, d = .int n ∧ 0 ≤ n ∧ n ≤ 2 ^ 24 ∧ Q (.lst (rgI 0 n.toNat)) C1
theorem den_rg {H0 : Hp} {av : Av} {ad : Ads} {H : Hp} {n : Int} : DenAll K H0 av ad H (rgV 0 n) (rgI 0 n.toNat) := by
  unfold rgV rgI
  rw [show (n - 0).toNat = n.toNat by simp]
  generalize List.range n.toNat = l
  induction l with
  | nil => exact .nil
  | cons i l ih => exact .cons .int ih
theorem vf_listRange (hc : X.calm = true) (ml : X.mg "list" = none) (mr : X.mg "range" = none) (h : VE K X e te E) (hg : Gl X "list" := by rfl) (hg2 : Gl X "range" := by rfl) (na : starEach [e] X.env = (false, eval e X.env) :: starEach [] X.env := by rfl)
    (nb : starEach [.Call (.Name "range" p2) [e] [] pos2] X.env = (false, eval (.Call (.Name "range" p2) [e] [] pos2) X.env) :: starEach [] X.env := by rfl) :
    VF K X (.Call (.Name "list" p) [.Call (.Name "range" p2) [e] [] pos2] [] pos) (tLstRg (tRg1 te)) (fListRange E) := by
  refine ⟨pe_listRg hc hg ml (prg_1 hg2 mr h.pe na) nb, fun H0 A0 av ad Γ C σ H Q3 Q R h3 q => ?_⟩
  refine h.sim H0 A0 av ad Γ C σ H _ _ R h3 fun v H1 av1 ad1 d C1 R1 l1 d1 ⟨n, e1, h0, h1, q3⟩ => ?_
  subst e1
  exact ⟨n, den_int d1, ⟨by omega, by omega, by omega, by omega, by omega⟩, fun r nr => fin_new R1 l1 (fun _ _ h => h) nr noTup_lst (c := .lst _) den_rg q3 q⟩
@[simp] theorem u_fListRange {Γ : Slots} {C : Store} {Qc : Cell → Store → Prop} : fListRange E Γ C Qc = E Γ C fun d C1 => ∃ n : Int, d = .int n ∧ 0 ≤ n ∧ n ≤ 2 ^ 24 ∧ Qc (.lst (rgI 0 n.toNat)) C1 := rfl
def pD (z : Int × Int) : D := .tup [.int z.1, .int z.2]
def kOf (H : Hp) : V → Int × Int
  | .ref t => match H t with
    | some (.tup [.int i, .int j]) => (i, j)
    | _ => (0, 0)
  | _ => (0, 0)
theorem den_pair {H0 : Hp} {av : Av} {ad : Ads} {H : Hp} {v : V} {z : Int × Int} (x : Den K H0 av ad H v (pD z)) : ∃ t, v = .ref t ∧ H t = some (.tup [.int z.1, .int z.2]) ∧ kOf H v = z := by
  cases x with
  | @tup a vs ds r y =>
    cases y with
    | cons y1 y2 =>
      cases y2 with
      | cons y3 y4 =>
        cases y4
        have e1 := den_int y1
        have e2 := den_int y3
        subst e1 e2
        have hr := r.1
        exact ⟨a, rfl, hr, by simp only [kOf, hr]⟩
theorem den_pairs {H0 : Hp} {av : Av} {ad : Ads} {H : Hp} : ∀ {vs : List V} {ps : List (Int × Int)}, DenAll K H0 av ad H vs (ps.map pD) → vs.map (kOf H) = ps ∧ ∀ v, v ∈ vs → Den K H0 av ad H v (pD (kOf H v))
  | [], [], _ => ⟨rfl, fun _ h => by simp at h⟩
  | v :: vs, z :: ps, .cons a b => by
    obtain ⟨h1, h2⟩ := den_pairs (vs := vs) (ps := ps) b
    obtain ⟨t, e1, e2, e3⟩ := den_pair a
    refine ⟨by rw [List.map_cons, h1, e3], fun w hw => ?_⟩
    rcases List.mem_cons.mp hw with rfl | hw
    · rw [e3]; exact a
    · exact h2 w hw
theorem denAll_of {H0 : Hp} {av : Av} {ad : Ads} {H : Hp} : ∀ ys : List V, (∀ v, v ∈ ys → Den K H0 av ad H v (pD (kOf H v))) → DenAll K H0 av ad H ys ((ys.map (kOf H)).map pD)
  | [], _ => .nil
  | y :: ys, h => .cons (h y (List.mem_cons_self ..)) (denAll_of ys fun v hv => h v (List.mem_cons_of_mem _ hv))
def nSortP : NN := fun C ds Q => ∃ (d : D) (ps : List (Int × Int)), ds = [d] ∧ lstOf C d = some (ps.map pD) ∧ ∀ qs : List (Int × Int), qs.Perm ps → qs.Pairwise (fun x y => SrtO.lexB y x = false) → Q (.lst (qs.map pD))
theorem sf_sortP : SimCF K (rSortedPO K) nSortP := by
  intro H0 A0 av ad Γ C σ H vs ds Q3 Q R d1 ⟨d, ps, e1, e2, q3⟩ q
  subst e1
  obtain ⟨v, rfl, r⟩ := den1 d1
  obtain ⟨a, us, rfl, h1, r1⟩ := R.lst r e2
  obtain ⟨m1, m2⟩ := den_pairs r1
  refine ⟨a, us, kOf H, rfl, .inl h1, fun x hx => ?_, fun ys l hs st nl => ?_⟩
  · obtain ⟨t, e, ht, _⟩ := den_pair (m2 x hx)
    exact ⟨t, e, ht⟩
  · refine q H l _ (.lst ((ys.map (kOf H)).map pD)) (fun _ _ h => h) nl noTup_lst (denAll_of ys fun v hv => m2 v (st.perm.mem_iff.mp hv)) (q3 _ ?_ ?_)
    · rw [← m1]
      exact st.perm.map _
    · exact List.pairwise_map.mpr hs
theorem call_sortP (hK : X.K = K) : CallR X (.builtin "sorted") (rSortedPO K) := by subst hK; exact cr_sortedPO
end
section
variable {K : PySem.W.Frag} {X : Cx} {elts : List Expr} {kk : Nat} {tpos p pos : Pos} {a b : Expr} {tl : TA} {L : AV}
def iZipS (L : AV) : IV := fun Γ C Q => L Γ C fun ds C1 => ∃ d d' xs ys, ds = [d, d'] ∧ ((lstOf C1 d = some xs ∧ lstOf C1 d' = some ys) ∨ (d = .tup xs ∧ d' = .tup ys)) ∧ (noptrs xs && noptrs ys) = true ∧ Q (zipD xs ys) (srcOf d ++ srcOf d') C1
theorem vi_zipS (hK : X.K = K) (hm : X.mg "zip" = none) (h : VA K X [a, b] tl L) (hg : Gl X "zip" := by rfl) (hs : starEach [a, b] X.env = (false, eval a X.env) :: starEach [b] X.env := by rfl) (hpl : (backTo pos (starEach [b] X.env)).any (·.1) = false := by rfl) :
    VI K X (.Tuple elts kk tpos) (.Call (.Name "zip" p) [a, b] [] pos) (RZ.iZipA K tl) (iZipS L) := by
  have base := vi_zip (elts := elts) (kk := kk) (tpos := tpos) (p := p) (pos := pos) hK hm h hg hs hpl
  subst hK
  refine ⟨RZ.pi_zipA hg hm h.pa hs hpl, fun H0 A0 av ad Γ C σ H Q3 Rr R h3 q => ?_⟩
  refine h.sim H0 A0 av ad Γ C σ H _ _ R h3 fun vs H' av' ad' ds C' R' l' dv ⟨d, d', xs, ys, e1, e, hnp, q3⟩ => ?_
  subst e1
  simp only [Bool.and_eq_true] at hnp
  obtain ⟨v, v', rfl, r, r'⟩ := den2 dv
  rcases e with ⟨e, e'⟩ | ⟨rfl, rfl⟩
  · obtain ⟨a, rfl, ⟨vs, hs⟩, later⟩ := lst_later (ds := zipD xs ys) (src := srcOf d ++ srcOf d') R' r e (fun _ z => List.mem_append_left _ z) (fun _ => hnp.1)
    obtain ⟨b, rfl, ⟨us, hs2⟩, later2⟩ := lst_later (ds := zipD xs ys) (src := srcOf d ++ srcOf d') R' r' e' (fun _ z => List.mem_append_right _ z) (fun _ => hnp.2)
    refine ⟨a, b, vs, us, rfl, .inl ⟨hs, hs2, q _ H' av' ad' C' _ _ R' l' (fun av1 ad1 Γ1 C1 σ1 H1 i R1 k => ?_) q3⟩⟩
    obtain ⟨vs1, s1, r1⟩ := later av1 ad1 Γ1 C1 σ1 H1 R1 k
    obtain ⟨us1, s2, r2⟩ := later2 av1 ad1 Γ1 C1 σ1 H1 R1 k
    have l1 := r1.length
    have l2 := r2.length
    rw [zipD_len]
    refine ⟨fun hi => ⟨⟨vs1, us1, vs1[i]'(by omega), us1[i]'(by omega), s1, s2, by simp, by simp⟩, fun y H2 ⟨T, x, z, e1, e2, e3, e4, e5⟩ => ?_⟩, fun hi => ⟨vs1, us1, s1, s2, by omega⟩⟩
    subst e1 e3
    obtain ⟨dx, e6, rx⟩ := r1.get' (e4 vs1 s1)
    obtain ⟨dz, e7, rz⟩ := r2.get' (e5 us1 s2)
    exact ⟨same_upd e2, _, zipD_get xs ys i e6 e7, .tup ⟨upd_same, R1.nav e2⟩ (.cons (rx.le (Le.new e2)) (.cons (rz.le (Le.new e2)) .nil))⟩
  · cases r with
    | @tup a vs _ t1 rs =>
    cases r' with
    | @tup b us _ t2 rs' =>
    refine ⟨a, b, vs, us, rfl, .inr ⟨t1.sq, t2.sq, q (RZ.ItzT X.K a b) H' av' ad' C' _ _ R' l' (fun av1 ad1 Γ1 C1 σ1 H1 i R1 k => ?_) q3⟩⟩
    have s1 : SqT X.K H1 a vs := (k.1.tup t1).sq
    have s2 : SqT X.K H1 b us := (k.1.tup t2).sq
    have r1 := rs.np (ad' := ad1) k.1 hnp.1
    have r2 := rs'.np (ad' := ad1) k.1 hnp.2
    have l1 := r1.length
    have l2 := r2.length
    rw [zipD_len]
    refine ⟨fun hi => ⟨⟨vs, us, vs[i]'(by omega), us[i]'(by omega), s1, s2, by simp, by simp⟩, fun y H2 ⟨T, x, z, e1, e2, e3, e4, e5⟩ => ?_⟩, fun hi => ⟨vs, us, s1, s2, by omega⟩⟩
    subst e1 e3
    obtain ⟨dx, e6, rx⟩ := r1.get' (e4 vs s1)
    obtain ⟨dz, e7, rz⟩ := r2.get' (e5 us s2)
    exact ⟨same_upd e2, _, zipD_get xs ys i e6 e7, .tup ⟨upd_same, R1.nav e2⟩ (.cons (rx.le (Le.new e2)) (.cons (rz.le (Le.new e2)) .nil))⟩
end
end L3
namespace L3
open PySem PySem.Spec PyProof.Rows L2
section
variable {K : PySem.W.Frag} {X : Cx} {tg a b c : Expr} {tl : TA} {L : AV} {p pos : Pos}
def rgC (lo st : Int) (n : Nat) : List D := (List.range n).map fun i => .int (lo + (i : Nat) * st)
theorem yields_rangeC {H0 : Hp} {A0 : List Addr} {lo st : Int} {n : Nat} {St : Av → Ads → Store → Hp → Prop} : Yields K H0 A0 (Itc lo st n) St (rgC lo st n) := fun av ad Γ C σ H i R _ => by
  have hl : (rgC lo st n).length = n := by simp [rgC]
  refine ⟨fun hi => ⟨by rw [hl] at hi; exact hi, fun y H2 ⟨e1, e2⟩ => ?_⟩, fun hi => by rw [hl] at hi; exact hi⟩
  subst e1 e2
  rw [hl] at hi
  exact ⟨fun _ _ h => h, .int (lo + i * st), by simp [rgC, hi], .int⟩
theorem den3 {H0 : Hp} {av : Av} {ad : Ads} {H : Hp} {vs : List V} {d d' d'' : D} (x : DenAll K H0 av ad H vs [d, d', d'']) : ∃ v v' v'', vs = [v, v', v''] ∧ Den K H0 av ad H v d ∧ Den K H0 av ad H v' d' ∧ Den K H0 av ad H v'' d'' := by
  cases x with
  | cons a b => obtain ⟨v, u, rfl, r, r2⟩ := den2 b; exact ⟨_, v, u, rfl, a, r, r2⟩
end
section
variable {K : PySem.W.Frag} {X : Cx} {k : Nat} {f : Addr} {fd : FuncData} {ps ks : List Str} {P : PV} {x : Str} {st : Stmt} {p pos : Pos} {kws : List Keyword} {tk : TA} {Lk : AV} {ix : List Nat}
end
end L3
namespace L2
open PySem PySem.Spec PyProof.Rows
section
variable {X : Cx}
end
end L2
namespace L3
open PySem PySem.Spec PyProof.Rows L2
def flatC : Cell → Bool
  | .lst xs => flatDs xs
  | .dead => true
  | _ => false
section
variable {K : PySem.W.Frag} {H0 : Hp} {A0 : List Addr} {av : Av} {ad : Ads} {Γ : Slots} {C C' : Store} {σ : L2.St} {H H' : Hp}
theorem Rep.banned (R : Rep K H0 A0 av ad Γ C σ H) (R' : Rep K H0 A0 av ad Γ C' σ H') (l : Le av ad H av ad H') {p : Addr} {ws : List V} (n : H p = none) (hp : H' p = some (.lst ws)) (fl : ∀ (i : Nat) c, C'[i]? = some c → flatC c = true) :
    Rep K H0 A0 (fun b => av b ∨ b = p) ad Γ C' σ H' := by
  have f : Fz av H (fun b => av b ∨ b = p) H' := fun a o ha na => ⟨(l.fz a o ha na).1, fun z => z.elim (l.fz a o ha na).2 fun e => ne_of_none ha n e⟩
  exact { R' with
    sub := fun a h => .inl (R'.sub a h)
    dom := fun a h => h.elim (R'.dom a) fun e => by rw [e, hp]; exact fun z => by cases z
    avt := fun a xs h r => h.elim (fun z => R'.avt a xs z r) fun e => by rw [e, hp] at r; cases r
    cells := fun i a c h1 h2 => by
      have ok := R'.cells i a c h1 h2
      have hf := fl i c h2
      cases c with
      | lst xs => obtain ⟨vs, e, r⟩ := ok; exact ⟨vs, e, r.ban hp hf⟩
      | dk _ _ => cases hf
      | dt _ _ => cases hf
      | ins _ _ _ => cases hf
      | dead => exact ok
    slot := fun i d h => by
      obtain ⟨v, h1, h2⟩ := R.slot i d h
      exact ⟨v, h1, h2.mono f Pre.refl⟩ }
end
def eCallT (n : Nat) (kf : List D → List Nat) (P : PV) (L : AV) : EV := fun Γ C Q => L Γ C fun ds C1 => (kf ds).length = n ∧ (kf ds).Nodup ∧ (∀ k, k ∈ kf ds → ∃ c, C1[k]? = some c ∧ c ≠ Cell.dead) ∧
  P (views (kf ds) C1 ds) (viewC (kf ds) C1) fun d Cc => ∃ x y xs, d = .tup [x, y, .lst false xs] ∧ flatDs [x, y] = true ∧ flatDs xs = true ∧ (∀ c, c ∈ Cc → c.okC (fun o => !o) = true) ∧
    (∀ (i : Nat) c, (putS (kf ds) (Cc.map (backs (kf ds))) C1)[i]? = some c → flatC c = true) ∧ Q (.tup [x, y, .ptr C1.length]) (putS (kf ds) (Cc.map (backs (kf ds))) C1 ++ [.lst xs])
section
variable {K : PySem.W.Frag} {X : Cx} {k n : Nat} {f : Addr} {fd : FuncData} {ps : List Str} {P : PV} {x : Str} {p pos : Pos} {e : Expr} {es : List Expr} {tl : TA} {L : AV}
theorem sim_callT {kf : List D → List Nat} (hl : SimA K tl L) (E : XK) : SimE K (tCall (Sp3 K n P) [] E tl) (eCallT n kf P L) := fun H0 A0 av ad Γ C σ H Q3 Q R h q => by
  refine hl H0 A0 av ad Γ C σ H _ _ R h fun vs H1 av1 ad1 ds C1 R1 l1 dv ⟨h0, h1, h2, h3⟩ => ?_
  subst h0
  rw [List.append_nil]
  refine R1.call (ks := kf ds) (Q3 := fun d C' => ∃ x y xs, d = .tup [x, y, .lst false xs] ∧ flatDs [x, y] = true ∧ flatDs xs = true ∧ (∀ (i : Nat) c, C'[i]? = some c → flatC c = true) ∧ Q3 (.tup [x, y, .ptr C1.length]) (C' ++ [.lst xs])) dv h1 h2 h3 (fun d Cc hC h4 => ?_) (fun v H' C' d R' l' den den2 s q3 => ?_) E
  · obtain ⟨x, y, xs, rfl, f1, f2, ok, fl, q4⟩ := h4
    have n1 := flats_np f1
    have n2 := flats_np f2
    simp only [noptrs, okWs, Bool.and_eq_true] at n1
    refine ⟨?_, ok, ?_⟩
    · simp only [noold, okW, okWs, n1.2.1, n1.2.2.1, n2.2]
      rfl
    · rw [mapW_np.1 (.tup [x, y, .lst false xs]) (by simp only [noptr, noptrs, n1.1.1, n1.1.2.1, n2.1]; rfl)]
      exact ⟨x, y, xs, rfl, f1, f2, fl, q4⟩
  · obtain ⟨x, y, xs, rfl, f1, f2, fl, q4⟩ := q3
    simp only [flatDs, Bool.and_eq_true] at f1
    cases den with
    | @tup t vs1 _ r z =>
      cases z with
      | cons a z =>
        cases z with
        | cons b z =>
          cases z with
          | cons c z =>
            cases z
            cases den2 with
            | @tup _ vs2 _ r2 z2 =>
              have ev := r.1.symm.trans r2.1
              simp only [Option.some.injEq, HO.tup.injEq] at ev
              subst ev
              cases z2 with
              | cons a2 z2 =>
                cases z2 with
                | cons b2 z2 =>
                  cases z2 with
                  | cons c2 z2 =>
                    cases c2 with
                    | @lst p ws2 _ _ rr2 o2 y2 =>
                      obtain ⟨n1, hp⟩ := o2 rfl
                      cases c with
                      | @lst _ ws _ _ rr o1 y1 =>
                        have hp1 := (o1 rfl).2
                        have ew : ws = ws2 := by
                          rw [hp] at hp1
                          cases hp1
                          rfl
                        subst ew
                        have RB := R1.banned R' l' n1 hp fl
                        have np : some p ∉ ad1 := fun z => R1.dom _ (R1.sub _ z) n1
                        have RP := RB.push (c := .lst xs) (R1.there p n1) np (fun a h => R1.sub a h) ⟨ws, hp, y1.ban hp f2⟩
                        have pr : Pre ad1 (ad1 ++ [some p]) := fun k a h => by
                          have hlt : k < ad1.length := (List.getElem?_eq_some_iff.mp h).1
                          rw [List.getElem?_append_left hlt]; exact h
                        have tn : ∀ z, t = z → H' z = some (.tup _) := fun z e => by subst e; exact r.1
                        refine q _ H' _ _ _ _ RP (l1.trans ⟨fun a o ha na => ⟨(l'.fz a o ha na).1, fun z => z.elim (l'.fz a o ha na).2 fun e => ne_of_none ha n1 e⟩, pr, l'.there, fun _ z => .inl z, fun a h => ?_, l'.kp⟩) (.tup ⟨r.1, fun z => z.elim r.2 fun e => by have := tn p e; rw [hp] at this; cases this⟩ ?_) q4
                        · rcases List.mem_append.mp h with h | h
                          · exact .inl h
                          · simp at h
                            subst h
                            exact .inr n1
                        · refine .cons ((a.ban hp f1.1).mono Fz.refl pr) (.cons ((b.ban hp f1.2.1).mono Fz.refl pr) (.cons (.ptr ?_) .nil))
                          rw [← R1.len, List.getElem?_append_right (Nat.le_refl _), Nat.sub_self]
                          rfl
theorem ve_callT {kf : List D → List Nat} (F : FnOkG X.prog X.w X.K X.mg X.base CX0 k f fd ps (Sp3 K n P)) (hr : RoomG k X.A) (hm : X.mg x = some (.ref f)) (hk : PySem.W.keepIn X.K (.ref f) = true) (hb : Binds X.K fd ps []) (ha : VA K X (e :: es) tl L) (hg : Gl X x := by rfl)
    (hdb : (x == ("__debug__" : Str)) = false := by decide) (he : starEach (e :: es) X.env = (false, eval e X.env) :: starEach es X.env := by rfl) (hpl : (backTo pos (starEach es X.env)).any (·.1) = false := by rfl) :
    VE K X (.Call (.Name x p) (e :: es) [] pos) (tCall (Sp3 K n P) [] E0 tl) (eCallT n kf P L) := ⟨pe_callG F hr hg hm hk hb pass0 ha.pa hdb he hpl, sim_callT ha.sim E0⟩
end
@[simp] theorem u_eCallT {n : Nat} {kf : List D → List Nat} {P : PV} {L : AV} {Γ : Slots} {C : Store} {Q : D → Store → Prop} : eCallT n kf P L Γ C Q = L Γ C fun ds C1 => (kf ds).length = n ∧ (kf ds).Nodup ∧ (∀ k, k ∈ kf ds → ∃ c, C1[k]? = some c ∧ c ≠ Cell.dead) ∧
  P (views (kf ds) C1 ds) (viewC (kf ds) C1) fun d Cc => ∃ x y xs, d = .tup [x, y, .lst false xs] ∧ flatDs [x, y] = true ∧ flatDs xs = true ∧ (∀ c, c ∈ Cc → c.okC (fun o => !o) = true) ∧
    (∀ (i : Nat) c, (putS (kf ds) (Cc.map (backs (kf ds))) C1)[i]? = some c → flatC c = true) ∧ Q (.tup [x, y, .ptr C1.length]) (putS (kf ds) (Cc.map (backs (kf ds))) C1 ++ [.lst xs]) := rfl
end L3
namespace L3
open PySem PySem.Spec PyProof.Rows L2
theorem size_two (i j : Int) : Builtin.Range.rangeSize i j 2 = (((j - i + 1) / 2).toNat : Nat) := by
  unfold Builtin.Range.rangeSize
  rw [if_pos (by decide)]
  split <;> omega
theorem small_two {a b : Int} (ha : -(2 ^ 61) ≤ a) (ha' : a < 2 ^ 61) (hb : -(2 ^ 61) ≤ b) (hb' : b < 2 ^ 61) : Builtin.Range.small a b 2 = true := by
  unfold Builtin.Range.small
  rw [size_two]
  simp only [Builtin.Range.rangeFitsLong, Bool.and_eq_true, Bool.or_eq_true, decide_eq_true_eq, beq_iff_eq, show ((2 : Int) > 0) by decide, if_true]
  omega
theorem rgc_two {i j : Int} (ha : -(2 ^ 61) ≤ i) (ha' : i < 2 ^ 61) (hb : -(2 ^ 61) ≤ j) (hb' : j < 2 ^ 61) : RgC i j 2 ((j - i + 1) / 2).toNat := ⟨by decide, by decide, small_two ha ha' hb hb', size_two i j⟩
section
variable {K : PySem.W.Frag} {X : Cx} {tg a b c : Expr} {tl : TA} {L : AV} {p pos : Pos}
def iRangeTwo (L : AV) : IV := fun Γ C Q => L Γ C fun ds C1 => ∃ i j : Int, ds = [.int i, .int j, .int 2] ∧ (-(2 ^ 61) ≤ i ∧ i < 2 ^ 61 ∧ -(2 ^ 61) ≤ j ∧ j < 2 ^ 61) ∧ Q (rgC i 2 ((j - i + 1) / 2).toNat) [] C1
theorem vi_rangeTwo (hm : X.mg "range" = none) (h : VA K X [a, b, c] tl L) (hg : Gl X "range" := by rfl) (hs : starEach [a, b, c] X.env = (false, eval a X.env) :: starEach [b, c] X.env := by rfl) (hpl : (backTo pos (starEach [b, c] X.env)).any (·.1) = false := by rfl) :
    VI K X tg (.Call (.Name "range" p) [a, b, c] [] pos) (iRng3 tl) (iRangeTwo L) :=
  ⟨pi_range3 hg hm h.pa hs hpl, fun H0 A0 av ad Γ C σ H Q3 Rr R h3 q =>
    h.sim H0 A0 av ad Γ C σ H _ _ R h3 fun vs H' av' ad' ds C' R' l' dv ⟨i, j, e, ⟨b1, b2, b3, b4⟩, q3⟩ => by
      subst e
      obtain ⟨v, u, w, rfl, r, r2, r3⟩ := den3 dv
      exact ⟨i, j, 2, ((j - i + 1) / 2).toNat, by rw [den_int r, den_int r2, den_int r3], rgc_two b1 b2 b3 b4, q _ H' av' ad' C' _ _ R' l' yields_rangeC q3⟩⟩
end
end L3
namespace L3
open PySem PySem.Spec PyProof.Rows L2
def kD : Key → D
  | .inl i => .int i
  | .inr s => .str s
def dAt (k : Key) : List Key → List D → Option D
  | q :: qs, x :: xs => if q = k then some x else dAt k qs xs
  | _, _ => none
def hasK (k : Key) (ks : List Key) : Bool := ks.any fun q => decide (q = k)
def kPut (k : Key) (ks : List Key) : List Key := if hasK k ks = true then ks else ks ++ [k]
def xPut (k : Key) (y : D) (ks : List Key) (xs : List D) : List D := if hasK k ks = true then (ks.zip xs).map (fun z => if z.1 = k then y else z.2) else xs ++ [y]
def dkOf (C : Store) : D → Option (List Key × List D)
  | .dk _ ks xs => some (ks, xs)
  | .ptr k => match C[k]? with
    | some (.dk ks xs) => some (ks, xs)
    | _ => none
  | _ => none
section
variable {K : PySem.W.Frag} {H0 : Hp} {A0 : List Addr} {av : Av} {ad : Ads} {Γ : Slots} {C : Store} {σ : L2.St} {H : Hp}
theorem den_kD {v : V} {k : Key} (x : Den K H0 av ad H v (kD k)) : v = kV k := by
  cases k with
  | inl i => exact den_int x
  | inr s => exact den_str x
theorem dAt_den {k : Key} : ∀ {kvs : List (Key × V)} {xs : List D}, DenAll K H0 av ad H (kvs.map (·.2)) xs →
    (∀ d, dAt k (kvs.map (·.1)) xs = some d → ∃ v, valV kvs k = some v ∧ Den K H0 av ad H v d) ∧ (dAt k (kvs.map (·.1)) xs = none → valV kvs k = none)
  | [], xs, x => ⟨fun d h => by simp [dAt] at h, fun _ => valV_nil⟩
  | p :: r, xs, x => by
    rw [List.map_cons] at x
    cases x with
    | @cons _ _ d ds a b =>
      have ih := dAt_den (k := k) b
      by_cases e : p.1 = k
      · refine ⟨fun d' h => ?_, fun h => ?_⟩
        · simp only [List.map_cons, dAt, if_pos e, Option.some.injEq] at h
          subst h
          exact ⟨p.2, valV_pos e, a⟩
        · simp only [List.map_cons, dAt, if_pos e] at h
          cases h
      · refine ⟨fun d' h => ?_, fun h => ?_⟩
        · simp only [List.map_cons, dAt, if_neg e] at h
          rw [valV_neg e]
          exact ih.1 d' h
        · simp only [List.map_cons, dAt, if_neg e] at h
          rw [valV_neg e]
          exact ih.2 h
theorem any_mem {kvs : List (Key × V)} {k : Key} : (kvs.any fun kv => decide (kv.1 = k)) = hasK k (kvs.map (·.1)) := by
  unfold hasK
  rw [List.any_map]
  rfl
theorem put_keys {kvs : List (Key × V)} {k : Key} {v : V} : (putK kvs k v).map (·.1) = kPut k (kvs.map (·.1)) := by
  unfold putK kPut
  rw [any_mem]
  by_cases h : hasK k (kvs.map (·.1)) = true
  · rw [if_pos h, if_pos h, List.map_map]
    apply List.map_congr_left
    intro kv _
    show (if kv.1 = k then (kv.1, v) else kv).1 = kv.1
    split <;> rfl
  · rw [if_neg h, if_neg h, List.map_append]
    rfl
theorem put_den {k : Key} {v : V} {y : D} {kvs : List (Key × V)} {xs : List D} (x : DenAll K H0 av ad H (kvs.map (·.2)) xs) (z : Den K H0 av ad H v y) : DenAll K H0 av ad H ((putK kvs k v).map (·.2)) (xPut k y (kvs.map (·.1)) xs) := by
  have all : ∀ {kvs : List (Key × V)} {xs : List D}, DenAll K H0 av ad H (kvs.map (·.2)) xs → DenAll K H0 av ad H ((kvs.map fun kv => if kv.1 = k then (kv.1, v) else kv).map (·.2)) (((kvs.map (·.1)).zip xs).map fun z => if z.1 = k then y else z.2) := by
    intro kvs
    induction kvs with
    | nil => intro xs x; exact .nil
    | cons p r ih =>
      intro xs x
      rw [List.map_cons] at x
      cases x with
      | @cons _ _ d ds a b =>
        simp only [List.map_cons, List.zip_cons_cons]
        refine .cons ?_ (ih b)
        by_cases e : p.1 = k
        · rw [if_pos e, if_pos e]; exact z
        · rw [if_neg e, if_neg e]; exact a
  unfold putK xPut
  rw [any_mem]
  by_cases h : hasK k (kvs.map (·.1)) = true
  · rw [if_pos h, if_pos h]
    exact all x
  · rw [if_neg h, if_neg h, List.map_append]
    exact x.append (.cons z .nil)
theorem Rep.dk (R : Rep K H0 A0 av ad Γ C σ H) {v : V} {d : D} {ks : List Key} {xs : List D} (x : Den K H0 av ad H v d) (e : dkOf C d = some (ks, xs)) :
    ∃ a kvs, v = .ref a ∧ Rd H a (.dK kvs) ∧ kvs.map (·.1) = ks ∧ DenAll K H0 av ad H (kvs.map (·.2)) xs := by
  cases d with
  | dk o ks' xs' =>
    cases e
    cases x with
    | dk r n o k y => exact ⟨_, _, rfl, r, k, y⟩
  | ptr k =>
    cases x with
    | ptr h =>
      simp only [dkOf] at e
      split at e
      · rename_i ks' xs' hc
        cases e
        obtain ⟨kvs, e1, e2, r⟩ := R.cells _ _ _ h hc
        exact ⟨_, kvs, rfl, .inl e1, e2, r⟩
      · cases e
  | bad => cases e
  | non => cases e
  | bl _ => cases e
  | int _ => cases e
  | str _ => cases e
  | lst _ _ => cases e
  | tup _ => cases e
  | dt _ _ _ => cases e
  | obj _ _ _ => cases e
  | exc _ _ _ => cases e
theorem Rep.dget (R : Rep K H0 A0 av ad Γ C σ H) {v u : V} {d : D} {ks : List Key} {xs : List D} {k : Key} (x : Den K H0 av ad H v d) (e : dkOf C d = some (ks, xs)) (y : Den K H0 av ad H u (kD k)) :
    ∃ a o, v = .ref a ∧ IsD H a ∧ DGet H a u o ∧ o.isSome = (dAt k ks xs).isSome ∧ (∀ d', dAt k ks xs = some d' → ∃ w, o = some w ∧ Den K H0 av ad H w d') ∧ (dAt k ks xs = none → o = none) := by
  obtain ⟨a, kvs, rfl, rd, rfl, r⟩ := R.dk x e
  have ek := den_kD y
  obtain ⟨h1, h2⟩ := dAt_den (k := k) r
  refine ⟨a, valV kvs k, rfl, .inl ⟨kvs, rd⟩, .inl ⟨kvs, k, rd, ek, rfl⟩, ?_, h1, h2⟩
  cases q : dAt k (kvs.map (·.1)) xs with
  | none => rw [h2 q]; rfl
  | some d' => obtain ⟨w, e, _⟩ := h1 d' q; rw [e]; rfl
end
theorem u1 {k : Nat} {A : Around} (r : RoomG k A) : A.units + 1 < cLine := by have := r.rm.un; omega
section
variable {K : PySem.W.Frag} {X : Cx} {o i e f : Expr} {td ty tk tv tx : TE} {Eo Ei Ek Ev Ef : EV} {pos apos cpos p : Pos}
def eDGet (Eo Ei : EV) : EV := fun Γ C Q => Eo Γ C fun x C1 => Ei Γ C1 fun y C2 => ∃ ks xs k d, dkOf C2 x = some (ks, xs) ∧ y = kD k ∧ dAt k ks xs = some d ∧ Q d C2
theorem ve_dget (ho : VE K X o td Eo) (hi : VE K X i ty Ei) (hu : X.A.units + 1 < cLine) (hs : NoSl i := by intro _ _; rfl) : VE K X (.Subscript o i pos) (tDGet td ty) (eDGet Eo Ei) := by
  refine ⟨pe_dget hu ho.pe hi.pe hs, fun H0 A0 av ad Γ C σ H Q3 Q R h q => ?_⟩
  refine ho.sim H0 A0 av ad Γ C σ H _ _ R h fun v H1 av1 ad1 d C1 R1 l1 d1 h1 => ?_
  refine hi.sim H0 A0 av1 ad1 Γ C1 σ H1 _ _ R1 h1 fun u H2 av2 ad2 d2 C2 R2 l2 e2 ⟨ks, xs, k, d', e3, e4, e5, h2⟩ => ?_
  subst e4
  obtain ⟨a, o, rfl, _, g, _, h3, _⟩ := R2.dget (d1.le l2) e3 e2
  obtain ⟨w, rfl, dw⟩ := h3 d' e5
  exact ⟨a, w, rfl, g, q w H2 av2 ad2 d' C2 R2 (l1.trans l2) dw h2⟩
def rDIn : R2 := fun x y H Q => ∃ a o, y = .ref a ∧ DGet H a x o ∧ Q (.bl o.isSome) H
theorem op_din (hu : X.A.units + 1 < cLine) : OpR X (compareOp .In) rDIn := by
  intro pins s σ H x y v u Q I rx ry h
  obtain ⟨a, o, rfl, g, q⟩ := h
  obtain rfl : u = Value.ref a := ry
  exact d_in hu I g rx fun s3 I3 => ⟨.bl o.isSome, H, I3, rfl, q⟩
def oDIn (neg : Bool) : O2 := fun C x y Q => ∃ ks xs k, dkOf C y = some (ks, xs) ∧ x = kD k ∧ Q (.bl (neg != (dAt k ks xs).isSome))
theorem sr_din : SimR K rDIn (oDIn false) := by
  intro H0 A0 av ad Γ C σ H x y dx dy Q3 Q R d1 d2 ⟨ks, xs, k, e1, e2, q3⟩ q
  subst e2
  obtain ⟨a, o, rfl, _, g, hs, _, _⟩ := R.dget d2 e1 d1
  refine ⟨a, o, rfl, g, q _ H _ (fun _ _ h => h) .bl ?_⟩
  rw [hs]
  rw [eqN] at q3
  exact q3
def eDGet2 (Eo Ei Ef : EV) : EV := fun Γ C Q => Eo Γ C fun x C1 => (∃ r, dkOf C1 x = some r) ∧ Ei Γ C1 fun y C2 => Ef Γ C2 fun z C3 => ∃ ks xs k, dkOf C3 x = some (ks, xs) ∧ y = kD k ∧ Q ((dAt k ks xs).getD z) C3
theorem ve_dget2 (ho : VE K X o td Eo) (he : VE K X e ty Ei) (hf : VE K X f tx Ef) (hu : X.A.units + 1 < cLine) (m : M2 X o "get" apos e f cpos := by exact ⟨rfl, rfl, rfl, rfl⟩) : VE K X (.Call (.Attribute o "get" apos) [e, f] [] cpos) (tDGet2 td ty tx) (eDGet2 Eo Ei Ef) := by
  refine ⟨pe_dget2 hu ho.pe he.pe hf.pe m, fun H0 A0 av ad Γ C σ H Q3 Q R h q => ?_⟩
  refine ho.sim H0 A0 av ad Γ C σ H _ _ R h fun v H1 av1 ad1 d C1 R1 l1 d1 ⟨⟨⟨ks0, xs0⟩, e0⟩, h1⟩ => ?_
  obtain ⟨a0, kvs0, ea, rd0, _, _⟩ := R1.dk d1 e0
  subst ea
  refine ⟨a0, rfl, .inl ⟨kvs0, rd0⟩, ?_⟩
  refine he.sim H0 A0 av1 ad1 Γ C1 σ H1 _ _ R1 h1 fun u H2 av2 ad2 d2 C2 R2 l2 e2 h2 => ?_
  refine hf.sim H0 A0 av2 ad2 Γ C2 σ H2 _ _ R2 h2 fun z H3 av3 ad3 dz C3 R3 l3 ez ⟨ks, xs, k, e3, e4, h5⟩ => ?_
  subst e4
  obtain ⟨a, o, ea, _, g, hs, h3, h4⟩ := R3.dget ((d1.le l2).le l3) e3 (e2.le l3)
  cases ea
  refine ⟨o, g, ?_⟩
  cases hd : dAt k ks xs with
  | none =>
    rw [hd] at h5
    rw [h4 hd]
    exact q z H3 av3 ad3 dz C3 R3 ((l1.trans l2).trans l3) ez h5
  | some d' =>
    rw [hd] at h5
    obtain ⟨w, rfl, dw⟩ := h3 d' hd
    exact q w H3 av3 ad3 d' C3 R3 ((l1.trans l2).trans l3) dw h5
def gvSubD (Eo Ei : EV) : GV := fun d Γ C Q => Eo Γ C fun x C1 => Ei Γ C1 fun y C2 => ∃ (k : Nat) (ks : List Key) (xs : List D) (q : Key), x = .ptr k ∧ y = kD q ∧ C2[k]? = some (.dk ks xs) ∧ ks.length < sizeLine ∧ Q Γ (C2.set k (.dk (kPut q ks) (xPut q d ks xs)))
theorem vg_subD (hu : X.A.units + 1 < cLine) (ho : VE K X o td Eo) (hi : VE K X i ty Ei) (ha : ∀ v, assign (.Subscript o i pos) X.env v = (do
      let ov ← holding [v] (eval o X.env)
      let iv ← holding [v, ov] (eval i X.env)
      standAt pos
      holding [v, ov, iv] (setItem ov iv v)
      release [v, ov, iv] []) := by intro _; rfl) : VG K X (.Subscript o i pos) (gSub td ty rSetD) (gvSubD Eo Ei) := by
  refine ⟨pg_sub ho.pe hi.pe (set_dict hu) ha, fun H0 A0 av ad Γ C σ H v d Q3 Q R dv h q => ?_⟩
  refine ho.sim H0 A0 av ad Γ C σ H _ _ R h fun vo H1 av1 ad1 d1 C1 R1 l1 e1 h1 => ?_
  refine hi.sim H0 A0 av1 ad1 Γ C1 σ H1 _ _ R1 h1 fun vi H2 av2 ad2 d2 C2 R2 l2 e2 ⟨k, ks, xs, qk, e3, e4, e5, hl, h2⟩ => ?_
  subst e3 e4
  have e1' := e1.le l2
  cases e1' with
  | @ptr a _ hp =>
    obtain ⟨kvs, he, rfl, r⟩ := R2.cells k a _ hp e5
    have ek := den_kD e2
    have hlt : k < C2.length := (List.getElem?_eq_some_iff.mp e5).1
    have dv2 := (dv.le l1).le l2
    have fz : Fz av2 H2 av2 (upd H2 a (.dK (putK kvs qk v))) := fun b u h n => ⟨by rw [upd_ne (fun e => n (by rw [e]; exact R2.av_of hp))]; exact h, n⟩
    have R3 := R2.write (o := .dK (putK kvs qk v)) (c := .dk (kPut qk (kvs.map (·.1))) (xPut qk d (kvs.map (·.1)) xs)) hp hlt (fun _ z => nomatch z) fun f => ⟨_, upd_same, put_keys, (put_den r dv2).mono f Pre.refl⟩
    have l3 : Le av2 ad2 H2 av2 ad2 (upd H2 a (.dK (putK kvs qk v))) := ⟨fz, Pre.refl, fun b e => by
      by_cases q : b = a
      · subst q; rw [upd_same] at e; cases e
      · rw [upd_ne q] at e; exact e, fun _ h => h, fun _ h => .inl h, fun b u h n => by rw [upd_ne (fun e => n (by rw [e]; exact mem_ads hp))]; exact h⟩
    rw [List.length_map] at hl
    refine ⟨a, _, rfl, ?_, q av2 ad2 Γ _ σ _ R3 ((l1.trans l2).trans l3) h2⟩
    rw [ek]
    exact DPut.k he hl
def fDisp1 (Ek Ev : EV) : FV := fun Γ C Q => Ek Γ C fun x C1 => Ev Γ C1 fun y C2 => ∃ k, x = kD k ∧ Q (.dk [k] [y]) C2
theorem vf_disp1 (hk : VE K X e tk Ek) (hv : VE K X f tv Ev) : VF K X (.Dict [some e] [f] pos) (tDisp [(tk, tv)]) (fDisp1 Ek Ev) := by
  refine ⟨pe_disp (pps_cons hk.pe hv.pe pps_nil) rfl rfl (by simp) (by simp), fun H0 A0 av ad Γ C σ H Q3 Q R h q p np => ?_⟩
  have n0 : H0 p = none := R.there p np
  have nad : some p ∉ ad := fun z => R.nav np (R.sub p z)
  have R1 : Rep K H0 A0 (fun b => av b ∨ b = p) ad Γ C σ (upd H p (.dK [])) := R.ban np (fun _ z => nomatch z)
  have l0 : Le av ad H (fun b => av b ∨ b = p) ad (upd H p (.dK [])) := by
    refine ⟨?_, Pre.refl, fun a e => ?_, fun _ h => .inl h, fun _ h => .inl h, fun a u h _ => same_upd np a u h⟩
    · exact fun a u h na => ⟨same_upd np a u h, fun z => z.elim na fun e => ne_of_none h np e⟩
    · by_cases h : a = p
      · subst h; exact np
      · rw [upd_ne h] at e; exact e
  refine hk.sim H0 A0 _ ad Γ C σ _ _ _ R1 h fun x H1 av1 ad1 dx C1 R2 l1 d1 h1 => ?_
  refine hv.sim H0 A0 av1 ad1 Γ C1 σ H1 _ _ R2 h1 fun y H2 av2 ad2 dy C2 R3 l2 d2 ⟨k, e, q3⟩ => ?_
  subst e
  have ek := den_kD (d1.le l2)
  have l12 := l1.trans l2
  have hp2 : H2 p = some (.dK []) := l12.kp p _ upd_same nad
  have pv2 : av2 p := l12.avm p (.inr rfl)
  have np2 : some p ∉ ad2 := fun z => (l12.adn p z).elim nad fun e => by rw [upd_same] at e; cases e
  refine ⟨hp2, [(k, y)], by rw [ek]; rfl, by simp, ?_⟩
  obtain ⟨R4, f4⟩ := R3.poke (o := .dK [(k, y)]) pv2 n0 np2 (fun _ z => nomatch z)
  have L := l0.trans l12
  have ok : CellOk K H0 av2 ad2 (upd H2 p (.dK [(k, y)])) p (.dk [k] [dy]) := ⟨[(k, y)], upd_same, rfl, .cons (d2.mono f4 Pre.refl) .nil⟩
  have L4 : Le av ad H av2 ad2 (upd H2 p (.dK [(k, y)])) := by
    refine ⟨L.fz.trans f4, L.pre, fun a e => ?_, L.avm, L.adn, fun a u h n => ?_⟩
    · by_cases h : a = p
      · subst h; exact np
      · rw [upd_ne h] at e; exact L.there a e
    · rw [upd_ne (ne_of_none h np)]; exact L.kp a u h n
  have ea : av2 = fun b => (av2 b ∧ b ≠ p) ∨ b = p := by
    funext b
    refine propext ⟨fun h => ?_, fun h => h.elim (fun z => z.1) fun z => by rw [z]; exact pv2⟩
    by_cases e : b = p
    · exact .inr e
    · exact .inl ⟨h, e⟩
  rw [ea] at R4 L4 ok
  exact q p _ (fun b => av2 b ∧ b ≠ p) ad2 (.dk [k] [dy]) C2 R4 (fun b hb => ⟨(R4.sub b hb).elim (fun z => z.1) fun z => by rw [z] at hb; exact absurd hb np2, fun z => np2 (by rw [← z]; exact hb)⟩) (fun z => z.2 rfl) np L4 ok q3
end
section
variable {K : PySem.W.Frag} {X : Cx}
end
end L3
namespace L2
open PySem PySem.Spec PyProof.Rows
def ZOut (base : Nat) (xs ys : Array Value) (h : Heap) (Ts : List Addr) : Prop :=
  Ts.Nodup ∧ ∀ (j : Nat) (T : Addr), Ts[j]? = some T → base ≤ T ∧ ∃ x y, xs[j]? = some x ∧ ys[j]? = some y ∧ IsPair h T x y
section
variable {prog : Program} {w : World} {A : Around} {s : Shared} {z TI TO i1 i2 l1 l2 S : Addr} {xs ys : Array Value} {E : Value → Shared → Prop}
theorem ZOut.at {base : Nat} {h h' : Heap} {Ts : List Addr} (k : ∀ b o, base ≤ b → h.get? b = some o → h'.get? b = some o) (z : ZOut base xs ys h Ts) : ZOut base xs ys h' Ts :=
  ⟨z.1, fun j T e => let ⟨b, x, y, e1, e2, p⟩ := z.2 j T e; ⟨b, x, y, e1, e2, k _ _ b p⟩⟩
theorem ZOut.push {base : Nat} {h : Heap} {Ts : List Addr} {T : Addr} {x y : Value} (z : ZOut base xs ys h Ts) (b : base ≤ T) (n : T ∉ Ts) (e1 : xs[Ts.length]? = some x) (e2 : ys[Ts.length]? = some y) (p : IsPair h T x y) : ZOut base xs ys h (Ts ++ [T]) := by
  refine ⟨List.nodup_append.mpr ⟨z.1, List.nodup_cons.mpr ⟨by simp, List.nodup_nil⟩, fun a ha b hb e => by simp at hb; subst e; subst hb; exact n ha⟩, fun j U e => ?_⟩
  by_cases hj : j < Ts.length
  · rw [List.getElem?_append_left hj] at e
    exact z.2 j U e
  · rw [List.getElem?_append_right (Nat.le_of_not_lt hj)] at e
    have : j - Ts.length = 0 := by
      have := (List.getElem?_eq_some_iff.mp e).1
      simp at this
      omega
    rw [this] at e
    simp at e
    subst e
    have ej : j = Ts.length := by omega
    subst ej
    exact ⟨b, x, y, e1, e2, p⟩
end
section
variable {X : Cx} {pins : List (Addr × Obj)} {σ : L2.St} {H : Hp} {s : Shared} {h' : Heap}
structure LaidBy (X : Cx) (H : Hp) (s : Shared) (h' : Heap) (H2 : Hp) : Prop where
  un : Un X.fs [] H H2 s.heap h'
  ok : HOk X.prog X.w H2 h'
  keep : ∀ c o, H c = some o → H2 c = some o
theorem LaidBy.start (I : Inv X pins σ H s) (k : ∀ b u, s.heap.get? b = some u → h'.get? b = some u) : LaidBy X H s h' H := ⟨Un.kept k, I.hok.kept k, fun _ _ e => e⟩
theorem LaidBy.step {H2 : Hp} {a : Addr} {o : HO} (L : LaidBy X H s h' H2) (hs : s.heap.objs.size ≤ a) (hn : H2 a = none) (new : ObjOk X.prog X.w (upd H2 a o) h' a o) : LaidBy X H s h' (upd H2 a o) := by
  have na : ∀ {b : Addr} {u : HO}, H b = some u → b ≠ a := fun e q => by subst q; rw [L.keep _ _ e] at hn; cases hn
  refine ⟨⟨L.un.keep, L.un.slot, fun b u q n hx => ?_, L.un.there, fun b xs q => ?_, fun b u xs q => ?_, fun b ps q => ?_⟩, fun b u e => ?_, fun c u e => ?_⟩
  · rw [upd_ne (Nat.ne_of_lt (Nat.lt_of_lt_of_le (Heap.lt_size q) hs))]; exact L.un.free b u q n hx
  · rw [upd_ne (na q)]; exact L.un.tups b xs q
  · rw [upd_ne (na q)]; exact L.un.frzs b u xs q
  · rw [upd_ne (na q)]; exact L.un.tbls b ps q
  · by_cases hb : b = a
    · subst hb; rw [upd_same] at e; cases e; exact new
    · rw [upd_ne hb] at e
      exact (L.ok b u e).stay (fun c v _ q => q) (fun c q => by rw [upd_ne (ne_of_none q hn)]; exact q) fun c xs q => by rw [upd_ne (ne_of_none q hn)]; exact q
  · rw [upd_ne (na e)]; exact L.keep c u e
end
end L2
namespace L3
open PySem PySem.Spec PyProof.Rows L2
section
variable {K : PySem.W.Frag} {X : Cx} {e e2 : Expr} {tl : TA} {L : AV} {p p2 pos pos2 : Pos}
end
end L3
namespace L3
open PySem PySem.Spec PyProof.Rows L2
section
variable {X : Cx} {CX : CXT} {k : Nat} {f C : Addr} {fd : FuncData} {ps : List Str} {sp : Sp} {E : XK} {x m : Str} {p pos apos : Pos} {e o : Expr} {es : List Expr} {ta : TE} {t : TA}
end
section
variable {K : PySem.W.Frag} {H0 : Hp} {av : Av} {ad : Ads} {H : Hp}
end
section
variable {K : PySem.W.Frag} {H0 : Hp} {A0 : List Addr} {av : Av} {ad : Ads} {Γ : Slots} {C : Store} {σ : L2.St} {H : Hp}
end
section
variable {K : PySem.W.Frag} {H0 : Hp} {A0 : List Addr} {av : Av} {ad : Ads} {Γ : Slots} {C : Store} {σ : L2.St} {H : Hp}
end
section
variable {K : PySem.W.Frag} {X : Cx} {e o value : Expr} {es : List Expr} {ta tv : TE} {Eo Ev : EV} {tl : TA} {L : AV} {nm f m x : Str} {pos pos' p apos : Pos} {k : Nat} {fa : Addr} {fd : FuncData} {ps : List Str} {P : PV}
end
section
end
section
variable {nm f m : Str} {E Eo Ev : EV} {L : AV} {P : PV} {Γ : Slots} {C : Store} {Q : D → Store → Prop} {De : En}
end
def fDk0 : FV := fun _ C Q => Q (.dk [] []) C
def fDt0 : FV := fun _ C Q => Q (.dt [] []) C
section
variable {K : PySem.W.Frag} {X : Cx} {e f : Expr} {te tf : TE} {E F : EV} {p p2 pos pos2 : Pos}
theorem vf_dk0 : VF K X (.Dict [] [] pos) tDNewK fDk0 := ⟨pe_dnewK, fun H0 A0 av ad Γ C σ H Q3 Q R h q p np => fin_new R Le.refl (fun _ _ h => h) np noTup_dk (c := .dk [] []) ⟨rfl, .nil⟩ h q⟩
end
@[simp] theorem u_fDk0 {Γ : Slots} {C : Store} {Q : Cell → Store → Prop} : fDk0 Γ C Q = Q (.dk [] []) C := rfl
@[simp] theorem u_fDt0 {Γ : Slots} {C : Store} {Q : Cell → Store → Prop} : fDt0 Γ C Q = Q (.dt [] []) C := rfl
end L3
namespace L2
open PySem PySem.W PySem.Spec PyProof.Rows
end L2
namespace L3
open PySem PySem.W PySem.Spec PyProof.Rows L2
section
variable {K : PySem.W.Frag} {X : Cx}
end
end L3
namespace L3
open PySem PySem.Spec PyProof.Rows L2
def kP (z : Int × Int) : List Key := [.inl z.1, .inl z.2]
end L3
namespace L2
open PySem PySem.Spec PyProof.Rows
section
variable {prog : Program} {w : World} {A : Around} {E : Value → Shared → Prop} {s : Shared} {l : Addr} {xs : Array (Int × Tok)}
end
section
variable {X : Cx}
end
end L2
namespace L3
open PySem PySem.Spec PyProof.Rows L2
def dtOf (C : Store) : D → Option (List (List Key) × List D)
  | .dt _ ks xs => some (ks, xs)
  | .ptr k => match C[k]? with
    | some (.dt ks xs) => some (ks, xs)
    | _ => none
  | _ => none
def tAt (k : List Key) : List (List Key) → List D → Option D
  | q :: qs, x :: xs => if q = k then some x else tAt k qs xs
  | _, _ => none
def hasT (k : List Key) (ks : List (List Key)) : Bool := ks.any fun q => decide (q = k)
def tPut (k : List Key) (ks : List (List Key)) : List (List Key) := if hasT k ks = true then ks else ks ++ [k]
def yPut (k : List Key) (y : D) (ks : List (List Key)) (xs : List D) : List D := if hasT k ks = true then (ks.zip xs).map (fun z => if z.1 = k then y else z.2) else xs ++ [y]
section
variable {K : PySem.W.Frag} {H0 : Hp} {A0 : List Addr} {av : Av} {ad : Ads} {Γ : Slots} {C : Store} {σ : L2.St} {H : Hp}
theorem den_kDs {H0 : Hp} {av : Av} {ad : Ads} {H : Hp} : ∀ {vs : List V} {ks : List Key}, DenAll K H0 av ad H vs (ks.map kD) → vs = ks.map kV
  | _, [], .nil => rfl
  | _, k :: ks, .cons a b => by rw [List.map_cons, den_kD a, den_kDs b]
theorem tAt_den {k : List Key} : ∀ {kvs : List (List Key × V)} {xs : List D}, DenAll K H0 av ad H (kvs.map (·.2)) xs →
    (∀ d, tAt k (kvs.map (·.1)) xs = some d → ∃ v, valV kvs k = some v ∧ Den K H0 av ad H v d) ∧ (tAt k (kvs.map (·.1)) xs = none → valV kvs k = none)
  | [], xs, x => ⟨fun d h => by simp [tAt] at h, fun _ => valV_nil⟩
  | p :: r, xs, x => by
    rw [List.map_cons] at x
    cases x with
    | @cons _ _ d ds a b =>
      have ih := tAt_den (k := k) b
      by_cases e : p.1 = k
      · refine ⟨fun d' h => ?_, fun h => ?_⟩
        · simp only [List.map_cons, tAt, if_pos e, Option.some.injEq] at h
          subst h
          exact ⟨p.2, valV_pos e, a⟩
        · simp only [List.map_cons, tAt, if_pos e] at h
          cases h
      · refine ⟨fun d' h => ?_, fun h => ?_⟩
        · simp only [List.map_cons, tAt, if_neg e] at h
          rw [valV_neg e]
          exact ih.1 d' h
        · simp only [List.map_cons, tAt, if_neg e] at h
          rw [valV_neg e]
          exact ih.2 h
theorem any_memT {kvs : List (List Key × V)} {k : List Key} : (kvs.any fun kv => decide (kv.1 = k)) = hasT k (kvs.map (·.1)) := by
  unfold hasT
  rw [List.any_map]
  rfl
theorem tput_keys {kvs : List (List Key × V)} {k : List Key} {v : V} : (putK kvs k v).map (·.1) = tPut k (kvs.map (·.1)) := by
  unfold putK tPut
  rw [any_memT]
  by_cases h : hasT k (kvs.map (·.1)) = true
  · rw [if_pos h, if_pos h, List.map_map]
    apply List.map_congr_left
    intro kv _
    show (if kv.1 = k then (kv.1, v) else kv).1 = kv.1
    split <;> rfl
  · rw [if_neg h, if_neg h, List.map_append]
    rfl
theorem tput_den {k : List Key} {v : V} {y : D} {kvs : List (List Key × V)} {xs : List D} (x : DenAll K H0 av ad H (kvs.map (·.2)) xs) (z : Den K H0 av ad H v y) : DenAll K H0 av ad H ((putK kvs k v).map (·.2)) (yPut k y (kvs.map (·.1)) xs) := by
  have all : ∀ {kvs : List (List Key × V)} {xs : List D}, DenAll K H0 av ad H (kvs.map (·.2)) xs → DenAll K H0 av ad H ((kvs.map fun kv => if kv.1 = k then (kv.1, v) else kv).map (·.2)) (((kvs.map (·.1)).zip xs).map fun z => if z.1 = k then y else z.2) := by
    intro kvs
    induction kvs with
    | nil => intro xs x; exact .nil
    | cons p r ih =>
      intro xs x
      rw [List.map_cons] at x
      cases x with
      | @cons _ _ d ds a b =>
        simp only [List.map_cons, List.zip_cons_cons]
        refine .cons ?_ (ih b)
        by_cases e : p.1 = k
        · rw [if_pos e, if_pos e]; exact z
        · rw [if_neg e, if_neg e]; exact a
  unfold putK yPut
  rw [any_memT]
  by_cases h : hasT k (kvs.map (·.1)) = true
  · rw [if_pos h, if_pos h]
    exact all x
  · rw [if_neg h, if_neg h, List.map_append]
    exact x.append (.cons z .nil)
theorem Rep.dt (R : Rep K H0 A0 av ad Γ C σ H) {v : V} {d : D} {ks : List (List Key)} {xs : List D} (x : Den K H0 av ad H v d) (e : dtOf C d = some (ks, xs)) :
    ∃ a kvs, v = .ref a ∧ Rd H a (.dT kvs) ∧ kvs.map (·.1) = ks ∧ DenAll K H0 av ad H (kvs.map (·.2)) xs := by
  cases d with
  | dt o ks' xs' =>
    cases e
    cases x with
    | dt r n o k y => exact ⟨_, _, rfl, r, k, y⟩
  | ptr k =>
    cases x with
    | ptr h =>
      simp only [dtOf] at e
      split at e
      · rename_i ks' xs' hc
        cases e
        obtain ⟨kvs, e1, e2, r⟩ := R.cells _ _ _ h hc
        exact ⟨_, kvs, rfl, .inl e1, e2, r⟩
      · cases e
  | bad => cases e
  | non => cases e
  | bl _ => cases e
  | int _ => cases e
  | str _ => cases e
  | lst _ _ => cases e
  | tup _ => cases e
  | dk _ _ _ => cases e
  | obj _ _ _ => cases e
  | exc _ _ _ => cases e
theorem Rep.tget (R : Rep K H0 A0 av ad Γ C σ H) {v u : V} {d : D} {ks : List (List Key)} {xs : List D} {k : List Key} (x : Den K H0 av ad H v d) (e : dtOf C d = some (ks, xs)) (y : Den K H0 av ad H u (.tup (k.map kD))) :
    ∃ a o, v = .ref a ∧ IsD H a ∧ DGet H a u o ∧ o.isSome = (tAt k ks xs).isSome ∧ (∀ d', tAt k ks xs = some d' → ∃ w, o = some w ∧ Den K H0 av ad H w d') ∧ (tAt k ks xs = none → o = none) := by
  obtain ⟨a, kvs, rfl, rd, rfl, r⟩ := R.dt x e
  cases y with
  | @tup b vs _ ht hd =>
    have ek := den_kDs hd
    subst ek
    obtain ⟨h1, h2⟩ := tAt_den (k := k) r
    refine ⟨a, valV kvs k, rfl, .inr ⟨kvs, rd⟩, .inr ⟨kvs, k, b, rd, rfl, ht.1, rfl⟩, ?_, h1, h2⟩
    cases q : tAt k (kvs.map (·.1)) xs with
    | none => rw [h2 q]; rfl
    | some d' => obtain ⟨w, e, _⟩ := h1 d' q; rw [e]; rfl
end
section
variable {K : PySem.W.Frag} {X : Cx} {o i e f : Expr} {td ty tk tv tx : TE} {Eo Ei Ek Ev Ef : EV} {pos apos cpos p : Pos}
def gvSubT (Eo Ei : EV) : GV := fun d Γ C Q => Eo Γ C fun x C1 => Ei Γ C1 fun y C2 => ∃ (k : Nat) (ks : List (List Key)) (xs : List D) (q : List Key), x = .ptr k ∧ y = .tup (q.map kD) ∧ C2[k]? = some (.dt ks xs) ∧ ks.length < sizeLine ∧ Q Γ (C2.set k (.dt (tPut q ks) (yPut q d ks xs)))
theorem vg_subT (hu : X.A.units + 1 < cLine) (ho : VE K X o td Eo) (hi : VE K X i ty Ei) (ha : ∀ v, assign (.Subscript o i pos) X.env v = (do
      let ov ← holding [v] (eval o X.env)
      let iv ← holding [v, ov] (eval i X.env)
      standAt pos
      holding [v, ov, iv] (setItem ov iv v)
      release [v, ov, iv] []) := by intro _; rfl) : VG K X (.Subscript o i pos) (gSub td ty rSetD) (gvSubT Eo Ei) := by
  refine ⟨pg_sub ho.pe hi.pe (set_dict hu) ha, fun H0 A0 av ad Γ C σ H v d Q3 Q R dv h q => ?_⟩
  refine ho.sim H0 A0 av ad Γ C σ H _ _ R h fun vo H1 av1 ad1 d1 C1 R1 l1 e1 h1 => ?_
  refine hi.sim H0 A0 av1 ad1 Γ C1 σ H1 _ _ R1 h1 fun vi H2 av2 ad2 d2 C2 R2 l2 e2 ⟨k, ks, xs, qk, e3, e4, e5, hl, h2⟩ => ?_
  subst e3 e4
  have e1' := e1.le l2
  cases e1' with
  | @ptr a _ hp =>
  cases e2 with
  | @tup b vs _ ht hd =>
    have ek := den_kDs hd
    subst ek
    obtain ⟨kvs, he, rfl, r⟩ := R2.cells k a _ hp e5
    have hlt : k < C2.length := (List.getElem?_eq_some_iff.mp e5).1
    have dv2 := (dv.le l1).le l2
    have fz : Fz av2 H2 av2 (upd H2 a (.dT (putK kvs qk v))) := fun b u h n => ⟨by rw [upd_ne (fun e => n (by rw [e]; exact R2.av_of hp))]; exact h, n⟩
    have R3 := R2.write (o := .dT (putK kvs qk v)) (c := .dt (tPut qk (kvs.map (·.1))) (yPut qk d (kvs.map (·.1)) xs)) hp hlt (fun _ z => nomatch z) fun f => ⟨_, upd_same, tput_keys, (tput_den r dv2).mono f Pre.refl⟩
    have l3 : Le av2 ad2 H2 av2 ad2 (upd H2 a (.dT (putK kvs qk v))) := ⟨fz, Pre.refl, fun b e => by
      by_cases q : b = a
      · subst q; rw [upd_same] at e; cases e
      · rw [upd_ne q] at e; exact e, fun _ h => h, fun _ h => .inl h, fun b u h n => by rw [upd_ne (fun e => n (by rw [e]; exact mem_ads hp))]; exact h⟩
    rw [List.length_map] at hl
    refine ⟨a, _, rfl, ?_, q av2 ad2 Γ _ σ _ R3 ((l1.trans l2).trans l3) h2⟩
    exact DPut.t he ht.1 hl
def eTGet (Eo Ei : EV) : EV := fun Γ C Q => Eo Γ C fun x C1 => Ei Γ C1 fun y C2 => ∃ ks xs k d, dtOf C2 x = some (ks, xs) ∧ y = .tup (k.map kD) ∧ tAt k ks xs = some d ∧ Q d C2
theorem ve_tget (ho : VE K X o td Eo) (hi : VE K X i ty Ei) (hu : X.A.units + 1 < cLine) (hs : NoSl i := by intro _ _; rfl) : VE K X (.Subscript o i pos) (tDGet td ty) (eTGet Eo Ei) := by
  refine ⟨pe_dget hu ho.pe hi.pe hs, fun H0 A0 av ad Γ C σ H Q3 Q R h q => ?_⟩
  refine ho.sim H0 A0 av ad Γ C σ H _ _ R h fun v H1 av1 ad1 d C1 R1 l1 d1 h1 => ?_
  refine hi.sim H0 A0 av1 ad1 Γ C1 σ H1 _ _ R1 h1 fun u H2 av2 ad2 d2 C2 R2 l2 e2 ⟨ks, xs, k, d', e3, e4, e5, h2⟩ => ?_
  subst e4
  obtain ⟨a, o, rfl, _, g, _, h3, _⟩ := R2.tget (d1.le l2) e3 e2
  obtain ⟨w, rfl, dw⟩ := h3 d' e5
  exact ⟨a, w, rfl, g, q w H2 av2 ad2 d' C2 R2 (l1.trans l2) dw h2⟩
def oTIn (neg : Bool) : O2 := fun C x y Q => ∃ ks xs k, dtOf C y = some (ks, xs) ∧ x = .tup (k.map kD) ∧ Q (.bl (neg != (tAt k ks xs).isSome))
theorem sr_tin : SimR K rDIn (oTIn false) := by
  intro H0 A0 av ad Γ C σ H x y dx dy Q3 Q R d1 d2 ⟨ks, xs, k, e1, e2, q3⟩ q
  subst e2
  obtain ⟨a, o, rfl, _, g, hs, _, _⟩ := R.tget d2 e1 d1
  refine ⟨a, o, rfl, g, q _ H _ (fun _ _ h => h) .bl ?_⟩
  rw [hs]
  rw [eqN] at q3
  exact q3
def nSortT : NN := fun C ds Q => ∃ (d : D) (ps : List (Int × Int)) (xs : List D), ds = [d] ∧ dtOf C d = some (ps.map kP, xs) ∧ ∀ qs : List (Int × Int), qs.Perm ps → qs.Pairwise (fun x y => SrtO.lexB y x = false) → Q (.lst (qs.map pD))
end
end L3
namespace L3
open PySem PySem.Spec PyProof.Rows L2
section
variable {K : PySem.W.Frag} {X : Cx} {elt tg iter tg1 iter1 : Expr} {ifs ifs1 : List Expr} {scope : Scope} {own : List (Str × Nat)} {pos spos py : Pos} {wi wi1 : TI} {g g1 : TG} {tt tt1 : TT} {te : TE} {I I1 : IV} {G G1 : GV} {B B1 : BV} {E : EV} {F : FV} {x y : Str}
structure Mid (K : PySem.W.Frag) (H0 : Hp) (A0 : List Addr) (av1 : Av) (ad1 : Ads) (H1 : Hp) (p : Addr) (Γ : Slots) (σ : L2.St) (av : Av) (ad : Ads) (C : Store) (acc : List D) (H : Hp) : Prop where
  rep : Rep K H0 A0 av ad Γ C σ H
  pv : av p
  np : some p ∉ ad
  le : Le av1 ad1 H1 av ad H
  lst : ∃ us, H p = some (.lst us) ∧ DenAll K H0 av ad H us acc
theorem Mid.go {H0 : Hp} {A0 : List Addr} {av1 av av' : Av} {ad1 ad ad' : Ads} {H1 H H' : Hp} {p : Addr} {Γ Γ' : Slots} {σ σ' : L2.St} {C C' : Store} {acc : List D} (m : Mid K H0 A0 av1 ad1 H1 p Γ σ av ad C acc H) (l : Le av ad H av' ad' H') (R' : Rep K H0 A0 av' ad' Γ' C' σ' H') : Mid K H0 A0 av1 ad1 H1 p Γ' σ' av' ad' C' acc H' := by
  obtain ⟨us, e, d⟩ := m.lst
  refine ⟨R', l.avm p m.pv, fun z => (l.adn p z).elim m.np fun e' => (by rw [e] at e'; cases e'), m.le.trans l, us, l.kp p _ e m.np, d.le l⟩
end
end L3
namespace RZ
open PySem PySem.Spec PyProof.Rows L2
section
variable {prog : Program} {w : World} {A : Around} {E : Value → Shared → Prop} {s : Shared}
end
end RZ
namespace L3
open PySem PySem.Spec PyProof.Rows L2
section
variable {K : PySem.W.Frag} {X : Cx} {tpos p pos : Pos} {nm : Str} {a b : Expr} {tl : TA} {L : AV}
end
def kf2 : List D → List Nat
  | _ :: .ptr k :: _ => [k]
  | _ => []
end L3
namespace L3
open PySem PySem.Spec PyProof.Rows L2
section
variable {K : PySem.W.Frag} {X : Cx} {es : List Expr} {gs : TGs} {Gs : GVs} {pos : Pos}
end
end L3
namespace L3
open PySem PySem.Spec PyProof.Rows L2
section
variable {h : Bool → Bool} {g g' : Nat → D}
end
section
variable {K : PySem.W.Frag} {X : Cx} {CX : CXT} {k n : Nat} {f : Addr} {fd : FuncData} {ps : List Str} {P : PV} {x : Str} {p pos : Pos} {e : Expr} {es : List Expr} {tl : TA} {L : AV}
end
end L3
namespace L3
open PySem PySem.Spec PyProof.Rows L2
section
variable {K : PySem.W.Frag} {X : Cx} {kx vx tg iter c : Expr} {ifs : List Expr} {scope : Scope} {own : List (Str × Nat)} {pos spos py : Pos} {wi : TI} {g : TG} {tt : TT} {tk tv : TE} {I : IV} {G : GV} {B : BV} {Ek Ev : EV} {F : FV} {x y : Str}
end
section
variable {K : PySem.W.Frag}
end
end L3
namespace L3
open PySem PySem.Spec PyProof.Rows L2
section
variable {K : PySem.W.Frag}
end
end L3
namespace L3
open PySem PySem.Spec PyProof.Rows L2
end L3
namespace L3
open PySem PySem.Spec PyProof.Rows L2
abbrev PVX := List D → Store → (D → Store → Prop) → (XD → Store → Prop) → Prop
def PVX.calm (P : PVX) : PV := fun ds C Q => P ds C Q fun _ _ => False
def Sp3X (K : PySem.W.Frag) (n : Nat) (P : PVX) : Sp := fun vs H Q E => ∃ (A0 : List Addr) (av : Av) (ds : List D) (C : Store) (Q3 : D → Store → Prop) (X3 : XD → Store → Prop), A0.length = n ∧ Rep K H A0 av (A0.map some) (ds.map some) C (vs.map some) H ∧ P ds C Q3 X3 ∧
  (∀ (av' : Av) (v : V) (H' : Hp) (d : D) (C' : Store), Rep K H A0 av' (A0.map some) [] C' [] H' → Fz av H av' H' → (∀ a, av a → av' a) → Den K H av' (A0.map some) H' v d → Q3 d C' → Q v H') ∧
  ∀ (av' : Av) (H' : Hp) (cls : Value) (d : Option Addr) (x : XD) (C' : Store), Rep K H A0 av' (A0.map some) [] C' [] H' → Fz av H av' H' → (∀ a, av a → av' a) → DenX K H av' (A0.map some) H' cls d x → X3 x C' → E cls d H'
theorem sp_calm {K : PySem.W.Frag} {n : Nat} {P : PVX} {vs : List V} {H : Hp} {Q : VK} {E E' : XK} (h : Sp3 K n P.calm vs H Q E) : Sp3X K n P vs H Q E' := by
  obtain ⟨A0, av, ds, C, Q3, e, R, hp, q⟩ := h
  exact ⟨A0, av, ds, C, Q3, _, e, R, hp, q, fun _ _ _ _ _ _ _ _ _ _ z => z.elim⟩
section
variable {P : Program} {w : World} {K : PySem.W.Frag} {mg : Str → Option Value} {base : Heap} {k n : Nat} {f : Addr} {fd : FuncData} {ps : List Str}
theorem calmF {PX : PVX} (F : FnOkG P w K mg base (L2.CX P w) k f fd ps (Sp3X K n PX)) : FnOkG P w K mg base CX0 k f fd ps (Sp3 K n PX.calm) := by
  refine ⟨fun vs H Q E h => F.len vs H Q E (sp_calm h), fun A outer s H args us vs Q E hr e0 hb r h => ?_⟩
  refine codeAny_mono (F.run A outer s H args us vs Q (fun _ _ _ => False) hr e0 hb r (sp_calm h)) fun r s' hq => ?_
  rcases r with e | fl
  · obtain ⟨_, _, _, _, _, _, _, _, _, _, _, _, z⟩ := hq
    exact z.elim
  · cases fl <;> exact hq
end
section
variable {P : Program} {w : World} {K : PySem.W.Frag} {mg : Str → Option Value} {base : Heap} {x qual : Str} {params : Arguments} {body : List Stmt} {scope : Scope} {dvs : List V} {kws : List (Str × V)} {f : Addr} {fd : FuncData}
end
section
variable {X : Cx} {CX : CXT} {k : Nat} {f : Addr} {fd : FuncData} {ps : List Str} {sp : Sp} {E : L2.St → XK} {x : Str} {p pos : Pos} {e : Expr} {es : List Expr} {t : TA}
end
section
variable {K : PySem.W.Frag} {X : Cx} {k : Nat} {f : Addr} {fd : FuncData} {ps : List Str} {P : PVX} {x : Str} {p pos pos2 : Pos} {e : Expr} {es : List Expr} {tl : TA} {L : AV} {W0 : WX}
variable (tk : Takes X W0) (F : FnOkG X.prog X.w X.K X.mg X.base (L2.CX X.prog X.w) k f fd ps (Sp3X K 0 P)) (hr : RoomG k X.A) (hm : X.mg x = some (.ref f)) (hk : PySem.W.keepIn X.K (.ref f) = true) (hb : Binds X.K fd ps []) (ha : VA K X (e :: es) tl L)
include tk F hr hm hk hb ha
end
section
variable {K : PySem.W.Frag} {X : Cx} {x : Str} {c : Value} {body suite : List Stmt} {b₀ : Stmt} {np pos pos' : Pos} {tb : WX → TS} {Tb : WX → SV} {us : TS} {U : SV} {Wout : WX} {ms : List (Str × Bool)}
end
end L3
namespace L3
open PySem PySem.Spec PyProof.Rows L2
theorem cal_never {P : Program} {w : World} {K : PySem.W.Frag} {mg : Str → Option Value} {base : Heap} {k n : Nat} {x : Str} {st : Stmt} {ps : List Str} {f : Addr} {fd : FuncData} (F : FnD K x st f fd) (g : mg x = some (.ref f)) (b : Binds K fd ps []) : Cal P w K mg base k x st ps n fun _ _ _ => False :=
  ⟨f, fd, ⟨fun _ _ _ _ ⟨_, _, _, _, _, _, _, h, _⟩ => h.elim, fun _ _ _ _ _ _ _ _ _ _ _ _ _ ⟨_, _, _, _, _, _, _, h, _⟩ => h.elim⟩, g, F.kp, b, F⟩
def isLstO (o : Obj) : Bool := match o.cls with
  | .type c => decide (c = "list")
  | _ => false
def frL (g : Addr → Option Obj) (as : List Addr) : PySem.W.Frag := (He.frG g as).filter fun q => !isLstO q.2
theorem frL_mem {g : Addr → Option Obj} {as : List Addr} {a : Addr} {o : Obj} (h : (frL g as).lookup a = some o) : g a = some o ∧ isLstO o = false := by
  obtain ⟨h1, h2⟩ := List.mem_filter.mp (He.lookup_mem h)
  refine ⟨He.frG_mem h1, ?_⟩
  have h3 : (!isLstO o) = true := h2
  simpa using h3
def NoL (K : PySem.W.Frag) : Prop := ∀ a o, K.lookup a = some o → isLstO o = false
def obsL (n : Nat) (fa : List He.Fa) (fn : List He.DefD) (g : Addr → Option Obj) : He.AlD := He.obsD fa fn (frL g (He.asD g n))
def hookL (n : Nat) (fa : List He.Fa) (fn : List He.DefD) : PySem.W.Hook where
  α := He.AlD
  obs := fun s => obsL n fa fn s.heap.get?
  val := fun _ => He.valD fn
  says := fun _ h => ∃ K : PySem.W.Frag, K.In h ∧ He.SaysD fa fn K ∧ NoL K
  of := fun _ _ e => ⟨_, fun _ _ h => (frL_mem h).1, e, fun _ _ h => (frL_mem h).2⟩
  keeps := fun _ _ _ ⟨K, hK, c, n⟩ k => ⟨K, PySem.W.Frag.In.keeps hK k, c, n⟩
theorem obsL_eq {n : Nat} {fa : List He.Fa} {fn : List He.DefD} {g : Addr → Option Obj} {s : Shared} (h : ∀ a, g a = s.heap.get? a) : obsL n fa fn g = (hookL n fa fn).obs s := by
  have e : g = s.heap.get? := funext h
  rw [e] <;> rfl
theorem law_callG {P : Program} {w : World} {K : PySem.W.Frag} {mg mb : Str → Option Value} {k : Nat} {fa a : Addr} {fd : FuncData} {x : Str} {Pv : PV} {s₁ : Shared} {vs : List Value} {ns : List Int}
    (KX : K.In s₁.heap) (hns : s₁.heap.Ns mainGlobals mg) (hb : s₁.heap.Ns builtinsNs mb) (hbb : ∀ x : Str, x ≠ "__name__" → mb x = bootBuiltins x) (hlim : s₁.heap.NoLimit) (hg : s₁.gens = #[])
    (ha : s₁.heap.get? a = some { cls := .type "list", data := .seq vs.toArray }) (hK : K.lookup a = none) (hi : IntsAre vs ns) (hl : ns.length ≤ sizeLine) (hr : Room k callerA)
    (F : ∀ base : Heap, K.In base → base.Ns mainGlobals mg → FnOkG P w K mg base CX0 k fa fd [x] (Sp3 K 0 Pv)) (hbind : ∀ (s : Shared) (u : Value), BindsTo s fd ⟨[u], []⟩ [(x, u)])
    (hP : Pv [.lst true (ns.map .int)] [] fun d _ => d = .bl true) :
    codeAny (model P w) callerA (.call (.ref fa) ⟨[.ref a], []⟩) (fun r s' => r = .ok (.ret (.bool true)) ∧ OldK s₁.heap s'.heap ∧ s'.os = s₁.os ∧ AllBare s'.gens) s₁ := by
  have rv := vals_ints hi
  let ob : Obj := { cls := .type "list", data := .seq vs.toArray }
  let H : Hp := fun b => if b = a then some (.frz ob (.lst (ns.map V.int))) else none
  have Ha : H a = some (.frz ob (.lst (ns.map V.int))) := if_pos rfl
  have Hn : ∀ b, b ≠ a → H b = none := fun b h => if_neg h
  have hok : HOk P w H s₁.heap := fun b u z => by
    by_cases h : b = a
    · subst h
      rw [Ha] at z
      cases z
      exact ⟨ha, by rw [List.length_map]; exact hl, vs, _, rv, ha⟩
    · rw [Hn b h] at z; cases z
  have noA : ∀ {b : Addr} {o : Obj}, s₁.heap.get? b = some o → (∀ q n, o.data ≠ .seq q n) → H b = none := fun {b o} e d => by
    refine Hn b fun h => ?_
    subst h
    rw [ha] at e
    cases e
    exact d _ _ rfl
  have nsK : ∀ {b : Addr} {m : Str → Option Value}, s₁.heap.Ns b m → (hidT s₁.heap H).Ns b m := fun ⟨o, es, ep, e, d, r⟩ => ⟨o, es, ep, hidT_get e (noA e fun q n z => by rw [d] at z; cases z), d, r⟩
  have hKb : K.In (hidT s₁.heap H) := fun b o e => hidT_get (KX b o e) (Hn b fun h => by subst h; rw [hK] at e; cases e)
  have hM : Mod K mg (hidT s₁.heap H) := ⟨hKb, nsK hns, ⟨mb, nsK hb, hbb⟩, let ⟨mc, h1, h2⟩ := hlim; ⟨mc, nsK h1, h2⟩⟩
  have e0 : Env0 P w K mg (hidT s₁.heap H) callerA [] s₁ H := ⟨rfl, hM, fun b o e => of_hidT e, Nat.le_of_eq (hidT_size _ _), trivial, fun b hb => absurd (show b ∈ ([] : List Addr) from hb) (by simp), hok, .of_eq hg⟩
  have R : Rep K H [] (fun _ => False) [] [some (.lst true (ns.map .int))] [] [some (.ref a)] H := by
    refine ⟨fun b h => by simp at h, fun b h => h.elim, fun b xs h => h.elim, fun i j b h => by simp at h, rfl, fun i b h => by simp at h, fun i b h => by simp at h, fun b o h _ => h, fun b h => h, fun i h => by simp at h, fun i b c h => by simp at h, rfl, fun i d h => ?_⟩
    cases i with
    | zero =>
      cases h
      exact ⟨.ref a, rfl, .lst ⟨.inr ⟨ob, Ha⟩, fun z => z⟩ (fun z => nomatch z) ints_den⟩
    | succ i => simp at h
  refine codeAny_mono ((F _ hKb (nsK hns)).run callerA [] s₁ H ⟨[.ref a], []⟩ [.ref a] [.ref a] (fun v _ => v = .bl true) (fun _ _ _ => False) ⟨hr, rfl⟩ e0 (hbind s₁ (.ref a)) (.cons rfl .nil)
    ⟨[], fun _ => False, [.lst true (ns.map .int)], [], fun d _ => d = .bl true, rfl, R, hP, fun av' v H' d C' _ _ _ x e => by subst e; cases x; rfl⟩) fun r s' h => ?_
  cases r with
  | error e => exact False.elim h
  | ok fl =>
    cases fl with
    | ret u =>
      obtain ⟨v, H', os, bare, un, hok', r', q⟩ := h
      have q' : v = .bl true := q
      subst q'
      obtain rfl : u = Value.bool true := r'
      refine ⟨rfl, OldK.of_keep fun b o e => ?_, os, bare⟩
      by_cases hba : b = a
      · subst hba
        have z2 := un.frzs b ob _ Ha
        obtain ⟨e1, _⟩ := hok b _ Ha
        obtain ⟨e2, _⟩ := hok' b _ z2
        rw [e] at e1
        cases e1
        exact e2
      · exact un.keep b o e (Hn b hba) (by intro z; exact absurd (show b ∈ ([] : List Addr) from z) (by simp)) (by simp)
    | _ => exact False.elim h
theorem walk_ofG {l : PySem.W.OpenLaw} {n k : Nat} {q : Program} {loose : List Str} {XP : (Str → Option Value) → Heap → Prop} {YP : World → Heap → Prop} {d : DefRec} {x : Str} {Pv : PV}
    (hn : l.most = some n) (hn2 : n ≤ sizeLine) (hdf : d.params.defaults = []) (hr : Room k callerA)
    (F : ∀ (w : World) (mg : Str → Option Value) (fa : Addr) (h : Heap), YP w h → h.Ns mainGlobals mg → mg d.name = some (.ref fa) →
      ∃ (K : PySem.W.Frag) (fd : FuncData), K.In h ∧ NoL K ∧ (∀ (s : Shared) (u : Value), BindsTo s fd ⟨[u], []⟩ [(x, u)]) ∧ ∀ base : Heap, K.In base → base.Ns mainGlobals mg → FnOkG l.prog w K mg base CX0 k fa fd [x] (Sp3 K 0 Pv))
    (hP : ∀ ns : List Int, ns.length ≤ n → Pv [.lst true (ns.map .int)] [] fun d _ => d = .bl true) :
    PySem.W.WalkO q loose XP YP l.row.toRowW d [] (fun f vs => PySem.call f vs) := by
  refine Att.attach_call hn hdf fun w s₀ s₁ mg mb fa o pm cd doc a vs ns G Y ho hd hcd hmg hobj hints hlen hg => ?_
  obtain ⟨K, fd, KX, hL, hb, hF⟩ := F w mg fa _ Y G.T.g hmg
  have hK : K.lookup a = none := by
    cases e : K.lookup a with
    | none => rfl
    | some o =>
      have h1 := hL a o e
      have h2 := KX a o e
      rw [hobj] at h2
      cases h2
      cases h1
  exact law_callG KX G.T.g G.T.b G.T.builtins G.T.nolimit hg hobj hK hints (Nat.le_trans hlen hn2) hr hF hb (hP ns hlen)
end L3
namespace L2
open PySem PySem.Spec PyProof.Rows
section
variable {P : Program} {w : World} {K : PySem.W.Frag} {mg : Str → Option Value} {base : Heap} {qual : Str} {params : Arguments} {body : List Stmt} {scope : Scope} {f : Addr} {fd : FuncData} {fld y msg : Str} {k : Nat}
end
end L2
namespace L3
open PySem PySem.Spec PyProof.Rows L2
section
variable {K : PySem.W.Frag} {X : Cx} {nm f y : Str} {fI : Addr} {k : Nat} {fd : FuncData} {e : Expr} {es : List Expr} {tl : TA} {L : AV} {p pos pos2 : Pos} {W0 : WX}
end
section
variable {K : PySem.W.Frag} {X : Cx} {i j : Nat} {nm f n x : Str} {fI : Addr} {p pos : Pos} {e : Expr} {val : XD → Option D} {t : Addr → Value → Option Addr → TE}
end
section
variable {K : PySem.W.Frag} {X : Cx} {x n : Str} {c : Value} {i : Nat} {body suite : List Stmt} {b₀ : Stmt} {np pos pos' : Pos} {tb : WX → TS} {Tb : WX → SV} {us : Addr → Value → Option Addr → TS} {U : XD → SV} {Wout : WX} {ms : List (Str × Bool)}
end
end L3
namespace L3
open PySem PySem.Spec PyProof.Rows L2
def CalX (P : Program) (w : World) (K : PySem.W.Frag) (mg : Str → Option Value) (base : Heap) (k : Nat) (x : Str) (st : Stmt) (ps : List Str) (n : Nat) (Pv : PVX) : Prop :=
  ∃ (f : Addr) (fd : FuncData), FnOkG P w K mg base (L2.CX P w) k f fd ps (Sp3X K n Pv) ∧ mg x = some (.ref f) ∧ PySem.W.keepIn K (.ref f) = true ∧ Binds K fd ps [] ∧ FnD K x st f fd
theorem CalX.calm {P : Program} {w : World} {K : PySem.W.Frag} {mg : Str → Option Value} {base : Heap} {k : Nat} {x : Str} {st : Stmt} {ps : List Str} {n : Nat} {Pv : PVX} (h : CalX P w K mg base k x st ps n Pv) : Cal P w K mg base k x st ps n Pv.calm := by
  obtain ⟨f, fd, G, g, kp, b, F⟩ := h
  exact ⟨f, fd, calmF G, g, kp, b, F⟩
theorem noptrs_all : ∀ ds : List D, noptrs ds = ds.all noptr
  | [] => rfl
  | d :: ds => by
    have := noptrs_all ds
    simp [noptrs, this]
section
variable {K : PySem.W.Frag} {X : Cx} {tg l : Expr} {tl : TA} {L : AV} {p pos : Pos}
end
end L3
namespace L3
open PySem PySem.Spec PyProof.Rows L2
end L3
namespace L3
open PySem PySem.Spec PyProof.Rows L2
def adv (ad : Ads) : Av := fun a => some a ∈ ad
section
variable {K : PySem.W.Frag} {H0 : Hp} {A0 : List Addr} {av : Av} {ad : Ads} {Γ : Slots} {C : Store} {σ : L2.St} {H : Hp}
theorem Rep.bare (R : Rep K H0 A0 av ad Γ C σ H) : Rep K H0 A0 (adv ad) ad [] C [] H := (R.unban (av' := adv ad) (fun a h => R.sub a h) (fun a h => h)).slots rfl fun i d h => by simp at h
end
section
variable {P : Program} {w : World} {K : PySem.W.Frag} {mg : Str → Option Value} {base : Heap} {x qual : Str} {params : Arguments} {body : List Stmt} {scope : Scope} {dvs : List V} {kws : List (Str × V)} {f : Addr} {fd : FuncData}
end
section
variable {K : PySem.W.Frag} {H0 : Hp} {A0 : List Addr} {av : Av} {ad : Ads} {Γ : Slots} {C : Store} {σ : L2.St} {H : Hp}
end
end L3
namespace L3
open PySem PySem.Spec PyProof.Rows L2
section
variable {K : PySem.W.Frag} {X : Cx} {e o value : Expr} {es : List Expr} {ta tv : TE} {Eo Ev : EV} {tl : TA} {L : AV} {nm f m x : Str} {pos pos' p apos : Pos} {k n : Nat} {fa : Addr} {fd : FuncData} {ps : List Str} {P : PV}
end
end L3
namespace L3
open PySem PySem.Spec PyProof.Rows L2
section
variable {W0 : WX} {i n : Nat} {nm f : Str} {P : PVX} {L : AV} {De : En} {Γ : Slots} {C : Store} {ms : List (Str × Bool)} {Tb : WX → SV} {U : SV} {Ux : XD → SV} {val : XD → Option D} {x : XD}
end
end L3
namespace L3
open PySem PySem.Spec PyProof.Rows L2
section
variable {K : PySem.W.Frag} {H0 : Hp} {A0 : List Addr} {av : Av} {ad : Ads} {Γ : Slots} {C : Store} {σ : L2.St} {H : Hp}
end
section
variable {K : PySem.W.Frag} {X : Cx} {e o value : Expr} {es : List Expr} {ta tv : TE} {Eo Ev : EV} {tl : TA} {L : AV} {nm f m x : Str} {pos pos' p apos : Pos} {k n : Nat} {fa : Addr} {fd : FuncData} {ps : List Str} {P : PV}
end
section
variable {K : PySem.W.Frag} {X : Cx} {k : Nat} {f : Addr} {fd : FuncData} {ps : List Str} {P : PVX} {x : Str} {p pos pos2 : Pos} {e : Expr} {es : List Expr} {tl : TA} {L : AV} {W0 : WX}
variable {De : En} {Γ : Slots} {C : Store} {i : Nat}
variable (tk : Takes X W0) (F : FnOkG X.prog X.w X.K X.mg X.base (L2.CX X.prog X.w) k f fd ps (Sp3X K 0 P)) (hr : RoomG k X.A) (hm : X.mg x = some (.ref f)) (hk : PySem.W.keepIn X.K (.ref f) = true) (hb : Binds X.K fd ps []) (ha : VA K X (e :: es) tl L)
include tk F hr hm hk hb ha
end
section
variable {K : PySem.W.Frag} {X : Cx} {e f e2 f2 : Expr} {pos : Pos} {tk tv tl tw : TE} {Ek Ev El Ew : EV}
end
end L3
namespace L2
open PySem PySem.Spec PySem.Calls PyProof.Rows
section
variable {pr : Program} {wd : World} {Ar : Around} {Ex : Value → Shared → Prop} {sh : Shared} {Kf : PySem.W.Frag} {xa Da : Addr} {obx : Obj} {odx : Option Obj}
end
end L2
namespace L3
open PySem PySem.Spec PyProof.Rows L2
def kitB (K : PySem.W.Frag) (nm c : Str) (b : Bool) : Bool := decide (PySem.W.kitOne K (.ref (He.ga K nm)) (.ref (He.ga K c)) = some b)
section
variable {K : PySem.W.Frag} {X : Cx} {i j : Nat} {nm f n x c : Str} {p p2 p3 pos : Pos} {e e2 e3 : Expr} {val u : XD → Option D} {bv bu : XD → Option Bool} {t ta tb : Addr → Value → Option Addr → TE} {tt tu : Addr → Value → Option Addr → TT} {ms : List (Str × Bool)}
end
end L3
namespace L2
open PySem PySem.Spec PyProof.Rows
end L2
namespace L3
open PySem PySem.Spec PyProof.Rows L2
section
variable {K : PySem.W.Frag} {X : Cx} {e f : Expr} {pos : Pos} {tk tv : TE} {Ek Ev : EV}
end
end L3
namespace L3
open PySem PySem.Spec PyProof.Rows L2
end L3
namespace L2
open PySem PySem.Spec PyProof.Rows
end L2
namespace L3
open PySem PySem.Spec PyProof.Rows L2
section
variable {K : PySem.W.Frag}
end
end L3
namespace L2
open PySem PySem.Spec PyProof.Rows
abbrev tkd (P : Program) (w : World) := tupleKind (mixKind P w)
def mergedH (acc rest : List (List Key × Addr × Value)) : List (List Key × Addr × Value) := rest.foldl (fun a q => storedH a q.1 q.2.1 q.2.2) acc
def mergeT (acc : List (List Key × V)) (rest : List (List Key × V)) : List (List Key × V) := rest.foldl (fun a q => putK a q.1 q.2) acc
theorem storedH_le (xs : List (List Key × Addr × Value)) (k : List Key) (a : Addr) (v : Value) : (storedH xs k a v).length ≤ xs.length + 1 := by
  unfold storedH
  split <;> simp
theorem storedH_mem {xs : List (List Key × Addr × Value)} {k : List Key} {a : Addr} {v : Value} {x : List Key × Addr × Value} (h : x ∈ storedH xs k a v) : x.2.1 = a ∨ ∃ y, y ∈ xs ∧ x.2.1 = y.2.1 := by
  unfold storedH at h
  split at h
  · obtain ⟨y, hy, rfl⟩ := List.mem_map.mp h
    refine .inr ⟨y, hy, ?_⟩
    unfold putAt
    split <;> rfl
  · rcases List.mem_append.mp h with h | h
    · exact .inr ⟨x, h, rfl⟩
    · rw [List.mem_singleton.mp h]
      exact .inl rfl
theorem tkey_keep {P : Program} {w : World} {h h' : Heap} {k : List Key} {a : Addr} (x : (tkd P w).is h k a) (e : ∀ o, h.get? a = some o → h'.get? a = some o) : (tkd P w).is h' k a :=
  let ⟨o, its, n, h1, h2, h3, h4⟩ := x; ⟨o, its, n, e o h1, h2, h3, h4⟩
theorem dictH_keep {P : Program} {w : World} {h h' : Heap} {d : Addr} {xs : List (List Key × Addr × Value)} (x : h.DictOfH (tkd P w) d xs) (e : ∀ o, h.get? d = some o → h'.get? d = some o) (ek : ∀ z, z ∈ xs → ∀ o, h.get? z.2.1 = some o → h'.get? z.2.1 = some o) : h'.DictOfH (tkd P w) d xs :=
  let ⟨o, es, ep, h1, h2, h3, h4, h5, h6⟩ := x; ⟨o, es, ep, e o h1, h2, h3, h4, fun z hz => tkey_keep (h5 z hz) (ek z hz), h6⟩
section
variable {prog : Program} {w : World} {A : Around} {E : Value → Shared → Prop}
theorem updT_loop {R : Result → Shared → Prop} {S I l : Addr} {items : Array Value} {res : Value} (hh : A.handled = none) (hu : A.units + 1 < cLine) (hlI : l ≠ I) (hSI : S ≠ I) (hSl : S ≠ l) :
    ∀ (rest : List (List Key × Addr × Value)) (i : Nat) (acc : List (List Key × Addr × Value)) (ix : Int) (t : Tok) (s : Shared), items.size = i + rest.length → acc.length + rest.length ≤ sizeLine →
      (∀ (j : Nat) (q : List Key × Addr × Value), rest[j]? = some q → ∃ (b : Addr), items[i + j]? = some (.ref b) ∧ b ≠ S ∧ b ≠ I ∧ q.2.1 ≠ S ∧ q.2.1 ≠ I ∧ IsTup s.heap b #[.ref q.2.1, q.2.2] ∧ (tkd prog w).is s.heap q.1 q.2.1) →
      (∀ z, z ∈ acc → z.2.1 ≠ I) → s.heap.IsListIter I l i → s.heap.IsList l items → s.heap.DictOfH (tkd prog w) S acc →
      (∀ h' tk, h'.DictOfH (tkd prog w) S (mergedH acc rest) → (∀ b o, b ≠ S → b ≠ I → s.heap.get? b = some o → h'.get? b = some o) → R (.ok (.ret res)) { s with heap := h', toks := tk }) →
      codeAny (model prog w) A (.builtin "dict.update.loop" ⟨[.ref S, .ref I, .int ix t, res], []⟩) R s
  | [], i, acc, ix, t, s, hsz, hln, ht, hacc, hit, hl, hm, hR => by
    refine codeAny_builtin ud_entry ?_
    rw [Around.under_plainId ud_plain _]
    show wpAny _ A.in1 (pyNext (.ref I) >>= _) _ _ s
    refine wpAny_bind (wpAny_pyNext_list_end (A := A.in1) hh hit hl (by first | exact Array.getElem?_eq_none (Nat.le_of_eq hsz) | (simp at hsz; simp; omega)) fun h' he => ?_)
    show wpAny _ A.in1 (Builtin.Dict.addKeywords S [] >>= _) _ _ _
    refine wpAny_bind (wpAny_pure (wpAny_pure ?_))
    exact hR h' s.toks (dictH_keep hm (fun o e => he S o hSI e) fun z hz o e => he _ o (hacc z hz) e) fun b o _ hb e => he b o hb e
  | q :: rest, i, acc, ix, t, s, hsz, hln, ht, hacc, hit, hl, hm, hR => by
    obtain ⟨b, hb, hbS, hbI, hqS, hqI, htup, hk⟩ := ht 0 q rfl
    rw [List.length_cons] at hsz hln
    refine codeAny_builtin ud_entry ?_
    rw [Around.under_plainId ud_plain _]
    show wpAny _ A.in1 (pyNext (.ref I) >>= _) _ _ s
    refine wpAny_bind (wpAny_pyNext_list_item (x := .ref b) hit hl (by simpa using hb) fun h1 hit1 hs1 => ?_)
    have ht1 : IsTup h1 b #[.ref q.2.1, q.2.2] := htup.extBut hs1.extBut hbI
    have hl1 : h1.IsList l items := hl.extBut hs1.extBut hlI
    have hm1 : h1.DictOfH (tkd prog w) S acc := dictH_keep hm (fun o e => hs1.extBut S o hSI e) fun z hz o e => hs1.extBut _ o (hacc z hz) e
    have hk1 : (tkd prog w).is h1 q.1 q.2.1 := tkey_keep hk fun o e => hs1.extBut _ o hqI e
    obtain ⟨o, ho, hc, n, hd⟩ := id ht1
    show wpAny _ A.in1 (holding [Value.ref b] _ >>= _) _ _ _
    refine wpAny_bind (wpAny_holding ?_)
    refine wpAny_bind (wpAny_tryCatch ?_)
    unfold Builtin.Dict.pairItems
    refine wpAny_bind (wpAny_typeOf (T := "tuple") ⟨o, ho, hc⟩ ?_)
    rw [if_pos (by first | decide | rfl | simp)]
    refine wpAny_bind (wpAny_seqItems ho hd (wpAny_pure ?_))
    show wpAny _ A.in1 (holding [.ref q.2.1, q.2.2] (dictSet S (.ref q.2.1) q.2.2)) _ _ _
    refine wpAny_holding (wpAny_dictSet_heap (knd := tkd prog w) (k := q.1) (tupleKind_room_in1 hu) hk1 hm1 (fun h2 hm2 hs2 => ?_) (by omega))
    refine wpAny_pure ⟨plainId_quiet ud_plain _, updT_loop (items := items) hh hu hlI hSI hSl rest (i + 1) (storedH acc q.1 q.2.1 q.2.2) (ix + 1) 0 _ (show items.size = i + 1 + rest.length by omega) ?_ (fun j q' e => ?_) (fun z hz => ?_) ?_ ?_ hm2 fun h' tk hd' k => ?_⟩
    · have z := storedH_le acc q.1 q.2.1 q.2.2
      omega
    · obtain ⟨b', hb', hbS', hbI', hqS', hqI', htup', hk'⟩ := ht (j + 1) q' (by simpa using e)
      refine ⟨b', ?_, hbS', hbI', hqS', hqI', (htup'.extBut hs1.extBut hbI').extBut hs2.extBut hbS', tkey_keep (tkey_keep hk' fun o e => hs1.extBut _ o hqI' e) fun o e => hs2.extBut _ o hqS' e⟩
      rw [show i + 1 + j = i + (j + 1) by omega]
      exact hb'
    · rcases storedH_mem hz with e | ⟨y, hy, e⟩
      · rw [e]; exact hqI
      · rw [e]; exact hacc y hy
    · exact hit1.at fun o' e => hs2.extBut I o' (Ne.symm hSI) e
    · exact hl1.extBut hs2.extBut (Ne.symm hSl)
    · exact hR h' tk hd' fun c oc h3 h4 e => k c oc h3 h4 (hs2.extBut c oc h3 (hs1.extBut c oc h4 e))
theorem call_dict_tups {s : Shared} {l : Addr} {ol : Obj} {items : Array Value} {n : Nat} {prs : List (List Key × Addr × Value)} {Q : Value → Shared → Prop} (hh : A.handled = none) (hu : A.units + 2 < cLine) (hl : s.heap.get? l = some ol) (hc : ol.cls = .type "list") (hd : ol.dict = none)
    (hdat : ol.data = .seq items n) (hsz : items.size = prs.length) (hln : prs.length ≤ sizeLine)
    (ht : ∀ (j : Nat) (q : List Key × Addr × Value), prs[j]? = some q → ∃ (b : Addr), items[j]? = some (.ref b) ∧ IsTup s.heap b #[.ref q.2.1, q.2.2] ∧ (tkd prog w).is s.heap q.1 q.2.1)
    (h : ∀ h' tk, h'.DictOfH (tkd prog w) s.heap.objs.size (mergedH [] prs) → (∀ b o, s.heap.get? b = some o → h'.get? b = some o) → Q (.ref s.heap.objs.size) { s with heap := h', toks := tk }) :
    wpAny (model prog w) A (call (.type "dict") [.ref l]) Q E s := by
  refine callType_codes (Q₁ := fun obj s₁ => obj = .ref s.heap.objs.size ∧ s₁ = { s with heap := s.heap.push { cls := .type "dict", data := .dict #[] } }) PySem.F.kt_called_dict (PySem.F.kt_typeCall_dict_1 _) PySem.F.entry_dict_init (kt_code_dict_new _ ⟨rfl, rfl⟩) ?_
  rintro obj s₁ ⟨rfl, rfl⟩
  have hnew : (s.heap.push { cls := .type "dict", data := .dict #[] }).DictOfH (tkd prog w) s.heap.objs.size [] := Heap.DictOfH.new s.heap
  have k0 : ∀ b o, s.heap.get? b = some o → (s.heap.push { cls := .type "dict", data := .dict #[] }).get? b = some o := fun b o e => Heap.get?_push_of_some _ e
  have tyN : ({ s with heap := s.heap.push { cls := .type "dict", data := .dict #[] } } : Shared).TypeIs (.ref s.heap.objs.size) "dict" := Heap.DictOfH.typeIs (s := { s with heap := s.heap.push { cls := .type "dict", data := .dict #[] } }) hnew
  refine ⟨tyN, PySem.F.args_dict_init_2 _ _, ?_⟩
  unfold Builtin.«dict.__init__»
  refine wpAny_bind ?_
  unfold Builtin.Dict.selfAndRest
  refine wpAny_bind (wpAny_notOrdered_dict tyN ?_)
  show wpAny _ _ (pure (s.heap.objs.size, [Value.ref l])) _ _ _
  refine wpAny_pure ?_
  show wpAny _ _ (Builtin.Dict.updateFrom "dict.__init__" s.heap.objs.size (.ref l) [] .none) _ _ _
  unfold Builtin.Dict.updateFrom
  refine wpAny_bind (wpAny_typeOf (T := "list") ⟨ol, k0 _ _ hl, hc⟩ ?_)
  rw [if_pos (by first | decide | rfl | simp)]
  refine wpAny_bind (miss_list (k0 _ _ hl) hc hdat hd hh fun h1 tk1 hk1 => ?_)
  rw [if_pos (show (none : Option Value).isNone = true from rfl)]
  refine wpAny_bind (wpAny_rule ?_)
  have hl1 : h1.IsList l items := ⟨ol, hk1 _ _ (k0 _ _ hl), hc, n, hdat⟩
  have hS1 : s.heap.objs.size < h1.objs.size := by
    have e : (s.heap.push { cls := .type "dict", data := .dict #[] }).get? s.heap.objs.size = some { cls := .type "dict", data := .dict #[] } := Heap.get?_push_size _ rfl
    exact Heap.lt_size (hk1 _ _ e)
  refine wpAny_bind (wpAny_pyIter_list hl1 ?_)
  have k2 : ∀ b o, h1.get? b = some o → (h1.push { cls := .type "list_iterator", data := .fields #[.ref l, .int 0 0] }).get? b = some o := fun b o e => Heap.get?_push_of_some _ e
  have hlt : l < s.heap.objs.size := Heap.lt_size hl
  have key := updT_loop (prog := prog) (w := w) (A := A.in1) (R := wants (fun r s₂ => r = .none ∧ Q (.ref s.heap.objs.size) s₂) E) (S := s.heap.objs.size) (I := h1.objs.size) (l := l) (items := items) (res := Value.none) hh (show A.in1.units + 1 < cLine from hu)
    (Nat.ne_of_lt (Nat.lt_trans hlt hS1)) (Nat.ne_of_lt hS1) (Nat.ne_of_gt hlt) prs 0 [] 0 0
    { s with heap := h1.push { cls := .type "list_iterator", data := .fields #[.ref l, .int 0 0] }, toks := tk1 } (by rw [hsz, Nat.zero_add]) (by rw [List.length_nil, Nat.zero_add]; exact hln)
    (fun j q e => by
      obtain ⟨b, e1, e2, e3⟩ := ht j q e
      have hb : b < s.heap.objs.size := e2.lt
      have hq : q.2.1 < s.heap.objs.size := by
        obtain ⟨o, _, _, ho, _⟩ := e3
        exact Heap.lt_size ho
      exact ⟨b, by rw [Nat.zero_add]; exact e1, Nat.ne_of_lt hb, Nat.ne_of_lt (Nat.lt_trans hb hS1), Nat.ne_of_lt hq, Nat.ne_of_lt (Nat.lt_trans hq hS1), e2.keeps fun c o z => k2 _ _ (hk1 _ _ (k0 _ _ z)), tkey_keep e3 fun o z => k2 _ _ (hk1 _ _ (k0 _ _ z))⟩)
    (fun z hz => by simp at hz) ⟨_, Heap.get?_push_size _ rfl, rfl, rfl⟩ (hl1.at fun o e => k2 _ _ e) (dictH_keep hnew (fun o e => k2 _ _ (hk1 _ _ e)) fun z hz => by simp at hz)
    (fun h' tk hd' k => ⟨rfl, h h' tk hd' fun b o e => k b o (Nat.ne_of_lt (Heap.lt_size e)) (Nat.ne_of_lt (Nat.lt_trans (Heap.lt_size e) hS1)) (k2 _ _ (hk1 _ _ (k0 _ _ e)))⟩)
  first
    | exact wpAny_pure ⟨plainId_quiet ud_plain _, key⟩
    | exact wpAny_bind (wpAny_pure (wpAny_pure ⟨plainId_quiet ud_plain _, key⟩))
end
section
variable {X : Cx}
theorem tups_of {pins : List (Addr × Obj)} {σ : St} {H : Hp} {s : Shared} (I : Inv X pins σ H s) : ∀ {ps : List Addr} {kvs : List (List Key × V)}, Paired (fun p kv => ∃ b, SqT X.K H p [.ref b, kv.2] ∧ H b = some (.tup (kv.1.map kV))) ps kvs →
    ∃ prs : List (List Key × Addr × Value), KT H kvs prs ∧ prs.length = ps.length ∧ ∀ (j : Nat) (q : List Key × Addr × Value), prs[j]? = some q → ∃ (b : Addr), ps[j]? = some b ∧ IsTup s.heap b #[.ref q.2.1, q.2.2] ∧ (tkd X.prog X.w).is s.heap q.1 q.2.1
  | _, _, .nil => ⟨[], .nil, rfl, fun j q e => by simp at e⟩
  | _, _, .cons (a := p) (b := kv) h t => by
    obtain ⟨prs, r, hl, hp⟩ := tups_of I t
    obtain ⟨b, h, hb⟩ := h
    obtain ⟨its, rv, ht, _⟩ := I.tuple h
    obtain ⟨u, y, ei, ru, ry⟩ := vals2 rv
    subst ei
    cases (show u = Value.ref b from ru)
    refine ⟨(kv.1, b, y) :: prs, .cons ⟨rfl, hb, ry⟩ r, by rw [List.length_cons, List.length_cons, hl], fun j q e => ?_⟩
    cases j with
    | zero =>
      have e' : (kv.1, b, y) = q := Option.some.inj e
      subst e'
      exact ⟨p, rfl, ht, key_of I.hok hb⟩
    | succ j =>
      obtain ⟨b', e1, e2, e3⟩ := hp j q (by simpa using e)
      exact ⟨b', by simpa using e1, e2, e3⟩
theorem KT.merge {H : Hp} : ∀ {rest : List (List Key × V)} {prs : List (List Key × Addr × Value)} {acc : List (List Key × V)} {xs : List (List Key × Addr × Value)}, KT H rest prs → KT H acc xs → KT H (mergeT acc rest) (mergedH xs prs)
  | _, _, _, _, .nil, r => r
  | _, _, acc, xs, .cons (a := p) (b := q) h t, r => by
    obtain ⟨h1, h2, h3⟩ := h
    have z := r.put p.1 h2 h3
    rw [h1] at z
    show KT H (mergeT (putK acc p.1 p.2) _) (mergedH (storedH xs q.1 q.2.1 q.2.2) _)
    rw [h1]
    exact KT.merge t z
theorem mergeT_le : ∀ (rest acc : List (List Key × V)), (mergeT acc rest).length ≤ acc.length + rest.length
  | [], acc => by show acc.length ≤ _; omega
  | p :: rest, acc => by
    have h1 := mergeT_le rest (putK acc p.1 p.2)
    have h2 := length_putK acc p.1 p.2
    show (mergeT (putK acc p.1 p.2) rest).length ≤ _
    rw [List.length_cons]
    omega
def rDictT (K : PySem.W.Frag) : List V → Hp → VK → Prop := fun xs H Q => ∃ (a : Addr) (ps : List Addr) (kvs : List (List Key × V)), xs = [.ref a] ∧ SqL K H a (ps.map V.ref) ∧ Paired (fun p kv => ∃ b, SqT K H p [.ref b, kv.2] ∧ H b = some (.tup (kv.1.map kV))) ps kvs ∧
    ∀ p, H p = none → Q (.ref p) (upd H p (.dT (mergeT [] kvs)))
theorem call_dictT (hcalm : X.calm = true) (hu : X.A.units + 65 < cLine) : CallR X (.type "dict") (rDictT X.K) := by
  intro pins s σ H xs us Q I r q
  obtain ⟨a, ps, kvs, ex, hq, hp, q⟩ := q
  subst ex
  obtain ⟨u, eu, rx⟩ := vals1 r
  subst eu
  cases rx
  obtain ⟨its, rv, pl, hz⟩ := I.list hq
  have ei := refs_at rv
  subst ei
  rw [List.length_map] at hz
  obtain ⟨prs, rel, hl, hpr⟩ := tups_of I hp
  obtain ⟨o, n, ho, hc, hd, hdat⟩ := pl
  refine call_dict_tups (prs := prs) (I.ok.hd hcalm) (by omega) ho hc hd hdat (by simp [hl]) (by rw [hl]; exact hz) (fun j q' e => ?_) fun h' tk hd' k => ?_
  · obtain ⟨b, e1, e2, e3⟩ := hpr j q' e
    exact ⟨b, by simp [e1], e2, e3⟩
  · have hm : (s.heap.objs.size == sysModules) = false := beq_eq_false_iff_ne.mpr (Nat.ne_of_gt I.big)
    have hlen : (mergeT [] kvs).length ≤ sizeLine := by
      refine Nat.le_trans (mergeT_le kvs []) ?_
      rw [List.length_nil, Nat.zero_add, Paired.length rel, hl]
      exact hz
    have hn := I.hok.fresh (Nat.le_refl s.heap.objs.size)
    have rel2 : KT (upd H s.heap.objs.size (.dT (mergeT [] kvs))) (mergeT [] kvs) (mergedH [] prs) := (KT.merge rel (.nil : KT H [] [])).keeps fun c ys ec => by
      rw [upd_ne (ne_of_none ec hn)]
      exact ec
    obtain ⟨q', es, ep', hq', h2, h3, h4, _, h5⟩ := hd'
    exact ⟨.ref s.heap.objs.size, upd H s.heap.objs.size (.dT (mergeT [] kvs)), I.laid (t' := tk) k (Nat.le_refl _) ⟨hlen, hm, _, rel2, q', es, ep', hq', h2, h3, h4, h5⟩, rfl, q _ hn⟩
end
end L2
namespace L3
open PySem PySem.Spec PyProof.Rows L2
def foldT (zs : List (List Key × D)) : List (List Key) × List D := zs.foldl (fun a z => (tPut z.1 a.1, yPut z.1 z.2 a.1 a.2)) ([], [])
def nDictT : NN := fun C ds Q => ∃ (x : D) (zs : List (List Key × D)), ds = [x] ∧ lstOf C x = some (zs.map fun z => .tup [.tup (z.1.map kD), z.2]) ∧ Q (.dt (foldT zs).1 (foldT zs).2)
section
variable {K : PySem.W.Frag} {H0 : Hp} {av : Av} {ad : Ads} {H : Hp}
theorem den_pairsT : ∀ {us : List V} {zs : List (List Key × D)}, DenAll K H0 av ad H us (zs.map fun z => .tup [.tup (z.1.map kD), z.2]) →
    ∃ (ps : List Addr) (kvs : List (List Key × V)), us = ps.map V.ref ∧ Paired (fun p kv => ∃ b, SqT K H p [.ref b, kv.2] ∧ H b = some (.tup (kv.1.map kV))) ps kvs ∧ kvs.map (·.1) = zs.map (·.1) ∧ DenAll K H0 av ad H (kvs.map (·.2)) (zs.map (·.2))
  | _, [], .nil => ⟨[], [], rfl, .nil, rfl, .nil⟩
  | _, z :: zs, .cons a b => by
    obtain ⟨ps, kvs, e1, r, e2, d⟩ := den_pairsT b
    cases a with
    | @tup p vs _ ht hd =>
      cases hd with
      | @cons v1 _ _ _ d1 hd =>
        cases hd with
        | @cons v2 _ _ _ d2 hd =>
          cases hd
          cases d1 with
          | @tup kb ks _ hk hkd =>
            have ek := den_kDs hkd
            subst ek
            exact ⟨p :: ps, (z.1, v2) :: kvs, by rw [List.map_cons, e1], .cons ⟨kb, ht.sq, hk.1⟩ r, by rw [List.map_cons, List.map_cons, e2], .cons d2 d⟩
theorem merge_den : ∀ {kvs : List (List Key × V)} {zs : List (List Key × D)} {acc : List (List Key × V)} {a : List (List Key) × List D}, kvs.map (·.1) = zs.map (·.1) → DenAll K H0 av ad H (kvs.map (·.2)) (zs.map (·.2)) → acc.map (·.1) = a.1 → DenAll K H0 av ad H (acc.map (·.2)) a.2 →
    (mergeT acc kvs).map (·.1) = (zs.foldl (fun a z => (tPut z.1 a.1, yPut z.1 z.2 a.1 a.2)) a).1 ∧ DenAll K H0 av ad H ((mergeT acc kvs).map (·.2)) (zs.foldl (fun a z => (tPut z.1 a.1, yPut z.1 z.2 a.1 a.2)) a).2
  | [], [], _, _, _, _, e, d => ⟨e, d⟩
  | [], _ :: _, _, _, e, _, _, _ => by simp at e
  | _ :: _, [], _, _, e, _, _, _ => by simp at e
  | p :: kvs, z :: zs, acc, a, e, d, ea, da => by
    simp only [List.map_cons, List.cons.injEq] at e
    cases d with
    | cons d1 d2 =>
      refine merge_den (kvs := kvs) (zs := zs) (acc := putK acc p.1 p.2) e.2 d2 ?_ ?_
      · rw [tput_keys, ea, e.1]
      · show DenAll K H0 av ad H _ (yPut z.1 z.2 a.1 a.2)
        rw [← ea, ← e.1]
        exact tput_den da d1
theorem sf_dictT : SimCF K (rDictT K) nDictT := by
  intro H0 A0 av ad Γ C σ H vs ds Q3 Q R d1 ⟨x, zs, e1, e2, q3⟩ q
  subst e1
  obtain ⟨v, rfl, r⟩ := den1 d1
  obtain ⟨a, us, rfl, h1, r1⟩ := R.lst r e2
  obtain ⟨ps, kvs, rfl, pr, ek, dv⟩ := den_pairsT r1
  refine ⟨a, ps, kvs, rfl, .inl h1, pr, fun p np => ?_⟩
  obtain ⟨m1, m2⟩ := merge_den (acc := []) (a := ([], [])) ek dv rfl .nil
  exact q H p (.dT (mergeT [] kvs)) (.dt (foldT zs).1 (foldT zs).2) (fun _ _ h => h) np (fun _ z => nomatch z) ⟨m1, m2⟩ q3
theorem call_dictT3 {X : Cx} (hK : X.K = K) (hc : X.calm = true) (hu : X.A.units + 65 < cLine) : CallR X (.type "dict") (rDictT K) := by subst hK; exact call_dictT hc hu
end
end L3
namespace L3
open PySem PySem.Spec PyProof.Rows L2
section
variable {K : PySem.W.Frag}
end
end L3
namespace L2
open PySem PySem.Spec PyProof.Rows
end L2
namespace L3
open PySem PySem.Spec PyProof.Rows L2
section
variable {K : PySem.W.Frag} {X : Cx} {a : Expr} {ta : TE} {Ea : EV} {p p2 q pos : Pos}
end
end L3
namespace L3
open PySem PySem.Spec PyProof.Rows L2
section
variable {K : PySem.W.Frag} {X : Cx} {k n : Nat} {f : Addr} {fd : FuncData} {ps : List Str} {P : PV} {x : Str} {p pos : Pos} {e : Expr} {es : List Expr} {tl : TA} {L : AV}
end
end L3
namespace L2
open PySem PySem.Spec PyProof.Rows
section
variable {P : Program} {w : World} {A : Around} {E : Value → Shared → Prop} {s : Shared}
end
end L2
namespace L2
open PySem PySem.Spec PyProof.Rows
end L2
namespace L3
open PySem PySem.Spec PyProof.Rows L2
section
variable {K : PySem.W.Frag} {X : Cx} {a : Expr} {ta : TE} {Ea : EV} {p p2 q pos : Pos}
end
end L3
namespace L2
open PySem PySem.W PySem.Spec PyProof.Rows
end L2
namespace L3
open PySem PySem.W PySem.Spec PyProof.Rows L2
section
variable {K : PySem.W.Frag} {X : Cx}
end
end L3
namespace L3
open PySem PySem.Spec PyProof.Rows L2
section
variable {K : PySem.W.Frag}
end
end L3
namespace L2
open PySem PySem.W PySem.Spec PyProof.Rows
end L2
namespace L3
open PySem PySem.Spec PyProof.Rows L2
section
variable {K : PySem.W.Frag}
end
section
variable {K : PySem.W.Frag} {X : Cx} {elts : List Expr} {kk : Nat} {tpos p pos : Pos} {a o : Expr} {tl : TA} {L : AV} {to : TE} {Eo : EV} {nm f : Str}
end
section
variable {K : PySem.W.Frag} {X : Cx} {e : Expr} {es : List Expr} {tl : TA} {L : AV} {p pos : Pos} {x : Str} {k : Nat} {f : Addr} {fd : FuncData} {ps : List Str} {P : PV}
end
end L3
namespace L2
open PySem PySem.W PySem.Spec PyProof.Rows
end L2
namespace L3
open PySem PySem.W PySem.Spec PyProof.Rows L2
section
variable {K : PySem.W.Frag} {X : Cx}
end
end L3
namespace L2
open PySem PySem.Spec PyProof.Rows
def keyP : Key → PyData
  | .inl i => .int i
  | .inr x => .str x
mutual
inductive DpX (K : PySem.W.Frag) (H : Hp) : V → PyData → Prop
  | non : DpX K H .non .none
  | bl (b : Bool) : DpX K H (.bl b) (.bool b)
  | int (i : Int) : DpX K H (.int i) (.int i)
  | str (x : Str) : DpX K H (.str x) (.str x)
  | lst {a : Addr} {xs : List V} {ds : List PyData} : Rd H a (.lst xs) → DpXAll K H xs ds → DpX K H (.ref a) (.list ds)
  | tup {a : Addr} {xs : List V} {ds : List PyData} : SqT K H a xs → DpXAll K H xs ds → DpX K H (.ref a) (.tuple ds)
  | dk {a : Addr} {kvs : List (Key × V)} {ds : List PyData} : Rd H a (.dK kvs) → DpXAll K H (kvs.map (·.2)) ds → DpX K H (.ref a) (.dict ((kvs.map fun z => keyP z.1).zip ds))
inductive DpXAll (K : PySem.W.Frag) (H : Hp) : List V → List PyData → Prop
  | nil : DpXAll K H [] []
  | cons {v : V} {vs : List V} {d : PyData} {ds : List PyData} : DpX K H v d → DpXAll K H vs ds → DpXAll K H (v :: vs) (d :: ds)
end
section
variable {X : Cx} {pins : List (Addr × Obj)} {σ : St} {H : Hp} {s : Shared}
theorem keys_read {P : Program} {w : World} {h : Heap} : ∀ {es : List DictEntry} {l : List (Key × Value)}, Pairs (mixKind P w) es l → ReadsAll h (es.map (·.key)) (l.map fun z => keyP z.1) [] ∧ es.map (·.val) = l.map (·.2)
  | _, _, .nil => ⟨.nil, rfl⟩
  | e :: es, kv :: l, .cons h1 h2 h3 => by
    obtain ⟨g1, g2⟩ := keys_read h3
    refine ⟨?_, by rw [List.map_cons, List.map_cons, h2, g2]⟩
    rw [List.map_cons, List.map_cons]
    rcases keyIs_shape h1 with ⟨i, t, e1, e2⟩ | ⟨x, t, e1, e2⟩
    · rw [e1, e2]
      exact ReadsAll.cons (as := []) (.int i t) g1
    · rw [e1, e2]
      exact ReadsAll.cons (as := []) (.str x t) g1
theorem kv_split : ∀ {kvs : List (Key × V)} {l : List (Key × Value)}, KV kvs l → Vals (kvs.map (·.2)) (l.map (·.2)) ∧ kvs.map (·.1) = l.map (·.1)
  | [], [], .nil => ⟨.nil, rfl⟩
  | _ :: _, _ :: _, .cons a b => by
    obtain ⟨g1, g2⟩ := kv_split b
    exact ⟨.cons a.2 g1, by rw [List.map_cons, List.map_cons, a.1, g2]⟩
theorem dx_len {K : PySem.W.Frag} : ∀ {vs : List V} {ds : List PyData}, DpXAll K H vs ds → vs.length = ds.length
  | [], _, h => by cases h; rfl
  | _ :: vs, _, h => by
    cases h with
    | cons a b => rw [List.length_cons, List.length_cons, dx_len b]
def Sh1 (P : Program) (w : World) (h : Heap) (u : Value) (d : PyData) : Prop := d.showable = true → d.shown.length ≤ sizeLine → ∃ as bs, Reads h u d as ∧ ReadAtMost h d.depth bs ∧ ReprK P w bs h d.depth u d.shown
def ShN (P : Program) (w : World) (h : Heap) (us : List Value) (ds : List PyData) : Prop := PyData.showableAll ds = true → (∀ t, t ∈ PyData.shownAll ds → t.length ≤ sizeLine) → ∃ as bs, ReadsAll h us ds as ∧ ReadAtMost h (PyData.depthAll ds) bs ∧ ReprAllK P w bs h (PyData.depthAll ds) us (PyData.shownAll ds)
theorem ShN.nil {P : Program} {w : World} {h : Heap} : ShN P w h [] [] := fun _ _ => ⟨[], [], .nil, (fun _ z => by cases z), by simp only [PyData.shownAll]; exact .nil⟩
theorem ShN.cons {P : Program} {w : World} {h : Heap} {u : Value} {us : List Value} {d : PyData} {ds : List PyData} (a : Sh1 P w h u d) (b : ShN P w h us ds) : ShN P w h (u :: us) (d :: ds) := by
  intro ok sz
  rw [PyData.showableAll, Bool.and_eq_true] at ok
  simp only [PyData.shownAll, List.mem_cons, forall_eq_or_imp] at sz
  obtain ⟨as1, b1, r1, m1, k1⟩ := a ok.1 sz.1
  obtain ⟨as2, b2, r2, m2, k2⟩ := b ok.2 sz.2
  have l1 : d.depth ≤ PyData.depthAll (d :: ds) := by rw [PyData.depthAll]; exact Nat.le_max_left ..
  have l2 : PyData.depthAll ds ≤ PyData.depthAll (d :: ds) := by rw [PyData.depthAll]; exact Nat.le_max_right ..
  refine ⟨as1 ++ as2, b1 ++ b2, .cons r1 r2, (m1.mono l1).append (m2.mono l2), ?_⟩
  rw [PyData.shownAll]
  exact .cons ((k1.more fun x hx => List.mem_append_left _ hx).level_le l1) (k2.more_le (fun x hx => List.mem_append_right _ hx) l2)
theorem Sh1.flat {P : Program} {w : World} {h : Heap} {u : Value} {d : PyData} (r : Reads h u d []) (q : d.showable = true → d.shown.length ≤ sizeLine → ReprIs P w u d.shown) : Sh1 P w h u d := fun ok sz => ⟨[], [], r, (fun _ z => by cases z), ReprK.of_is (q ok sz) _ _ _⟩
theorem sh_int {P : Program} {w : World} {h : Heap} (i : Int) (t : Tok) : Sh1 P w h (.int i t) (.int i) := .flat (.int i t) fun ok _ => by rw [PyData.shown]; exact .int t (by simpa [PyData.showable] using ok)
theorem sh_str {P : Program} {w : World} {h : Heap} (x : Str) (t : Tok) : Sh1 P w h (.str x t) (.str x) := .flat (.str x t) fun _ sz => by rw [PyData.shown] at sz ⊢; exact .str x t sz
theorem sh_keys {P : Program} {w : World} {h : Heap} : ∀ {es : List DictEntry} {l : List (Key × Value)}, Pairs (mixKind P w) es l → ShN P w h (es.map (·.key)) (l.map fun z => keyP z.1)
  | _, _, .nil => .nil
  | e :: es, kv :: l, .cons h1 h2 h3 => by
    rw [List.map_cons, List.map_cons]
    refine .cons ?_ (sh_keys h3)
    rcases keyIs_shape h1 with ⟨i, t, e1, e2⟩ | ⟨x, t, e1, e2⟩
    · rw [e1, e2]; exact sh_int i t
    · rw [e1, e2]; exact sh_str x t
theorem DpX.shows (I : Inv X pins σ H s) {v : V} {d : PyData} (hx : DpX X.K H v d) : ∀ u : Value, RelV v u → Sh1 X.prog X.w s.heap u d :=
  DpX.rec (K := X.K) (H := H) (motive_1 := fun v d _ => ∀ u : Value, RelV v u → Sh1 X.prog X.w s.heap u d) (motive_2 := fun vs ds _ => ∀ us : List Value, Vals vs us → ShN X.prog X.w s.heap us ds)
    (fun u r => by cases r; exact .flat .none fun _ _ => by rw [PyData.shown]; exact .none)
    (fun b u r => by cases r; exact .flat (.bool b) fun _ _ => by rw [PyData.shown]; exact .bool b)
    (fun i u r => by obtain ⟨t, rfl⟩ := r; exact sh_int i t)
    (fun x u r => by obtain ⟨t, rfl⟩ := r; exact sh_str x t)
    (fun {a xs ds} r _ ih u ru => by
      cases ru
      obtain ⟨its, rv, ⟨o, n, ho, hc, _, hd⟩, _⟩ := I.list (.inl r)
      intro ok sz
      rw [PyData.showable] at ok
      rw [PyData.shown] at sz
      obtain ⟨as, bs, r1, m1, k1⟩ := ih its rv ok fun t ht => Nat.le_trans (listText_mem_le ht) sz
      have rr : Reads s.heap (.ref a) (.list ds) (a :: as) := .list ho hc hd r1
      have lt : PyData.depthAll ds < (PyData.list ds).depth := by rw [PyData.depth]; omega
      refine ⟨_, a :: bs, rr, ReadAtMost.cons rr (Nat.le_of_lt lt) m1, ?_⟩
      rw [PyData.shown, PyData.depth]
      cases its with
      | nil =>
        cases r1
        rw [PyData.shownAll]
        exact ReprK.listEmpty ho hc hd
      | cons y its => exact ReprK.list ho hc hd (not_mem_of_deeper rr lt m1) (by simpa using k1.length_eq) fun i z hz => k1.item i z (by simpa using hz))
    (fun {a xs ds} r _ ih u ru => by
      cases ru
      obtain ⟨its, rv, ⟨o, ho, hc, n, hd⟩, _⟩ := I.tuple r
      intro ok sz
      rw [PyData.showable] at ok
      rw [PyData.shown] at sz
      obtain ⟨as, bs, r1, m1, k1⟩ := ih its rv ok fun t ht => Nat.le_trans (tupleText_mem_le ht) sz
      have rr : Reads s.heap (.ref a) (.tuple ds) as := .tuple ho hc hd r1
      have lt : PyData.depthAll ds < (PyData.tuple ds).depth := by rw [PyData.depth]; omega
      refine ⟨_, a :: bs, rr, ReadAtMost.cons rr (Nat.le_of_lt lt) m1, ?_⟩
      rw [PyData.shown, PyData.depth]
      exact ReprK.tuple ho hc hd (not_mem_of_deeper rr lt m1) k1)
    (fun {a kvs ds} r hall ih u ru => by
      cases ru
      obtain ⟨_, hm, vs, kv, o, es, ep, ho, hx, hd, _, hp, _⟩ := r.ok I.hok
      obtain ⟨g1, g2⟩ := keys_read (h := s.heap) hp
      obtain ⟨g3, g4⟩ := kv_split kv
      intro ok sz
      have hl := dx_len hall
      rw [List.length_map] at hl
      have e1 : (((kvs.map fun z => keyP z.1).zip ds).map (·.1)) = vs.map fun z => keyP z.1 := by
        rw [List.map_fst_zip (by rw [List.length_map]; omega)]
        have := congrArg (List.map keyP) g4
        rw [List.map_map, List.map_map] at this
        exact this
      have e2 : (((kvs.map fun z => keyP z.1).zip ds).map (·.2)) = ds := List.map_snd_zip (by rw [List.length_map]; omega)
      generalize (kvs.map fun z => keyP z.1).zip ds = D at *
      rw [PyData.showable] at ok
      rw [PyData.shown] at sz
      obtain ⟨ok1, ok2⟩ := PyData.showableKv_split D ok
      rw [e1] at ok1
      obtain ⟨as1, b1, r1, m1, k1⟩ := sh_keys (h := s.heap) hp ok1 fun t ht => by
        rw [← e1] at ht
        obtain ⟨q, hq, hle⟩ := PyData.shownKv_key_le D t ht
        exact Nat.le_trans hle (Nat.le_trans (dictText_mem_le hq) sz)
      rw [e2] at ok2
      obtain ⟨as2, b2, r2, m2, k2⟩ := ih _ g3 ok2 fun t ht => by
        rw [← e2] at ht
        obtain ⟨q, hq, hle⟩ := PyData.shownKv_val_le D t ht
        exact Nat.le_trans hle (Nat.le_trans (dictText_mem_le hq) sz)
      rw [← e1] at r1 m1 k1
      rw [← g2, ← e2] at r2 k2
      rw [← e2] at m2
      have rr : Reads s.heap (.ref a) (.dict D) (a :: as1 ++ as2) := .dict ho hx.1 hd r1 r2
      have mm : ReadAtMost s.heap (PyData.depthKv D) (b1 ++ b2) := (m1.mono (PyData.depthAll_keys_le D)).append (m2.mono (PyData.depthAll_vals_le D))
      have lt : PyData.depthKv D < (PyData.dict D).depth := by rw [PyData.depth]; omega
      refine ⟨_, a :: (b1 ++ b2), rr, ReadAtMost.cons rr (Nat.le_of_lt lt) mm, ?_⟩
      rw [PyData.shown, PyData.depth, PyData.shownKv_eq]
      exact ReprK.dict ho hx.1 hd hm (not_mem_of_deeper rr lt mm) (ReprEntriesK.of_two es.toList _ _ (k1.more_le (fun x hx => List.mem_append_left _ hx) (PyData.depthAll_keys_le D)) (k2.more_le (fun x hx => List.mem_append_right _ hx) (PyData.depthAll_vals_le D))))
    (fun us r => by cases r; exact .nil)
    (fun {v vs d ds} _ _ ih1 ih2 us r => by
      cases r with
      | cons r1 r2 => exact .cons (ih1 _ r1) (ih2 _ r2)) hx
def rReprX (K : PySem.W.Frag) : List V → Hp → VK → Prop := fun xs H Q => ∃ (a : Addr) (vs : List V) (ds : List PyData), xs = [.ref a] ∧ Rd H a (.lst vs) ∧ DpXAll K H vs ds ∧ vs ≠ [] ∧ (PyData.list ds).showable = true ∧ (PyData.list ds).depth ≤ 60 ∧ (PyData.list ds).shown.length ≤ sizeLine ∧ Q (.str (PyData.list ds).shown) H
theorem shows_all (I : Inv X pins σ H s) : ∀ {vs : List V} {ds : List PyData}, DpXAll X.K H vs ds → ∀ us : List Value, Vals vs us → ShN X.prog X.w s.heap us ds
  | [], _, h => fun us r => by cases h; cases r; exact .nil
  | v :: vs, _, h => fun us r => by
    cases h with
    | cons a b =>
      cases r with
      | cons r1 r2 => exact .cons (DpX.shows I a _ r1) (shows_all I b _ r2)
theorem call_reprX (hg : X.A.guards = some []) (hu : X.A.units + 65 < cLine) : CallR X (.builtin "repr") (rReprX X.K) := by
  intro pins s σ H xs us Q I r h
  obtain ⟨a, vs, ds, rfl, hrd, hall, hne, ok, hdp, sz, q⟩ := h
  cases r with
  | cons rx rt =>
    cases rt
    cases rx
    obtain ⟨its, rv, ⟨o, n, ho, hc, _, hd⟩, _⟩ := I.list (.inl hrd)
    rw [PyData.showable] at ok
    rw [PyData.shown] at sz
    obtain ⟨as, bs, r1, m1, k1⟩ := shows_all I hall its rv ok fun t ht => Nat.le_trans (listText_mem_le ht) sz
    have rr : Reads s.heap (.ref a) (.list ds) (a :: as) := .list ho hc hd r1
    have lt : PyData.depthAll ds < (PyData.list ds).depth := by rw [PyData.depth]; omega
    rw [PyData.depth] at hdp
    cases its with
    | nil =>
      cases rv
      exact absurd rfl hne
    | cons y its =>
      refine call_repr_slot (by omega) ⟨o, ho, hc⟩ F.slot_list_repr.toG ?_
      refine call_list_reprK ho hc hd (not_mem_of_deeper rr lt m1) (by simpa using k1.length_eq) (fun i z hz => k1.item i z (by simpa using hz)) hg (fun b _ => Clear.nil b) (by show X.A.units + 1 + _ < cLine; omega) (fun b o e => e) (fun h' u tk hk => ?_) sz
      exact ⟨_, _, rfl, .str _, H, I.kept hk, ⟨_, rfl⟩, by rw [PyData.shown] at q; exact q⟩
end
end L2
namespace L3
open PySem PySem.Spec PyProof.Rows L2
mutual
def pyXW (g : Nat → Option PyData) : D → Option PyData
  | .non => some .none
  | .bl b => some (.bool b)
  | .int i => some (.int i)
  | .str s => some (.str s)
  | .lst _ xs => (pyXWs g xs).map .list
  | .tup xs => (pyXWs g xs).map .tuple
  | .dk _ ks xs => (pyXWs g xs).map fun ps => .dict ((ks.map keyP).zip ps)
  | .ptr k => g k
  | _ => none
def pyXWs (g : Nat → Option PyData) : List D → Option (List PyData)
  | [] => some []
  | x :: xs => (pyXW g x).bind fun p => (pyXWs g xs).map (p :: ·)
end
def pyXG (C : Store) : Nat → Nat → Option PyData
  | 0, _ => none
  | n + 1, k => match C[k]? with
    | some (.lst xs) => (pyXWs (pyXG C n) xs).map .list
    | some (.dk ks xs) => (pyXWs (pyXG C n) xs).map fun ps => .dict ((ks.map keyP).zip ps)
    | _ => none
def pyX (C : Store) (d : D) : Option PyData := pyXW (pyXG C 2) d
section
variable {K : PySem.W.Frag} {H0 : Hp} {A0 : List Addr} {av : Av} {ad : Ads} {Γ : Slots} {C : Store} {σ : L2.St} {H : Hp} {X : Cx}
mutual
theorem dx_of {g : Nat → Option PyData} (hg : ∀ k a p, ad[k]? = some (some a) → g k = some p → DpX K H (.ref a) p) : ∀ {d : D} {v : V} {p : PyData}, Den K H0 av ad H v d → pyXW g d = some p → DpX K H v p
  | .non, _, _, .non, e => by simp only [pyXW] at e; cases e; exact .non
  | .bl _, _, _, .bl, e => by simp only [pyXW] at e; cases e; exact .bl _
  | .int _, _, _, .int, e => by simp only [pyXW] at e; cases e; exact .int _
  | .str _, _, _, .str, e => by simp only [pyXW] at e; cases e; exact .str _
  | .lst _ xs, _, _, .lst r _ x, e => by
    simp only [pyXW] at e
    cases q : pyXWs g xs with
    | none => rw [q] at e; cases e
    | some ps => rw [q] at e; cases e; exact .lst r.1 (dxs_of hg x q)
  | .tup xs, _, _, .tup r x, e => by
    simp only [pyXW] at e
    cases q : pyXWs g xs with
    | none => rw [q] at e; cases e
    | some ps => rw [q] at e; cases e; exact .tup r.sq (dxs_of hg x q)
  | .dk _ ks xs, _, _, .dk (kvs := kvs) r _ _ ek x, e => by
    simp only [pyXW] at e
    cases q : pyXWs g xs with
    | none => rw [q] at e; cases e
    | some ps =>
      rw [q] at e
      cases e
      have := DpX.dk (K := K) r (dxs_of hg x q)
      rw [← ek, List.map_map]
      exact this
  | .ptr k, _, _, .ptr h, e => by simp only [pyXW] at e; exact hg k _ _ h e
  | .bad, _, _, _, e => by simp [pyXW] at e
  | .dt _ _ _, _, _, _, e => by simp [pyXW] at e
  | .obj _ _ _, _, _, _, e => by simp [pyXW] at e
  | .exc _ _ _, _, _, _, e => by simp [pyXW] at e
theorem dxs_of {g : Nat → Option PyData} (hg : ∀ k a p, ad[k]? = some (some a) → g k = some p → DpX K H (.ref a) p) : ∀ {ds : List D} {vs : List V} {ps : List PyData}, DenAll K H0 av ad H vs ds → pyXWs g ds = some ps → DpXAll K H vs ps
  | [], _, _, .nil, e => by simp only [pyXWs] at e; cases e; exact .nil
  | d :: ds, _, _, .cons a b, e => by
    simp only [pyXWs] at e
    cases q : pyXW g d with
    | none => rw [q] at e; cases e
    | some p =>
      rw [q] at e
      cases q2 : pyXWs g ds with
      | none => rw [q2] at e; cases e
      | some ps => rw [q2] at e; cases e; exact .cons (dx_of hg a q) (dxs_of hg b q2)
end
theorem dx_g (R : Rep K H0 A0 av ad Γ C σ H) : ∀ (n k : Nat) (a : Addr) (p : PyData), ad[k]? = some (some a) → pyXG C n k = some p → DpX K H (.ref a) p
  | 0, _, _, _, _, e => by cases e
  | n + 1, k, a, p, h, e => by
    simp only [pyXG] at e
    cases q : C[k]? with
    | none => rw [q] at e; cases e
    | some c =>
      rw [q] at e
      cases c with
      | lst xs =>
        simp only at e
        obtain ⟨vs, e1, r⟩ := R.cells k a _ h q
        cases q2 : pyXWs (pyXG C n) xs with
        | none => rw [q2] at e; cases e
        | some ps =>
          rw [q2] at e; cases e
          exact .lst (.inl e1) (dxs_of (dx_g R n) r q2)
      | dk ks xs =>
        simp only at e
        obtain ⟨kvs, e1, e2, r⟩ := R.cells k a _ h q
        cases q2 : pyXWs (pyXG C n) xs with
        | none => rw [q2] at e; cases e
        | some ps =>
          rw [q2] at e; cases e
          have := DpX.dk (K := K) (.inl e1) (dxs_of (dx_g R n) r q2)
          rw [← e2, List.map_map]
          exact this
      | dt _ _ => cases e
      | ins _ _ _ => cases e
      | dead => cases e
theorem Rep.dx (R : Rep K H0 A0 av ad Γ C σ H) {v : V} {d : D} {p : PyData} (x : Den K H0 av ad H v d) (e : pyX C d = some p) : DpX K H v p := dx_of (dx_g R 2) x e
def oReprX : ON := fun C ds Q => ∃ (d : D) (xs : List D) (ps : List PyData), ds = [d] ∧ lstOf C d = some xs ∧ xs ≠ [] ∧ pyXWs (pyXG C 2) xs = some ps ∧ (PyData.list ps).showable = true ∧ (PyData.list ps).depth ≤ 60 ∧ (PyData.list ps).shown.length ≤ sizeLine ∧ Q (.str (PyData.list ps).shown)
theorem sc_reprX : SimC K (rReprX K) oReprX := by
  intro H0 A0 av ad Γ C σ H vs ds Q3 Q R d1 ⟨d, xs, ps, e1, e2, hne, e3, h1, h3, h4, q3⟩ q
  subst e1
  obtain ⟨v, rfl, r⟩ := den1 d1
  obtain ⟨a, us, rfl, hr, hd⟩ := R.lst r e2
  have hn : us ≠ [] := fun e => by
    subst e
    cases hd
    exact hne rfl
  exact ⟨a, us, ps, rfl, hr, dxs_of (dx_g R 2) hd e3, hn, h1, h3, h4, q _ H _ (fun _ _ h => h) .str q3⟩
theorem call_reprXA (hK : X.K = K) (hg : X.A.guards = some []) (hu : X.A.units + 65 < cLine) : CallR X (.builtin "repr") (rReprX K) := by subst hK; exact call_reprX hg hu
end
end L3
namespace L2
open PySem PySem.Spec PyProof.Rows PySem.W
end L2
namespace L3
open PySem PySem.Spec PyProof.Rows L2
section
variable {K : PySem.W.Frag} {X : Cx} {a : Expr} {ta : TE} {Ea : EV}
end
end L3
namespace L2
open PySem PySem.Spec PyProof.Rows
section
variable {X : Cx} {pins : List (Addr × Obj)} {σ : St} {H : Hp} {s : Shared}
end
end L2
namespace L3
open PySem PySem.Spec PyProof.Rows L2
section
variable {K : PySem.W.Frag} {X : Cx} {e o : Expr} {te to : TE} {E Eo : EV} {apos pos : Pos}
end
end L3
namespace L3
open PySem PySem.W PySem.Spec PyProof.Rows L2
section
variable {K : PySem.W.Frag} {X : Cx}
end
end L3
namespace L2
open PySem PySem.Spec PyProof.Rows
section
variable {X : Cx}
end
end L2
namespace L3
open PySem PySem.Spec PyProof.Rows L2
section
variable {K : PySem.W.Frag} {X : Cx} {k n : Nat} {f : Addr} {fd : FuncData} {ps : List Str} {P : PV} {x : Str} {p pos : Pos} {e : Expr} {es : List Expr} {tl : TA} {L : AV}
end
end L3
namespace L2
open PySem PySem.Spec PySem.Calls PyProof.Rows
section
variable {X : Cx} {pins : List (Addr × Obj)} {σ : St} {H : Hp} {s : Shared}
end
open L3 (ExT)
section
variable {X : Cx} {x n : Str} {c : Value} {i : Nat} {body suite : List Stmt} {b₀ : Stmt} {np pos pos' : Pos} {tb : WX → TS} {ts : Addr → Value → Option Addr → TS} {Wout : WX}
end
end L2
namespace L2
open PySem PySem.Spec PySem.Calls PyProof.Rows
open L3 (ExT)
end L2
namespace L3
open PySem PySem.Spec PyProof.Rows L2
section
variable {K : PySem.W.Frag} {X : Cx} {x n y : Str} {c : Value} {i j : Nat} {body : List Stmt} {np p p' pos pos' pos2 : Pos} {tb : WX → TS} {Tb : WX → SV} {Wout : WX} {ms : List (Str × Bool)}
end
theorem ExD.some {av : Av} {H : Hp} {d : Option Addr} {fs : List (Str × V)} (h : ExD av H d fs) : ∀ dd, d = some dd → ∃ fs : List (Str × V), H dd = some (.xd fs) := fun dd e => by
  rcases h with ⟨h, _⟩ | ⟨d', h, h2, _⟩
  · rw [h] at e; cases e
  · rw [h] at e; cases e; exact ⟨fs, h2⟩
section
variable {K : PySem.W.Frag} {X : Cx} {nm f c : Str} {fI : Addr} {p p3 pos tpos : Pos} {e : Expr} {es : List Expr} {E : EV} {te : TE} {tl : TA} {ms : List (Str × Bool)} {cs : List Addr} {k : Nat}
end
end L3
namespace L2
open PySem PySem.Spec PySem.Calls PyProof PyProof.Rows
section
variable {prog : Program} {w : World} {A : Around} {E : Value → Shared → Prop} {s : Shared}
theorem bounds_all {n : Nat} : sliceBounds none none none n = ((0 : Int), (n : Int), 1) := by
  simp [sliceBounds]
set_option maxRecDepth 100000 in
theorem setItem_all {l b sl : Addr} {items new : Array Value} {n n2 : Nat} {ob : Obj} {Q : Unit → Shared → Prop}
    (e : s.heap.get? l = some { cls := .type "list", data := .seq items n }) (hb : s.heap.IsList b new) (e2 : s.heap.get? b = some ob) (d2 : ob.data = .seq new n2) (hne : l ≠ b)
    (hs : s.heap.IsSliceOf sl .none .none .none)
    (hsz : items.size + new.size ≤ sizeLine) (h : Q () { s with heap := s.heap.update l (Obj.mapSeq fun xs => xs.extract 0 0 ++ new ++ xs.extract items.size xs.size) }) :
    wpAny (model prog w) A (setItem (.ref l) (.ref sl) (.ref b)) Q E s := by
  have hl : s.heap.IsList l items := PySem.IsL.isList e
  obtain ⟨os, hos, hcs, hds⟩ := id hs
  have hTs : s.TypeIs (.ref sl) "slice" := ⟨os, hos, hcs⟩
  have hstep : ¬ ((rawPart none == rawInt 0) = true) := Bool.false_ne_true
  have hsame : Builtin.List.listSameRef (.ref l) (.ref b) = false := by
    unfold Builtin.List.listSameRef
    exact beq_eq_false_iff_ne.mpr hne
  have hmax : (max (0 : Int) ((items.size : Nat) : Int)).toNat = items.size := by omega
  have hz' : ((fun xs : Array Value => xs.extract 0 0 ++ new ++ xs.extract items.size xs.size) items).size ≤ sizeLine + 1 := by
    simp only [Array.size_append, Array.size_extract]
    omega
  unfold setItem
  try with_reducible refine wpAny_holding ?_
  first | refine wpAny_bind (wpAny_pure ?_) | skip
  refine wpAny_bind (wpAny_sequenceKey hl.typeIs (by decide) ?_)
  refine wpAny_bind (wpAny_callSpecial?_slot (name := Str.ofString "__setitem__") hl.typeIs slot_list_setitem
    (wpAny_call_entry slot_list_setitem hl.typeIs entry_list_setitem ?_ (args_list_setitem _ _ _)))
  show wpAny _ _ (Builtin.List.listSubscript? (.ref sl) >>= _) _ _ s
  refine wpAny_bind ?_
  unfold Builtin.List.listSubscript?
  refine wpAny_bind (wpAny_specialOf hTs slice_no_index ?_)
  simp only [Option.isNone_none, if_true]
  refine wpAny_pure ?_
  show wpAny _ _ (typeOf (.ref sl) >>= _) _ _ s
  refine wpAny_bind (wpAny_typeOf hTs ?_)
  first
    | rw [if_neg (by decide)]
    | refine PySem.W.KFB.if_not (by decide) ?_
  rw [listSliceParts_eq]
  refine wpAny_bind (wpAny_bind (wpAny_field hos hds (x := .none) rfl (wpAny_bind (wpAny_listPart .none ?_))))
  rw [if_neg hstep]
  refine wpAny_bind (wpAny_field hos hds (x := .none) rfl (wpAny_bind (wpAny_listPart .none ?_)))
  refine wpAny_bind (wpAny_field hos hds (x := .none) rfl (wpAny_bind (wpAny_listPart .none (wpAny_pure ?_))))
  first
    | simp only [hsame, Bool.false_eq_true, if_false]
    | refine PySem.W.KFB.if_not hsame ?_
    | (dsimp only
       rw [if_neg (by rw [hsame]; exact Bool.false_ne_true)])
  refine wpAny_bind (m := Builtin.List.listAllItems (.ref b) "must assign iterable to extended slice") ?_
  unfold Builtin.List.listAllItems
  refine wpAny_bind (wpAny_typeOf hb.typeIs ?_)
  first
    | refine PySem.W.KFB.if_so (by decide) ?_
    | rw [if_pos (by decide)]
    | simp only [beq_self_eq_true, Bool.true_or, if_true]
  unfold Builtin.List.listItems
  refine wpAny_bind (wpAny_seqItems e2 d2 (wpAny_pure ?_))
  refine wpAny_bind (wpAny_bind (wpAny_seqItems e rfl (wpAny_pure ?_)))
  refine wpAny_bind (wpAny_of_eq ((sliceIndices_raw none none none items.size (by simp)).trans (congrArg (pure : Int × Int × Int → Sem (Int × Int × Int)) bounds_all)) ?_)
  show wpAny _ _ (if ((1 : Int) == 1) = true then _ else _) _ _ s
  rw [if_pos (by decide)]
  refine wpAny_bind (wpAny_rule ?_)
  first
    | simp only [notLongL hsz, Bool.false_eq_true, if_false]
    | refine PySem.W.KFB.if_not (notLongL hsz) ?_
  first | refine wpAny_bind (wpAny_pure ?_) | skip
  show wpAny _ _ (updateSeq l (fun xs => xs.extract 0 ((0 : Int)).toNat ++ new ++ xs.extract (max (0 : Int) ((items.size : Nat) : Int)).toNat xs.size) >>= _) _ _ s
  rw [hmax]
  refine wpAny_bind (wpAny_updateSeq (hz := Nat.le_trans (Nat.le_add_right _ _) hsz) (_hz' := hz') e rfl ?_)
  refine wpAny_bind (wpAny_letGo ?_)
  first
    | exact wpAny_bind (wpAny_pure (wpAny_pure ⟨.none, rfl, wpAny_pure h⟩))
    | exact wpAny_pure ⟨.none, rfl, wpAny_pure h⟩
end
section
variable {X : Cx}
theorem set_all {pins : List (Addr × Obj)} {s : Shared} {σ : St} {H : Hp} {l b sl : Addr} {xs ys : List V} {Q : Unit → Shared → Prop} (I : Inv X pins σ H s)
    (hH : H l = some (.lst xs)) (hB : SqL X.K H b ys) (hne : l ≠ b) (hs : s.heap.IsSliceOf sl .none .none .none)
    (hz : xs.length + ys.length ≤ sizeLine) (h : ∀ s', Inv X pins σ (upd H l (.lst ys)) s' → Q () s') :
    wpAny (model X.prog X.w) X.A (setItem (.ref l) (.ref sl) (.ref b)) Q X.xe s := by
  obtain ⟨z, its, n, r, hl, e⟩ := I.lstM hH
  obtain ⟨its2, r2, hp, z2⟩ := I.list hB
  obtain ⟨ob, n2, e2, c2, dc, d2⟩ := id hp
  have hl2 := r2.length
  refine setItem_all e ⟨ob, e2, c2, n2, d2⟩ e2 d2 hne hs (by rw [List.size_toArray, List.size_toArray]; omega) (h _ ?_)
  refine I.lset (its' := its2) (t' := s.toks) hH e ?_ r2 (by omega)
  have := splice_eq its its2 0 its.toArray.size
  rw [this]
  simp
def gAll (K : PySem.W.Frag) (to : TE) : TG := fun v σ H Q => to σ H fun x H1 => ∃ (l b : Addr) (xs ys : List V), x = .ref l ∧ v = .ref b ∧ H1 l = some (.lst xs) ∧ SqL K H1 b ys ∧ l ≠ b ∧ xs.length + ys.length ≤ sizeLine ∧ Q σ (upd H1 l (.lst ys))
theorem pg_all {o : Expr} {to : TE} {p2 pos : Pos} (ho : PE X o to)
    (ha : ∀ v, assign (.Subscript o (.Slice none none none p2) pos) X.env v = (do
      let ov ← holding [v] (eval o X.env)
      let iv ← holding [v, ov] (eval (.Slice none none none p2) X.env)
      standAt pos
      holding [v, ov, iv] (setItem ov iv v)
      release [iv, v, ov] []) := by intro _; rfl) : PG X (.Subscript o (.Slice none none none p2) pos) (gAll X.K to) := by
  refine ⟨fun pins s σ H v u Q I r h => ?_⟩
  rw [ha]
  refine wpAny_bind (wpAny_holding (thn (ho.run pins s σ H _ I h) fun ov s1 ⟨x, H1, I1, r1, l, b, xs, ys, ex, ev, hl, hb, hne, hz, q⟩ => ?_))
  subst ex ev
  obtain rfl : ov = Value.ref l := r1
  obtain rfl : u = Value.ref b := r
  refine wpAny_bind (wpAny_holding (wpAny_Slice (thn (po_none.run pins s1 σ H1 (fun o' H' => o' = none ∧ H' = H1) I1 ⟨rfl, rfl⟩) fun vl s2 ⟨o2, H2, I2, pl, eo, eH⟩ => ?_)))
  subst eo eH
  refine thn (po_none.run pins s2 σ H2 (fun o' H' => o' = none ∧ H' = H2) I2 ⟨rfl, rfl⟩) fun vu s3 ⟨o3, H3, I3, pu, eo, eH⟩ => ?_
  subst eo eH
  rw [evalPart_none]
  refine wpAny_pure ?_
  cases pl
  cases pu
  have I4 : Inv X pins σ H3 { s3 with heap := s3.heap.push { cls := .type "slice", data := .fields #[.none, .none, .none] } } := I3.kept (t' := s3.toks) fun b ob q => Heap.get?_push_of_some _ q
  refine wpAny_bind (wpAny_standAt (wpAny_bind (wpAny_holding (set_all (b := b) I4 hl hb hne (Heap.IsSliceOf.new ..) hz fun s5 I5 => ?_))))
  exact wpAny_release ⟨σ, _, I5, q⟩
end
end L2
namespace L3
open PySem PySem.Spec PyProof.Rows L2
def gvAll (Eo : EV) : GV := fun d Γ C Q => Eo Γ C fun x C1 => ∃ (k : Nat) (xs ys : List D), x = .ptr k ∧ C1[k]? = some (.lst xs) ∧ lstOf C1 d = some ys ∧ d ≠ .ptr k ∧ xs.length + ys.length ≤ sizeLine ∧ Q Γ (C1.set k (.lst ys))
@[simp] theorem u_gvAll {Eo : EV} {d : D} {Γ : Slots} {C : Store} {Q : Slots → Store → Prop} : gvAll Eo d Γ C Q = Eo Γ C fun x C1 => ∃ (k : Nat) (xs ys : List D), x = .ptr k ∧ C1[k]? = some (.lst xs) ∧ lstOf C1 d = some ys ∧ d ≠ .ptr k ∧ xs.length + ys.length ≤ sizeLine ∧ Q Γ (C1.set k (.lst ys)) := rfl
section
variable {K : PySem.W.Frag} {X : Cx} {o : Expr} {to : TE} {Eo : EV} {p2 pos : Pos}
theorem Rep.apart {H0 : Hp} {A0 : List Addr} {av : Av} {ad : Ads} {Γ : Slots} {C : Store} {σ : L2.St} {H : Hp} (R : Rep K H0 A0 av ad Γ C σ H) {b a : Addr} {d : D} {ys : List D} {k : Nat} (dv : Den K H0 av ad H (.ref b) d) (e : lstOf C d = some ys) (hd : d ≠ .ptr k) (ha : ad[k]? = some (some a)) : a ≠ b := by
  intro z
  subst z
  cases dv with
  | lst l _ _ => exact l.2 (R.av_of ha)
  | ptr h => exact hd (by rw [R.nd _ _ _ ha h])
  | bad => cases e
  | tup _ _ => cases e
  | dk _ _ _ _ _ => cases e
  | dt _ _ _ _ _ => cases e
  | obj _ _ _ _ => cases e
  | exc _ _ _ _ _ => cases e
theorem vg_all (hK : X.K = K) (ho : VE K X o to Eo) (ha : ∀ v, assign (.Subscript o (.Slice none none none p2) pos) X.env v = (do
      let ov ← holding [v] (eval o X.env)
      let iv ← holding [v, ov] (eval (.Slice none none none p2) X.env)
      standAt pos
      holding [v, ov, iv] (setItem ov iv v)
      release [iv, v, ov] []) := by intro _; rfl) : VG K X (.Subscript o (.Slice none none none p2) pos) (gAll K to) (gvAll Eo) := by
  subst hK
  refine ⟨pg_all ho.pe ha, fun H0 A0 av ad Γ C σ H v d Q3 Q R dv h q => ?_⟩
  refine ho.sim H0 A0 av ad Γ C σ H _ _ R h fun vo H1 av1 ad1 d1 C1 R1 l1 e1 ⟨k, xs, ys, e3, e4, e5, hne, hz, h2⟩ => ?_
  subst e3
  obtain ⟨p, vs, rfl, hp, hl, r⟩ := R1.lstCell e1 e4
  have dv1 := dv.le l1
  obtain ⟨b, us, rfl, hb, rb⟩ := R1.lst dv1 e5
  obtain ⟨R3, l3⟩ := R1.lstWrite hp e4 rb
  exact ⟨p, b, vs, us, rfl, rfl, hl, .inl hb, R1.apart dv1 e5 hne hp, by rw [r.length, rb.length]; exact hz, q av1 ad1 Γ _ σ _ R3 (l1.trans l3) h2⟩
end
section
variable {K : PySem.W.Frag} {X : Cx} {k : Nat} {f : Addr} {fd : FuncData} {ps : List Str} {P : PV} {x : Str} {p pos : Pos}
end
section
variable {K : PySem.W.Frag} {X : Cx} {e : Expr} {es : List Expr} {tl : TA} {L : AV} {nm : Str} {pos p : Pos} {k : Nat} {fd : FuncData} {ps : List Str} {P : PV}
end
end L3
namespace L3
open PySem PySem.Spec PyProof.Rows L2
def IsD : HO → Prop
  | .dK _ => True
  | .dT _ => True
  | _ => False
structure Lk (d : Addr) (u : HO) (H H' : Hp) : Prop where
  oth : ∀ a, a ≠ d → H' a = H a
  one : ∀ o, H d = some o → o = u ∨ ∃ q, o = .frz q u
  two : ∀ o, H' d = some o → o = u ∨ ∃ q, o = .frz q u
  non : H d = none ↔ H' d = none
section
variable {K : PySem.W.Frag} {d : Addr} {u : HO} {H0 H0' H H' : Hp} {A0 : List Addr} {av av' : Av} {ad ad' : Ads} {Γ : Slots} {C : Store} {σ : L2.St}
theorem Lk.symm (k : Lk d u H H') : Lk d u H' H := ⟨fun a h => (k.oth a h).symm, k.two, k.one, k.non.symm⟩
theorem Lk.none (k : Lk d u H H') {a : Addr} (h : H a = none) : H' a = none := by
  by_cases e : a = d
  · subst e; exact k.non.mp h
  · rw [k.oth a e]; exact h
theorem Lk.at (k : Lk d u H H') {a : Addr} {o : HO} (h : H a = some o) (n1 : o ≠ u) (n2 : ∀ q, o ≠ .frz q u) : H' a = some o := by
  by_cases e : a = d
  · subst e
    rcases k.one o h with z | ⟨q, z⟩
    · exact absurd z n1
    · exact absurd z (n2 q)
  · rw [k.oth a e]; exact h
theorem Lk.rd (k : Lk d u H H') {a : Addr} {w : HO} (h : Rd H a w) (n : ∀ q z, w ≠ .frz q z) (g : IsD u) : Rd H' a w := by
  by_cases e : a = d
  · subst e
    have hw : w = u := by
      rcases h with h | ⟨o, h⟩
      · rcases k.one _ h with z | ⟨q, z⟩
        · exact z
        · exact absurd z (n _ _)
      · rcases k.one _ h with z | ⟨q, z⟩
        · subst z; exact g.elim
        · cases z; rfl
    subst hw
    cases e2 : H' a with
    | none =>
      have := k.non.mpr e2
      rcases h with h | ⟨o, h⟩ <;> rw [this] at h <;> cases h
    | some o =>
      rcases k.two o e2 with z | ⟨q, z⟩
      · subst z; exact .inl e2
      · subst z; exact .inr ⟨q, e2⟩
  · rcases h with h | ⟨o, h⟩
    · exact .inl ((k.oth a e).trans h)
    · exact .inr ⟨o, (k.oth a e).trans h⟩
theorem ne_lst (g : IsD u) {vs : List V} : HO.lst vs ≠ u := fun e => by subst e; exact g
theorem ne_tup (g : IsD u) {vs : List V} : HO.tup vs ≠ u := fun e => by subst e; exact g
theorem ne_ins (g : IsD u) {c x : Addr} {fs : List (Str × V)} : HO.ins c x fs ≠ u := fun e => by subst e; exact g
theorem ne_xd (g : IsD u) {fs : List (Str × V)} : HO.xd fs ≠ u := fun e => by subst e; exact g
theorem ne_ext (g : IsD u) {f : Heap → Prop} : HO.ext f ≠ u := fun e => by subst e; exact g
theorem ExD.lk (g : IsD u) (k : Lk d u H H') {dx : Option Addr} {fs : List (Str × V)} (h : ExD av H dx fs) : ExD av H' dx fs := by
  rcases h with h | ⟨dd, e, h, n⟩
  · exact .inl h
  · exact .inr ⟨dd, e, k.at h (ne_xd g) (fun _ => nofun), n⟩
mutual
theorem Den.lk (g : IsD u) (k0 : Lk d u H0 H0') (k : Lk d u H H') : ∀ {v : V} {x : D}, Den K H0 av ad H v x → Den K H0' av ad H' v x
  | _, _, .bad => .bad
  | _, _, .non => .non
  | _, _, .bl => .bl
  | _, _, .int => .int
  | _, _, .str => .str
  | _, _, .lst r o x => .lst ⟨k.rd r.1 (fun _ _ => nofun) g, r.2⟩ (fun e => ⟨k0.none (o e).1, k.at (o e).2 (ne_lst g) (fun _ => nofun)⟩) (DenAll.lk g k0 k x)
  | _, _, .tup r x => .tup ⟨k.at r.1 (ne_tup g) (fun _ => nofun), r.2⟩ (DenAll.lk g k0 k x)
  | _, _, .dk r n o e x => .dk (k.rd r (fun _ _ => nofun) g) n (fun z => k0.none (o z)) e (DenAll.lk g k0 k x)
  | _, _, .dt r n o e x => .dt (k.rd r (fun _ _ => nofun) g) n (fun z => k0.none (o z)) e (DenAll.lk g k0 k x)
  | _, _, .obj r n e x => .obj (k.at r (ne_ins g) (fun _ => nofun)) n e (DenAll.lk g k0 k x)
  | _, _, .exc r n f e x => .exc (k.at r (ne_ext g) (fun _ => nofun)) n (f.lk g k) e (DenAll.lk g k0 k x)
  | _, _, .ptr h => .ptr h
theorem DenAll.lk (g : IsD u) (k0 : Lk d u H0 H0') (k : Lk d u H H') : ∀ {vs : List V} {xs : List D}, DenAll K H0 av ad H vs xs → DenAll K H0' av ad H' vs xs
  | _, _, .nil => .nil
  | _, _, .cons a b => .cons (Den.lk g k0 k a) (DenAll.lk g k0 k b)
end
theorem CellOk.lk (g : IsD u) (k0 : Lk d u H0 H0') (k : Lk d u H H') {a : Addr} {c : Cell} (ne : a ≠ d) (x : CellOk K H0 av ad H a c) : CellOk K H0' av ad H' a c := by
  have h := k.oth a ne
  cases c with
  | lst _ => obtain ⟨vs, e, r⟩ := x; exact ⟨vs, h.trans e, r.lk g k0 k⟩
  | dk _ _ => obtain ⟨vs, e, z, r⟩ := x; exact ⟨vs, h.trans e, z, r.lk g k0 k⟩
  | dt _ _ => obtain ⟨vs, e, z, r⟩ := x; exact ⟨vs, h.trans e, z, r.lk g k0 k⟩
  | ins _ _ _ => obtain ⟨dx, vs, e, z, r⟩ := x; exact ⟨dx, vs, h.trans e, z, r.lk g k0 k⟩
  | dead => exact x
theorem Rep.lk (R : Rep K H0 A0 av ad Γ C σ H) (g : IsD u) (k0 : Lk d u H0 H0') (k : Lk d u H H') (nd : ¬ av d) (kd : ∀ o, H0' d = some o → H' d = some o) : Rep K H0' A0 av ad Γ C σ H' where
  sub := R.sub
  dom := fun a h e => R.dom a h (k.symm.none e)
  avt := fun a xs h r => R.avt a xs h (k.symm.at r (ne_tup g) (fun _ => nofun))
  nd := R.nd
  len := R.len
  pre := R.pre
  loc := fun i a h n => k0.none (R.loc i a h n)
  keep := fun a o h n => by
    by_cases e : a = d
    · subst e; exact kd o h
    · rw [k.oth a e]
      rw [k0.oth a e] at h
      exact R.keep a o h n
  there := fun a e => k0.none (R.there a (k.symm.none e))
  gone := R.gone
  cells := fun i a c h1 h2 => (R.cells i a c h1 h2).lk g k0 k fun e => nd (e ▸ R.av_of h1)
  slen := R.slen
  slot := fun i x h => by
    obtain ⟨v, h1, h2⟩ := R.slot i x h
    exact ⟨v, h1, h2.lk g k0 k⟩
theorem Le.lk {Hl Hl' : Hp} (l : Le av ad Hl av' ad' Hl') (k : Lk d u Hl H) (k' : Lk d u Hl' H') (nd : ¬ av d) (h : H d = some u) (h' : H' d = some u) (hl : Hl d ≠ none) : Le av ad H av' ad' H' where
  fz := fun a o e n => by
    by_cases q : a = d
    · subst q
      rw [h] at e; cases e
      refine ⟨h', ?_⟩
      cases e2 : Hl a with
      | none => exact absurd e2 hl
      | some w => exact (l.fz a w e2 n).2
    · rw [k.oth a q] at e
      obtain ⟨h1, h2⟩ := l.fz a o e n
      exact ⟨(k'.oth a q).trans h1, h2⟩
  pre := l.pre
  there := fun a e => k.none (l.there a (k'.symm.none e))
  avm := l.avm
  adn := fun a e => (l.adn a e).elim .inl fun z => .inr (k.none z)
  kp := fun a o e n => by
    by_cases q : a = d
    · subst q
      rw [h] at e; cases e
      exact h'
    · rw [k.oth a q] at e
      exact (k'.oth a q).trans (l.kp a o e n)
theorem lk_on {od : Obj} (h : H d = some u) : Lk d u H (upd H d (.frz od u)) := ⟨fun a e => upd_ne e, fun o e => .inl (by rw [h] at e; cases e; rfl), fun o e => .inr ⟨od, by rw [upd_same] at e; cases e; rfl⟩, by rw [h, upd_same]; exact ⟨nofun, nofun⟩⟩
theorem lk_off {od : Obj} (h : H d = some (.frz od u)) : Lk d u H (upd H d u) := ⟨fun a e => upd_ne e, fun o e => .inr ⟨od, by rw [h] at e; cases e; rfl⟩, fun o e => .inl (by rw [upd_same] at e; cases e; rfl), by rw [h, upd_same]; exact ⟨nofun, nofun⟩⟩
theorem lk_id (h : ∀ o, H d = some o → o = u ∨ ∃ q, o = .frz q u) : Lk d u H H := ⟨fun _ _ => rfl, h, h, Iff.rfl⟩
end
def tOr (t : TE) : TE := fun σ H Q => t σ H Q ∨ tLockE t σ H Q
theorem pe_or {X : Cx} {e : Expr} {t : TE} (h : PE X e t) : PE X e (tOr t) := ⟨fun pins s σ H Q I hw => hw.elim (h.run pins s σ H Q I) ((pe_lock h).run pins s σ H Q I)⟩
section
variable {K : PySem.W.Frag}
variable {X : Cx} {elt tg : Expr} {ifs : List Expr} {scope : Scope} {own : List (Str × Nat)} {pos p : Pos} {g : TG} {tt : TT} {te : TE} {G : GV} {B : BV} {E : EV} {x : Str}
end
end L3
namespace L2
open PySem PySem.Spec PyProof.Rows
section
variable {tg kx vx : Expr} {ifs : List Expr} {g : TG} {tt : TT} {tk tv : TE} {vs : List Nat}
variable {X : Cx} {iter : Expr} {scope : Scope} {own : List (Str × Nat)} {pos : Pos} {wi : TI}
end
end L2
namespace L3
open PySem PySem.Spec PyProof.Rows L2
section
variable {K : PySem.W.Frag} {X : Cx} {kx vx tg iter c : Expr} {ifs : List Expr} {scope : Scope} {own : List (Str × Nat)} {pos spos py : Pos} {wi : TI} {g : TG} {tt : TT} {tk tv : TE} {I : IV} {G : GV} {B : BV} {Ek Ev : EV} {F : FV} {x y : Str}
end
end L3
namespace L2
open PySem PySem.Spec PyProof.Rows
end L2
namespace L3
open PySem PySem.Spec PyProof.Rows L2
section
variable {K : PySem.W.Frag}
end
end L3
namespace L2
open PySem PySem.Spec PyProof.Rows
end L2
namespace L3
open PySem PySem.Spec PyProof.Rows L2
end L3
namespace L3
open PySem PySem.Spec PyProof.Rows L2
section
variable {K : PySem.W.Frag} {X : Cx} {o e f : Expr} {apos cpos : Pos} {td ty tx : TE} {Eo Ei Ef : EV}
def eTGet2 (Eo Ei Ef : EV) : EV := fun Γ C Q => Eo Γ C fun x C1 => (∃ r, dtOf C1 x = some r) ∧ Ei Γ C1 fun y C2 => Ef Γ C2 fun z C3 => ∃ ks xs k, dtOf C3 x = some (ks, xs) ∧ y = .tup (k.map kD) ∧ Q ((tAt k ks xs).getD z) C3
theorem ve_tget2 (ho : VE K X o td Eo) (he : VE K X e ty Ei) (hf : VE K X f tx Ef) (hu : X.A.units + 1 < cLine) (m : M2 X o "get" apos e f cpos := by exact ⟨rfl, rfl, rfl, rfl⟩) : VE K X (.Call (.Attribute o "get" apos) [e, f] [] cpos) (tDGet2 td ty tx) (eTGet2 Eo Ei Ef) := by
  refine ⟨pe_dget2 hu ho.pe he.pe hf.pe m, fun H0 A0 av ad Γ C σ H Q3 Q R h q => ?_⟩
  refine ho.sim H0 A0 av ad Γ C σ H _ _ R h fun v H1 av1 ad1 d C1 R1 l1 d1 ⟨⟨⟨ks0, xs0⟩, e0⟩, h1⟩ => ?_
  obtain ⟨a0, kvs0, ea, rd0, _, _⟩ := R1.dt d1 e0
  subst ea
  refine ⟨a0, rfl, .inr ⟨kvs0, rd0⟩, ?_⟩
  refine he.sim H0 A0 av1 ad1 Γ C1 σ H1 _ _ R1 h1 fun u H2 av2 ad2 d2 C2 R2 l2 e2 h2 => ?_
  refine hf.sim H0 A0 av2 ad2 Γ C2 σ H2 _ _ R2 h2 fun z H3 av3 ad3 dz C3 R3 l3 ez ⟨ks, xs, k, e3, e4, h5⟩ => ?_
  subst e4
  obtain ⟨a, o, ea, _, g, hs, h3, h4⟩ := R3.tget ((d1.le l2).le l3) e3 (e2.le l3)
  cases ea
  refine ⟨o, g, ?_⟩
  cases hd : tAt k ks xs with
  | none =>
    rw [hd] at h5
    rw [h4 hd]
    exact q z H3 av3 ad3 dz C3 R3 ((l1.trans l2).trans l3) ez h5
  | some d' =>
    rw [hd] at h5
    obtain ⟨w, rfl, dw⟩ := h3 d' hd
    exact q w H3 av3 ad3 d' C3 R3 ((l1.trans l2).trans l3) dw h5
end
def tSOr (t : TS) : TS := fun D σ H => t D σ H ∨ tLock t D σ H
theorem ps_or {X : Cx} {st : Stmt} {t : TS} (h : PS X st t) : PS X st (tSOr t) := ⟨fun pins s σ H D I hw => hw.elim (h.run pins s σ H D I) ((ps_lock h).run pins s σ H D I)⟩
section
variable {K : PySem.W.Frag} {X : Cx} {tg : Expr} {body : List Stmt} {pos p : Pos} {g : TG} {G : GV} {ts : TS} {T : SV} {wi : TI} {I : IV} {x : Str}
theorem sim_for (hi : SimI K wi I) (hg : SimG K g G) (hb : SimS K ts T) : SimS K (tFor wi g ts) (sFor I G T) := fun H0 A0 av ad Γ C σ H D3 De R q l => by
  refine hi H0 A0 av ad Γ C σ H _ _ R q fun J H1 av1 ad1 C1 ds src R1 l1 Y ⟨hsrc, hnp, w0⟩ => ?_
  subst hsrc
  refine ⟨fun i m σ' H' => m = ds.length - i ∧ i ≤ ds.length ∧ ∃ av' ad' Γ' C', Rep K H0 A0 av' ad' Γ' C' σ' H' ∧ Le av1 ad1 H1 av' ad' H' ∧ forW G T D3 (ds.drop i) Γ' C', ⟨ds.length, by simp, Nat.zero_le _, av1, ad1, Γ, C1, R1, Le.refl, w0⟩, ?_⟩
  rintro i m σ2 H2 ⟨rfl, hi, av2, ad2, Γ2, C2, R2, f2, w2⟩
  have k : Keeps av1 ad1 C1 H1 [] ds av2 ad2 C2 H2 := ⟨f2.fz, .inl hnp, fun _ z => nomatch z⟩
  obtain ⟨y1, y2⟩ := Y av2 ad2 Γ2 C2 σ2 H2 i R2 k
  by_cases hlt : i < ds.length
  · obtain ⟨hgo, hy⟩ := y1 hlt
    refine .inr ⟨hgo, fun σ' H' => i + 1 ≤ ds.length ∧ ∃ av' ad' Γ' C', Rep K H0 A0 av' ad' Γ' C' σ' H' ∧ Le av1 ad1 H1 av' ad' H' ∧ forW G T D3 (ds.drop (i + 1)) Γ' C', fun σ' H' ⟨h1, h2⟩ => ⟨ds.length - (i + 1), by omega, rfl, h1, h2⟩, fun x H3 hx => ?_⟩
    obtain ⟨s3, d, e3, r3⟩ := hy x H3 hx
    have ed : ds.drop i = d :: ds.drop (i + 1) := by
      rw [List.drop_eq_getElem_cons hlt]
      have : ds[i] = d := by
        rw [List.getElem?_eq_getElem hlt] at e3
        exact Option.some.inj e3
      rw [this]
    rw [ed] at w2
    refine hg H0 A0 av2 ad2 Γ2 C2 σ2 H3 x d _ _ (R2.same s3) r3 w2 fun av4 ad4 Γ4 C4 σ4 H4 R4 l4 w4 => ?_
    have f4 : Le av1 ad1 H1 av4 ad4 H4 := (f2.trans (Le.same s3)).trans l4
    exact hb H0 A0 av4 ad4 Γ4 C4 σ4 H4 _ _ R4 w4 ⟨fun av' ad' Γ' C' σ' H' R' f' q' => ⟨hlt, av', ad', Γ', C', R', f4.trans f', q'⟩,
      fun _ _ _ _ _ _ _ _ R' f' x q' => l.rt _ _ _ _ _ _ _ _ R' ((l1.trans f4).trans f') x q',
      fun av' ad' Γ' C' σ' H' R' f' q' => l.nx av' ad' Γ' C' σ' H' R' ((l1.trans f4).trans f') q', fun av' ad' Γ' C' σ' H' R' f' q' => ⟨hlt, av', ad', Γ', C', R', f4.trans f', q'⟩, fun _ _ _ _ _ _ _ _ _ R' f' x q' => l.ex _ _ _ _ _ _ _ _ _ R' ((l1.trans f4).trans f') x q'⟩
  · have e : i = ds.length := by omega
    subst e
    rw [List.drop_length] at w2
    exact .inl ⟨y2 (Nat.le_refl _), l.nx av2 ad2 Γ2 C2 σ2 H2 R2 (l1.trans f2) w2⟩
end
end L3
namespace L3
open PySem PySem.Spec PyProof.Rows L2
section
variable {K : PySem.W.Frag} {X : Cx} {a : Expr} {ta : TE} {Ea : EV} {lo hi : Option Expr} {p2 pos : Pos} {tlo thi : TO} {Lo Hi : OV}
end
end L3
namespace RZ
open PySem PySem.Spec PyProof.Rows L2
section
variable {prog : Program} {w : World} {A : Around} {E : Value → Shared → Prop} {s : Shared}
abbrev zmH1 (h : Heap) (ty : String) (x : Str) (t : Tok) : Heap := h.push { cls := .type ty, data := .fields #[.str x t, .int 0 0] }
abbrev zmH2 (h : Heap) (ty : String) (x : Str) (t : Tok) (b : Addr) : Heap := (zmH1 h ty x t).push { cls := .type "list_iterator", data := .fields #[.ref b, .int 0 0] }
abbrev zmH3 (h : Heap) (ty : String) (x : Str) (t : Tok) (b : Addr) : Heap := (zmH2 h ty x t b).push { cls := .type "tuple", data := .seq #[.ref h.objs.size, .ref (zmH1 h ty x t).objs.size] }
abbrev zmH4 (h : Heap) (ty : String) (x : Str) (t : Tok) (b : Addr) : Heap := (zmH3 h ty x t b).push { cls := .type "tuple", data := .seq #[.none, .none] }
abbrev zmH5 (h : Heap) (ty : String) (x : Str) (t : Tok) (b : Addr) : Heap := (zmH4 h ty x t b).push { cls := .type "zip", data := .fields #[.none, .bool false, .bool false, .ref (zmH2 h ty x t b).objs.size, .ref (zmH3 h ty x t b).objs.size] }
theorem meets_zipM1 (x : Str) (t : Tok) (ha : x.cps.all (· < 128) = true) (b : Addr) (ys : Array Value) :
    Meets (Builtin.«zip.__new__» ⟨[.type "zip", .str x t, .ref b], []⟩) (fun _ R s => s.heap.IsList b ys ∧
      R (.ok (.ret (.ref (zmH4 s.heap "str_ascii_iterator" x t b).objs.size))) { s with heap := zmH5 s.heap "str_ascii_iterator" x t b }) :=
  .of_wp fun prog w A R s h => by
    obtain ⟨hp, g, d, tk, os⟩ := s; obtain ⟨hl2, h⟩ := h
    have hsub := sub_zip
    have hL2 : Heap.IsList (Shared.heap ⟨hp.push { cls := .type "str_ascii_iterator", data := .fields #[.str x t, .int 0 0] }, g, d, tk, os⟩) b ys := Heap.IsList.push hl2 _
    wp_walk using wpAny_pyIter_ascii ha, wpAny_pyIter_list hL2
    exact ⟨_, rfl, h⟩
theorem meets_zipM2 (x : Str) (t : Tok) (ha : x.cps.all (· < 128) = false) (b : Addr) (ys : Array Value) :
    Meets (Builtin.«zip.__new__» ⟨[.type "zip", .str x t, .ref b], []⟩) (fun _ R s => s.heap.IsList b ys ∧
      R (.ok (.ret (.ref (zmH4 s.heap "str_iterator" x t b).objs.size))) { s with heap := zmH5 s.heap "str_iterator" x t b }) :=
  .of_wp fun prog w A R s h => by
    obtain ⟨hp, g, d, tk, os⟩ := s; obtain ⟨hl2, h⟩ := h
    have hsub := sub_zip
    have hL2 : Heap.IsList (Shared.heap ⟨hp.push { cls := .type "str_iterator", data := .fields #[.str x t, .int 0 0] }, g, d, tk, os⟩) b ys := Heap.IsList.push hl2 _
    wp_walk using wpAny_pyIter_wide ha, wpAny_pyIter_list hL2
    exact ⟨_, rfl, h⟩
def TyS (ty : String) : Prop := ty = "str_ascii_iterator" ∨ ty = "str_iterator"
theorem call_zipM {x : Str} {t : Tok} {b : Addr} {ys : Array Value} {Q : Value → Shared → Prop} (hl2 : s.heap.IsList b ys)
    (h : ∀ ty h', TyS ty → IsZip h' (s.heap.objs.size + 4) (s.heap.objs.size + 2) (s.heap.objs.size + 3) .none → IsPair h' (s.heap.objs.size + 2) (.ref s.heap.objs.size) (.ref (s.heap.objs.size + 1)) →
      IsPair h' (s.heap.objs.size + 3) .none .none → h'.IsStrIter s.heap.objs.size ty x t 0 → h'.IsListIter (s.heap.objs.size + 1) b 0 → h'.objs.size = s.heap.objs.size + 5 →
      (∀ c o, s.heap.get? c = some o → h'.get? c = some o) → Q (.ref (s.heap.objs.size + 4)) { s with heap := h' }) :
    wpAny (model prog w) A (call (.type "zip") [.str x t, .ref b]) Q E s := by
  have fin : ∀ ty, TyS ty → (Q (.ref (zmH4 s.heap ty x t b).objs.size) { s with heap := zmH5 s.heap ty x t b }) := fun ty hty => by
    have z1 : (zmH1 s.heap ty x t).objs.size = s.heap.objs.size + 1 := Heap.size_push ..
    have z2 : (zmH2 s.heap ty x t b).objs.size = s.heap.objs.size + 2 := by rw [Heap.size_push, z1]
    have z3 : (zmH3 s.heap ty x t b).objs.size = s.heap.objs.size + 3 := by rw [Heap.size_push, z2]
    have z4 : (zmH4 s.heap ty x t b).objs.size = s.heap.objs.size + 4 := by rw [Heap.size_push, z3]
    have z5 : (zmH5 s.heap ty x t b).objs.size = s.heap.objs.size + 5 := by rw [Heap.size_push, z4]
    have g5 : (zmH5 s.heap ty x t b).get? (zmH4 s.heap ty x t b).objs.size = some _ := Heap.get?_push_size _ rfl
    have g4 : (zmH5 s.heap ty x t b).get? (zmH3 s.heap ty x t b).objs.size = some _ := Heap.get?_push_of_some _ (Heap.get?_push_size _ rfl)
    have g3 : (zmH5 s.heap ty x t b).get? (zmH2 s.heap ty x t b).objs.size = some _ := Heap.get?_push_of_some _ (Heap.get?_push_of_some _ (Heap.get?_push_size _ rfl))
    have g2 : (zmH5 s.heap ty x t b).get? (zmH1 s.heap ty x t).objs.size = some _ := Heap.get?_push_of_some _ (Heap.get?_push_of_some _ (Heap.get?_push_of_some _ (Heap.get?_push_size _ rfl)))
    have g1 : (zmH5 s.heap ty x t b).get? s.heap.objs.size = some _ := Heap.get?_push_of_some _ (Heap.get?_push_of_some _ (Heap.get?_push_of_some _ (Heap.get?_push_of_some _ (Heap.get?_push_size _ rfl))))
    rw [z2, z3, z4] at g5
    rw [z1, z2] at g3
    rw [z3] at g4
    rw [z1] at g2
    rw [z4]
    exact h ty _ hty g5 g3 g4 ⟨_, g1, rfl, rfl⟩ ⟨_, g2, rfl, rfl⟩ z5 fun c o x => Heap.get?_push_of_some _ (Heap.get?_push_of_some _ (Heap.get?_push_of_some _ (Heap.get?_push_of_some _ (Heap.get?_push_of_some _ x))))
  have cell : ∀ ty, ∃ o, (zmH5 s.heap ty x t b).get? (zmH4 s.heap ty x t b).objs.size = some o ∧ o.cls = .type "zip" := fun ty => ⟨_, Heap.get?_push_size _ rfl, rfl⟩
  cases ha : x.cps.all (· < 128)
  · exact callType_new F.called_zip (by decide) (F.typeCall_zip_2 _ _) (F.newCall_zip_2 _ _) (fun obj => F.args_object_init_3 obj _ _) F.entry_zip_new (meets_zipM2 x t ha b ys) ⟨hl2, cell _, fin _ (.inr rfl)⟩
  · exact callType_new F.called_zip (by decide) (F.typeCall_zip_2 _ _) (F.newCall_zip_2 _ _) (fun obj => F.args_object_init_3 obj _ _) F.entry_zip_new (meets_zipM1 x t ha b ys) ⟨hl2, cell _, fin _ (.inl rfl)⟩
end
def Itm (K : PySem.W.Frag) (x : Str) (b : Addr) : It :=
  ⟨fun i H => ∃ (ys : List V) (y : V), SqL K H b ys ∧ ys[i]? = some y ∧ i < x.cps.size,
    fun i H v H' => ∃ (T : Addr) (c : Nat) (y : V), v = .ref T ∧ H T = none ∧ H' = upd H T (.tup [.str ⟨#[c]⟩, y]) ∧ x.cps[i]? = some c ∧ ∀ ys, SqL K H b ys → ys[i]? = some y,
    fun i H => ∃ ys : List V, SqL K H b ys ∧ (x.cps.size ≤ i ∨ ys.length ≤ i)⟩
theorem drawsM {prog : Program} {w : World} {A : Around} (hh : A.handled = none) (i1 : Addr) (x : Str) (t : Tok) {ty : String} (hty : TyS ty) :
    Draws prog w A i1 [i1] x.cps.size (fun i v => ∃ c u, x.cps[i]? = some c ∧ v = .str ⟨#[c]⟩ u) (fun i h => h.IsStrIter i1 ty x t i) := by
  rcases hty with e | e
  · rw [e]; exact Draws.strAscii hh i1 x t
  · rw [e]; exact Draws.strWide hh i1 x t
theorem overM {prog : Program} {w : World} {A : Around} (hh : A.handled = none) {i1 : Addr} {x : Str} {t : Tok} {ty : String} (hty : TyS ty) {i : Nat} {h : Heap} (st : h.IsStrIter i1 ty x t i) :
    ∃ (n : Nat) (St : Nat → Heap → Prop), Draws prog w A i1 [i1] n (fun i v => ∃ c u, x.cps[i]? = some c ∧ v = .str ⟨#[c]⟩ u) St ∧ St i h ∧ i ≤ n ∧ (x.cps.size ≤ i → i = n) := by
  by_cases hi : i ≤ x.cps.size
  · exact ⟨_, _, drawsM hh i1 x t hty, st, hi, fun h => by omega⟩
  · refine ⟨i, fun j h => j = i ∧ h.IsStrIter i1 ty x t i, ⟨fun j h st => ?_, fun j h h' st k => ?_, fun j s Q E hj st => by omega, fun s Q E st hE => ?_⟩, ⟨rfl, st⟩, Nat.le_refl _, fun _ => rfl⟩
    · obtain ⟨_, o, ho, _⟩ := st
      exact ⟨o, ho⟩
    · obtain ⟨e, o, ho, r⟩ := st
      exact ⟨e, o, k i1 (by simp) o ho, r⟩
    · have hx : x.cps[i]? = none := by simp; omega
      rcases hty with e | e
      · rw [e] at st; exact wpAny_nextOf_ascii_end hh st.2 hx hE
      · rw [e] at st; exact wpAny_nextOf_wide_end hh st.2 hx hE
theorem overL {prog : Program} {w : World} {A : Around} (hh : A.handled = none) {i2 b : Addr} (hne : b ≠ i2) {ys : Array Value} {i : Nat} {h : Heap} (st : h.IsListIter i2 b i) (sl : h.IsList b ys) :
    ∃ (n : Nat) (St : Nat → Heap → Prop), Draws prog w A i2 [i2, b] n (fun i v => ys[i]? = some v) St ∧ St i h ∧ i ≤ n ∧ (ys.size ≤ i → i = n) := by
  by_cases hi : i ≤ ys.size
  · exact ⟨_, _, Draws.list hh i2 b hne ys, ⟨st, sl⟩, hi, fun h => by omega⟩
  · refine ⟨i, fun j h => j = i ∧ h.IsListIter i2 b i ∧ h.IsList b ys, ⟨fun j h st => ?_, fun j h h' st k => ?_, fun j s Q E hj st => by omega, fun s Q E st hE => ?_⟩, ⟨rfl, st, sl⟩, Nat.le_refl _, fun _ => rfl⟩
    · obtain ⟨_, ⟨o, ho, _⟩, _⟩ := st
      exact ⟨o, ho⟩
    · exact ⟨st.1, st.2.1.at fun o e => k i2 (by simp) o e, st.2.2.at fun o e => k b (by simp) o e⟩
    · exact wpAny_nextOf_list_end hh st.2.1 st.2.2 (by simp; omega) hE
theorem turn_zipM {P : Program} {w : World} {K : PySem.W.Frag} {elts : List Expr} {kk : Nat} {tpos : Pos} {x : Str} {t : Tok} {ty : String} {b z TI TO i1 i2 : Addr} (hty : TyS ty) (S : ZipSep2 z TI TO i1 i2 [i1] [i2, b]) (hne : b ≠ i2) :
    Turn P w K (.Tuple elts kk tpos) (Itm K x b) [z, TI, TO, i1, i2] z (fun i h => IsZip h z TI TO .none ∧ IsPair h TI (.ref i1) (.ref i2) ∧ (∃ x y, IsPair h TO x y) ∧ h.IsStrIter i1 ty x t i ∧ h.IsListIter i2 b i) where
  mem := by simp
  obj := fun i h st c hc => by
    obtain ⟨hz, hTI, ⟨x, y, hTO⟩, ⟨o1, e1, _, d1⟩, ⟨o2, e2, _, d2⟩⟩ := st
    have e' : c = z ∨ c = TI ∨ c = TO ∨ c = i1 ∨ c = i2 := by simpa using hc
    rcases e' with q | q | q | q | q
    · rw [q]; exact ⟨_, hz, fun v q => nomatch q⟩
    · rw [q]; exact ⟨_, hTI, fun v q => nomatch q⟩
    · rw [q]; exact ⟨_, hTO, fun v q => nomatch q⟩
    · rw [q]; exact ⟨o1, e1, fun v q => by rw [d1] at q; cases q⟩
    · rw [q]; exact ⟨o2, e2, fun v q => by rw [d2] at q; cases q⟩
  keep := fun i h h' st k => by
    obtain ⟨hz, hTI, ⟨x, y, hTO⟩, ⟨o1, e1, r1⟩, h2⟩ := st
    exact ⟨k z (by simp) _ hz, k TI (by simp) _ hTI, ⟨x, y, k TO (by simp) _ hTO⟩, ⟨o1, k i1 (by simp) _ e1, r1⟩, h2.at fun o q => k i2 (by simp) o q⟩
  item := by
    intro X hP hw hK hc i pins s σ H E I hf st hg
    subst hP hw hK
    obtain ⟨hz, hTI, ⟨x0, y0, hTO⟩, h1, h2⟩ := st
    obtain ⟨ys, y, hqy, hy, hix⟩ := hg
    obtain ⟨its2, rv2, p2, _⟩ := I.list hqy
    obtain ⟨u2, hu2, ru2⟩ := rv2.get hy
    have hil : i < its2.toArray.size := by
      have := (List.getElem?_eq_some_iff.mp hu2).1
      simpa using this
    have hzl : z < s.heap.objs.size := Heap.lt_size hz
    refine wpAny_pyNext_zipD2_item S (drawsM (A := X.A.in1) (I.ok.hd hc) i1 x t hty) (Draws.list (A := X.A.in1) (I.ok.hd hc) i2 b hne its2.toArray) hz hTI hTO h1 ⟨h2, p2.isList⟩ hix hil fun x1 x2 h' tk q1 q2 z' TO' h1' h2' hT hsz hk => ?_
    obtain ⟨c, u, hcx, rfl⟩ := q1
    have ex2 : x2 = u2 := by
      have : its2[i]? = some x2 := by simpa using q2
      rw [hu2] at this
      exact (Option.some.inj this).symm
    subst ex2
    refine ⟨_, rfl, wpAny_letOwnedTupleGo_zip (s := { s with heap := h', toks := tk }) z' fun h'' z'' sb => ?_⟩
    have hT2 : h''.get? s.heap.objs.size = some { cls := .type "tuple", data := .seq #[.str ⟨#[c]⟩ u, x2] } := (sb.2 _ (Nat.ne_of_gt hzl)).trans hT
    have new : ObjOk X.prog X.w (upd H s.heap.objs.size (.tup [.str ⟨#[c]⟩, y])) h'' s.heap.objs.size (.tup [.str ⟨#[c]⟩, y]) :=
      ⟨by show 2 ≤ sizeLine; decide, [.str ⟨#[c]⟩ u, x2], .cons ⟨u, rfl⟩ (.cons ru2 .nil), ⟨_, hT2, rfl, _, rfl⟩⟩
    have I1 : Inv X pins σ (upd H s.heap.objs.size (.tup [.str ⟨#[c]⟩, y])) { s with heap := h'', toks := tk } :=
      I.turnedNew (t' := tk) (ch := [z, TI, TO, i1, i2]) (fun c o hb q => (sb.2 c (fun q' => hb (by simp [q']))).trans (hk c o (fun q' => hb (by simp [q'])) (fun q' => hb (by simp [q'])) (fun q' => hb (by simp [q'])) (fun q' => hb (by simp [q'])) q)) hf (Nat.le_refl _) new
    refine ⟨.ref s.heap.objs.size, _, I1, rfl, ⟨_, c, y, rfl, I.hok.fresh (Nat.le_refl _), rfl, hcx, fun l hl => by rw [I.list_inj hl hqy]; exact hy⟩, ⟨z'', ?_, ⟨.str ⟨#[c]⟩ u, x2, ?_⟩, ?_, ?_⟩, fun c hcm => ?_⟩
    · exact (sb.2 _ S.TIz).trans (hk _ _ S.TIz S.TITO S.TIi1 S.TIi2 hTI)
    · exact (sb.2 _ S.TOz).trans TO'
    · obtain ⟨o1, e1, r1⟩ := h1'
      exact ⟨o1, (sb.2 _ (Ne.symm S.zi1)).trans e1, r1⟩
    · exact h2'.1.at fun o q => (sb.2 _ (Ne.symm S.zi2)).trans q
    · have hlt : c < s.heap.objs.size := by
        have e' : c = z ∨ c = TI ∨ c = TO ∨ c = i1 ∨ c = i2 := by simpa using hcm
        rcases e' with q | q | q | q | q
        · rw [q]; exact hzl
        · rw [q]; exact Heap.lt_size hTI
        · rw [q]; exact Heap.lt_size hTO
        · rw [q]; obtain ⟨_, e1, _⟩ := h1; exact Heap.lt_size e1
        · rw [q]; obtain ⟨_, e2, _⟩ := h2; exact Heap.lt_size e2
      rw [upd_ne (Nat.ne_of_lt hlt)]
      exact (hf c hcm).1
  done := by
    intro X hP hw hK hc i pins s σ H E I hf st hg
    subst hP hw hK
    obtain ⟨hz, hTI, ⟨x0, y0, hTO⟩, h1, h2⟩ := st
    obtain ⟨ys, hqy, hend⟩ := hg
    obtain ⟨its2, rv2, p2, _⟩ := I.list hqy
    have l2 := rv2.length
    have l3 : its2.toArray.size = its2.length := by simp
    obtain ⟨n1, St1, D1, s1, le1, z1⟩ := overM (prog := X.prog) (w := X.w) (A := X.A.in1) (I.ok.hd hc) hty h1
    obtain ⟨n2, St2, D2, s2, le2, z2⟩ := overL (prog := X.prog) (w := X.w) (A := X.A.in1) (I.ok.hd hc) hne h2 p2.isList
    exact wpAny_pyNext_zipD2_end S D1 D2 hz hTI hTO s1 s2 le1 le2 (hend.imp z1 fun h => z2 (by omega)) fun h' tk hk => ⟨rfl, I.turnedL (t' := tk) (ch := [z, TI, TO, i1, i2]) (fun c o hb q =>
      hk c o (fun q' => hb (by simp [q'])) (fun q' => hb (by simp [q'])) (fun q' => hb (by simp [q'])) (fun q' => hb (by simp [q'])) q) hf⟩
  self := fun A i s Q E st h => wpAny_pyIter_zip st.1 h
def iZipM (K : PySem.W.Frag) (ta : TA) : TI := fun σ H R => ta σ H fun vs H1 => ∃ x b ys, vs = [.str x, .ref b] ∧ SqL K H1 b ys ∧ R (Itm K x b) H1
theorem pi_zipM {X : Cx} {e e2 : Expr} {ta : TA} {p pos tpos : Pos} {elts : List Expr} {kk : Nat} (hg : Gl X "zip") (hm : X.mg "zip" = none) (ha : PA X [e, e2] ta)
    (hs : starEach [e, e2] X.env = (false, eval e X.env) :: starEach [e2] X.env := by rfl) (hpl : (backTo pos (starEach [e2] X.env)).any (·.1) = false := by rfl) :
    PI X (.Tuple elts kk tpos) (.Call (.Name "zip" p) [e, e2] [] pos) (iZipM X.K ta) := by
  refine ⟨fun pins s σ H R I h => Call_ (ld_blt I hg hm PyProof.Rows.boot_zip (PyProof.Rows.callWith_type1 (thn (ha.run pos pins s σ H _ I h) fun us s1 ⟨vs, H1, I1, r1, q1⟩ => ?_) hs hpl))⟩
  obtain ⟨x, b, ys, rfl, hqy, q⟩ := q1
  obtain ⟨u, u2, rfl, ru, ru2⟩ := vals2 r1
  obtain ⟨t, rfl⟩ := ru
  cases ru2
  have fresh5 : ∀ c, c ∈ [s1.heap.objs.size + 4, s1.heap.objs.size + 2, s1.heap.objs.size + 3, s1.heap.objs.size, s1.heap.objs.size + 1] → FpOk X pins H1 c := fun c hcm => by
    have hle : s1.heap.objs.size ≤ c := by
      simp only [List.mem_cons, List.not_mem_nil, or_false] at hcm
      rcases hcm with z | z | z | z | z <;> rw [z] <;> first | exact Nat.le_refl _ | exact Nat.le_add_right _ _
    exact I1.fpOk hle (I1.hok.fresh hle)
  obtain ⟨its2, rv2, p2, _⟩ := I1.list hqy
  have hb := p2.lt
  refine call_zipM p2.isList fun ty h' hty hz hTI hTO h1 h2 hsz hk => wpAny_pyIter_zip hz ?_
  have I2 : Inv X pins σ H1 { s1 with heap := h' } := I1.kept (t' := s1.toks) hk
  have key : ∀ n b : Nat, b < n → ZipSep2 (n + 4) (n + 2) (n + 3) n (n + 1) [n] [n + 1, b] := by
    intro n b hb
    have ne : ∀ {a c : Nat}, a ≠ c → ∀ {z : Addr}, z = c → (a : Addr) ≠ z := fun h _ e => e ▸ h
    have nm : ∀ {a c d : Nat}, a ≠ c → a ≠ d → (a : Addr) ∉ [(c : Addr), d] := fun {a c d} h1 h2 h => by
      simp only [List.mem_cons, List.not_mem_nil, or_false] at h
      exact h.elim h1 h2
    have nm1 : ∀ {a c : Nat}, a ≠ c → (a : Addr) ∉ [(c : Addr)] := fun {a c} h1 h => by
      simp only [List.mem_cons, List.not_mem_nil, or_false] at h
      exact h1 h
    have h1 : n + 2 ≠ n + 4 := by omega
    have h2 : n + 3 ≠ n + 4 := by omega
    have h3 : n + 2 ≠ n + 3 := by omega
    have h4 : n + 2 ≠ n := by omega
    have h5 : n + 4 ≠ n := by omega
    have h6 : n + 3 ≠ n := by omega
    have h7 : n + 2 ≠ n + 1 := by omega
    have h8 : n + 4 ≠ n + 1 := by omega
    have h9 : n + 4 ≠ b := by omega
    have h10 : n + 3 ≠ n + 1 := by omega
    have h11 : n + 3 ≠ b := by omega
    have h12 : n ≠ n + 1 := by omega
    have h13 : n ≠ b := by omega
    have h14 : n + 1 ≠ n := by omega
    exact ⟨h1, h2, h3, h4, List.mem_cons_self .., nm1 h5, nm1 h6, h7, List.mem_cons_self .., nm h8 h9, nm h10 h11, nm h12 h13, nm1 h14⟩
  exact ⟨s1.heap.objs.size + 4, [s1.heap.objs.size + 4, s1.heap.objs.size + 2, s1.heap.objs.size + 3, s1.heap.objs.size, s1.heap.objs.size + 1], _, _, H1, rfl, I2, turn_zipM hty (key _ _ hb) (Nat.ne_of_lt (Nat.lt_succ_of_lt hb)), ⟨hz, hTI, ⟨_, _, hTO⟩, h1, h2⟩, fresh5, q⟩
end RZ
namespace L3
open PySem PySem.Spec PyProof.Rows L2
section
variable {K : PySem.W.Frag} {X : Cx} {tpos p pos : Pos} {elts : List Expr} {kk : Nat} {a b : Expr} {tl : TA} {L : AV}
def sgL (x : Str) : List D := x.cps.toList.map fun c => .str ⟨#[c]⟩
def iZipM (L : AV) : IV := fun Γ C Q => L Γ C fun ds C1 => ∃ x d ys, ds = [.str x, d] ∧ lstOf C1 d = some ys ∧ noptrs ys = true ∧ Q (zipD (sgL x) ys) (srcOf d) C1
theorem vi_zipM (hK : X.K = K) (hm : X.mg "zip" = none) (h : VA K X [a, b] tl L) (hg : Gl X "zip" := by rfl) (hs : starEach [a, b] X.env = (false, eval a X.env) :: starEach [b] X.env := by rfl) (hpl : (backTo pos (starEach [b] X.env)).any (·.1) = false := by rfl) :
    VI K X (.Tuple elts kk tpos) (.Call (.Name "zip" p) [a, b] [] pos) (RZ.iZipM K tl) (iZipM L) := by
  subst hK
  refine ⟨RZ.pi_zipM hg hm h.pa hs hpl, fun H0 A0 av ad Γ C σ H Q3 Rr R h3 q => ?_⟩
  refine h.sim H0 A0 av ad Γ C σ H _ _ R h3 fun vs H' av' ad' ds C' R' l' dv ⟨x, d', ys, e1, e', hnp, q3⟩ => ?_
  subst e1
  obtain ⟨v, v', rfl, r, r'⟩ := den2 dv
  cases r
  obtain ⟨b, rfl, ⟨us, hs2⟩, later2⟩ := lst_later (ds := zipD (sgL x) ys) (src := srcOf d') R' r' e' (fun _ z => z) (fun _ => hnp)
  have hsg : (sgL x).length = x.cps.size := by simp [sgL]
  refine ⟨x, b, us, rfl, hs2, q _ H' av' ad' C' _ _ R' l' (fun av1 ad1 Γ1 C1 σ1 H1 i R1 k => ?_) q3⟩
  obtain ⟨us1, s2, r2⟩ := later2 av1 ad1 Γ1 C1 σ1 H1 R1 k
  have l2 := r2.length
  rw [zipD_len]
  refine ⟨fun hi => ⟨⟨us1, us1[i]'(by omega), s2, by simp, by omega⟩, fun y H2 ⟨T, c, z, e1, e2, e3, e4, e5⟩ => ?_⟩, fun hi => ⟨us1, s2, by omega⟩⟩
  subst e1 e3
  obtain ⟨dz, e7, rz⟩ := r2.get' (e5 us1 s2)
  have e6 : (sgL x)[i]? = some (.str ⟨#[c]⟩) := by
    unfold sgL
    rw [List.getElem?_map]
    have : x.cps.toList[i]? = some c := by simpa using e4
    rw [this]
    rfl
  exact ⟨same_upd e2, _, zipD_get (sgL x) ys i e6 e7, .tup ⟨upd_same, R1.nav e2⟩ (.cons .str (.cons (rz.le (Le.new e2)) .nil))⟩
end
end L3
namespace L3
open PySem PySem.Spec PyProof.Rows L2
section
variable {K : PySem.W.Frag}
theorem den_key {H0 : Hp} {av : Av} {ad : Ads} {H : Hp} (k : Key) : Den K H0 av ad H (kV k) (kD k) := by
  cases k with
  | inl i => exact .int
  | inr s => exact .str
end
def iKk (i : Nat) : IV := fun Γ C Q => ∃ o ks xs, Γ[i]? = some (some (.dk o ks xs)) ∧ Q (ks.map kD) [] C
section
variable {K : PySem.W.Frag}
theorem sim_keysK {i : Nat} {σl : L2.St} {Hl : Hp} {d : Addr} {od : Obj} {kvs : List (Key × V)} (h1 : σl[i]? = some (some (.ref d))) (hl : Hl d = some (.frz od (.dK kvs))) : SimI K (fun σ H R => σ = σl ∧ H = Hl → iKeys (tVar i) σ H R) (iKk i) := by
  intro H0 A0 av ad Γ C σ H Q3 Rr R ⟨o, ks, xs, hs, h⟩ q ⟨e1, e2⟩
  subst e1 e2
  obtain ⟨v, h2, dv⟩ := R.slot i _ hs
  rw [h1] at h2
  cases h2
  cases dv with
  | @dk a kvs' _ _ _ rd nav ho hk da =>
  have ek : kvs' = kvs := by
    rcases rd with r | ⟨o2, r⟩
    · rw [hl] at r; cases r
    · rw [hl] at r; cases r; rfl
  subst ek
  refine ⟨.ref d, h1, d, od, rfl, .inl ⟨kvs', hl, q (Itk d od kvs') H av ad C _ [] R Le.refl (fun av1 ad1 Γ1 C1 σ1 H1 j R1 kp => ?_) h⟩⟩
  have hf := (kp.1 d _ hl nav).1
  have hlen : (ks.map kD).length = kvs'.length := by rw [List.length_map, ← hk, List.length_map]
  refine ⟨fun hi => ⟨⟨hf, by omega⟩, fun x H2 ⟨e1, k, w, e2, e3⟩ => ?_⟩, fun hi => ⟨hf, by omega⟩⟩
  subst e1 e3
  refine ⟨fun _ _ h => h, kD k, ?_, den_key k⟩
  rw [← hk, List.getElem?_map, List.getElem?_map, e2]
  rfl
theorem tlc_at' {wi : TI} {g : TG} {tt : TT} {te : TE} {vs : List Nat} {σ : L2.St} {H : Hp} {Q : VK} (h : tLc (fun σ' H' R => σ' = σ ∧ H' = H → wi σ' H' R) g tt te vs σ H Q) : tLc wi g tt te vs σ H Q := h ⟨rfl, rfl⟩
theorem sim_lcKk {i : Nat} {vs : List Nat} {g : TG} {G : GV} {tt : TT} {B : BV} {te : TE} {E : EV} (hg : SimG K g G) (ho : GOwn vs g) (ht : SimT K tt B) (he : SimE K te E) : SimF K (tOr (tLc (iKeys (tVar i)) g tt te vs)) (fLc vs (iKk i) G B E) := by
  intro H0 A0 av ad Γ C σ H Q3 Q R h q
  obtain ⟨o, ks, xs, hs, h'⟩ := id h
  obtain ⟨v, h1, dv⟩ := R.slot i _ hs
  cases dv with
  | @dk d kvs _ _ _ rd nav hfl hk da =>
  rcases rd with rd | ⟨od, rd⟩
  · refine .inr ⟨d, .dK kvs, rd, trivial, fun od => ?_⟩
    have g' : IsD (.dK kvs) := trivial
    have hl : (upd H d (.frz od (.dK kvs))) d = some (.frz od (.dK kvs)) := upd_same
    have k := lk_on (od := od) rd
    -- the heap at the start, locked too where it knew the dict
    obtain ⟨H0', k0, hd0⟩ : ∃ H0', Lk d (.dK kvs) H0 H0' ∧ (∀ x, H0' d = some x → x = .frz od (.dK kvs)) := by
      cases e0 : H0 d with
      | none => exact ⟨H0, lk_id (fun o e => (by rw [e0] at e; cases e)), fun x e => (by rw [e0] at e; cases e)⟩
      | some w =>
        have : w = .dK kvs := by
          by_cases hA : d ∈ A0
          · obtain ⟨j, hj⟩ := List.mem_iff_getElem?.mp hA
            exact absurd (R.av_of (R.pre j d hj)) nav
          · have := R.keep d w e0 hA
            rw [rd] at this
            exact (Option.some.inj this).symm
        subst this
        exact ⟨_, lk_on (od := od) e0, fun x e => by rw [upd_same] at e; exact (Option.some.inj e).symm⟩
    have R' := R.lk g' k0 k nav (fun x e => by rw [hd0 x e]; exact hl)
    refine tlc_at' ((sim_lc (sim_keysK h1 hl) hg ho ht he) H0' A0 av ad Γ C σ _ Q3 _ R' h fun a H1 av1 ad1 c C1 R1 hsub hna hn l1 ok h3 => ?_)
    have hf : H1 d = some (.frz od (.dK kvs)) := (l1.fz d _ hl nav).1
    have nav1 := (l1.fz d _ hl nav).2
    refine ⟨hf, ?_⟩
    have k1 := lk_off hf
    have nda : a ≠ d := fun e => nav1 (.inr e.symm)
    have hn' : H a = none := by rw [upd_ne nda] at hn; exact hn
    have R2 := R1.lk g' k0.symm k1 nav1 (fun x e => by
      have := R.keep d x e fun hA => by
        obtain ⟨j, hj⟩ := List.mem_iff_getElem?.mp hA
        exact absurd (R.av_of (R.pre j d hj)) nav
      rw [rd] at this
      rw [upd_same]
      exact this)
    exact q a _ av1 ad1 c C1 R2 hsub hna hn' (l1.lk k.symm k1 nav rd upd_same (by rw [hl]; exact nofun)) (ok.lk g' k0.symm k1 nda) h3
  · exact .inl (tlc_at' ((sim_lc (sim_keysK h1 rd) hg ho ht he) H0 A0 av ad Γ C σ H Q3 Q R h q))
variable {X : Cx} {elt tg : Expr} {ifs : List Expr} {scope : Scope} {own : List (Str × Nat)} {pos p : Pos} {g : TG} {tt : TT} {te : TE} {G : GV} {B : BV} {E : EV} {x : Str}
theorem vf_lcKk (i : Nat) (hc : X.calm = true) (hN : X.N.Nodup) (ok : BlkOk X.N X.env.scope scope own) (ho : GOwn (own.map (·.2)) g)
    (hg : ∀ (s : Shared) (H : Hp) (C : Addr) (cl : List (Str × Addr)) (fp : List Addr), VG K (X.blk s H scope (compEnvC scope cl C X.env) fp) tg g G) (ht : ∀ (s : Shared) (H : Hp) (C : Addr) (cl : List (Str × Addr)) (fp : List Addr), VTs K (X.blk s H scope (compEnvC scope cl C X.env) fp) ifs tt B)
    (he : ∀ (s : Shared) (H : Hp) (C : Addr) (cl : List (Str × Addr)) (fp : List Addr), VE K (X.blk s H scope (compEnvC scope cl C X.env) fp) elt te E) (hi : X.N[i]? = some x := by rfl) (hv : Vis X.env.scope x := by first | exact Or.inl rfl | exact Or.inr (Or.inl rfl) | exact Or.inr (Or.inr rfl)) (hd : (x == ("__debug__" : Str)) = false := by decide)
    (hcd : (x == ("__classdict__" : Str)) = false := by decide) (hs : ∀ v, foldedSetIterable (.Name x p) X.env v = pure v := by intro _; rfl) :
    VF K X (.ListComp elt [⟨tg, .Name x p, ifs, 0⟩] scope pos) (tOr (tLc (iKeys (tVar i)) g tt te (own.map (·.2)))) (fLc (own.map (·.2)) (iKk i) G B E) :=
  ⟨pe_or (pe_lc hc hN (pi_keys (pe_var hi hv hd hcd)) ok (fun s H C cl fp => (hg s H C cl fp).pg) (fun s H C cl fp => (ht s H C cl fp).pt) (fun s H C cl fp => (he s H C cl fp).pe) hs),
    sim_lcKk (hg X.s_0 X.H_0 0 [] []).sim ho (ht X.s_0 X.H_0 0 [] []).sim (he X.s_0 X.H_0 0 [] []).sim⟩
end
section
variable {K : PySem.W.Frag} {X : Cx} {tg : Expr} {body : List Stmt} {pos p : Pos} {g : TG} {G : GV} {ts : TS} {T : SV} {wi : TI} {I : IV} {x : Str}
def iIk (i : Nat) : IV := fun Γ C Q => ∃ (o : Bool) (ks : List Key) (ns : List Int), Γ[i]? = some (some (.dk o ks (ns.map .int))) ∧ Q (zipD (ks.map kD) (ns.map .int)) [] C
theorem den_intsV {H0 H : Hp} {av : Av} {ad : Ads} : ∀ {vs : List V} {ns : List Int}, DenAll K H0 av ad H vs (ns.map .int) → vs = ns.map V.int
  | _, [], .nil => rfl
  | _, n :: ns, .cons a b => by
    cases a
    rw [List.map_cons, den_intsV b]
theorem sim_itemsK {i : Nat} {σl : L2.St} {Hl : Hp} {d : Addr} {od : Obj} {kvs : List (Key × V)} (h1 : σl[i]? = some (some (.ref d))) (hl : Hl d = some (.frz od (.dK kvs))) : SimI K (fun σ H R => σ = σl ∧ H = Hl → iItems (tVar i) σ H R) (iIk i) := by
  intro H0 A0 av ad Γ C σ H Q3 Rr R ⟨o, ks, ns, hs, h⟩ q ⟨e1, e2⟩
  subst e1 e2
  obtain ⟨v, h2, dv⟩ := R.slot i _ hs
  rw [h1] at h2
  cases h2
  cases dv with
  | @dk a kvs' _ _ _ rd nav ho hk da =>
  have ek : kvs' = kvs := by
    rcases rd with r | ⟨o2, r⟩
    · rw [hl] at r; cases r
    · rw [hl] at r; cases r; rfl
  subst ek
  have hn := den_intsV da
  have ln : kvs'.length = ns.length := by
    have := congrArg List.length hn
    simpa using this
  refine ⟨.ref d, h1, d, od, kvs', rfl, hl, q (Iti d od kvs') H av ad C _ [] R Le.refl (fun av1 ad1 Γ1 C1 σ1 H1 j R1 kp => ?_) h⟩
  have hf := (kp.1 d _ hl nav).1
  have hlen : (zipD (ks.map kD) (ns.map .int)).length = kvs'.length := by
    rw [zipD_len, List.length_map, List.length_map, ← hk, List.length_map]
    omega
  refine ⟨fun hi => ⟨⟨hf, by omega⟩, fun x H2 ⟨T, k, w, e2, e3, e4, e5⟩ => ?_⟩, fun hi => ⟨hf, by omega⟩⟩
  subst e3 e5
  have hk1 : (ks.map kD)[j]? = some (kD k) := by
    rw [← hk, List.getElem?_map, List.getElem?_map, e2]
    rfl
  obtain ⟨n, hn1, hn2⟩ : ∃ n, ns[j]? = some n ∧ w = .int n := by
    have : (kvs'.map (·.2))[j]? = some w := by rw [List.getElem?_map, e2]; rfl
    rw [hn, List.getElem?_map] at this
    cases hq : ns[j]? with
    | none => rw [hq] at this; cases this
    | some n => rw [hq] at this; cases this; exact ⟨n, rfl, rfl⟩
  subst hn2
  have hk2 : (ns.map D.int)[j]? = some (.int n) := by rw [List.getElem?_map, hn1]; rfl
  exact ⟨same_upd e4, _, zipD_get (ks.map kD) (ns.map .int) j hk1 hk2, .tup ⟨upd_same, R1.nav e4⟩ (.cons (den_key k) (.cons .int .nil))⟩
def sForIk (i : Nat) (G : GV) (T : SV) : SV := fun D3 Γ C => sFor (iIk i) G T { D3 with ex := fun _ _ _ => False } Γ C
theorem tfor_at2 {D : Ends} {σ : L2.St} {H : Hp} (h : tFor (fun σ' H' R => σ' = σ ∧ H' = H → wi σ' H' R) g ts D σ H) : tFor wi g ts D σ H := h ⟨rfl, rfl⟩
theorem sim_forIk {i : Nat} (hg : SimG K g G) (hb : SimS K ts T) : SimS K (tSOr (tFor (iItems (tVar i)) g ts)) (sForIk i G T) := by
  intro H0 A0 av ad Γ C σ H D3 De R h l
  obtain ⟨o, ks, ns, hs, h'⟩ := id h
  obtain ⟨v, h1, dv⟩ := R.slot i _ hs
  have calm : Lift K H0 A0 av ad H { D3 with ex := fun _ _ _ => False } De := ⟨l.nx, l.rt, l.bk, l.ct, fun _ _ _ _ _ _ _ _ _ _ _ _ q => q.elim⟩
  cases dv with
  | @dk d kvs _ _ _ rd nav hfl hk da =>
  rcases rd with rd | ⟨od, rd⟩
  · refine .inr ⟨d, .dK kvs, rd, trivial, fun od => ?_⟩
    have g' : IsD (.dK kvs) := trivial
    have hl : (upd H d (.frz od (.dK kvs))) d = some (.frz od (.dK kvs)) := upd_same
    have k := lk_on (od := od) rd
    have outside : d ∉ A0 := fun hA => by
      obtain ⟨j, hj⟩ := List.mem_iff_getElem?.mp hA
      exact nav (R.av_of (R.pre j d hj))
    obtain ⟨H0', k0, hd0⟩ : ∃ H0', Lk d (.dK kvs) H0 H0' ∧ (∀ x, H0' d = some x → x = .frz od (.dK kvs)) := by
      cases e0 : H0 d with
      | none => exact ⟨H0, lk_id (fun o e => (by rw [e0] at e; cases e)), fun x e => (by rw [e0] at e; cases e)⟩
      | some w =>
        have : w = .dK kvs := by
          have := R.keep d w e0 outside
          rw [rd] at this
          exact (Option.some.inj this).symm
        subst this
        exact ⟨_, lk_on (od := od) e0, fun x e => by rw [upd_same] at e; exact (Option.some.inj e).symm⟩
    have R' := R.lk g' k0 k nav (fun x e => by rw [hd0 x e]; exact hl)
    -- how what is reached with the lock stands without it
    have back : ∀ {av' : Av} {ad' : Ads} {Γ' : Slots} {C' : Store} {σ' : L2.St} {H' : Hp}, Rep K H0' A0 av' ad' Γ' C' σ' H' → Le av ad (upd H d (.frz od (.dK kvs))) av' ad' H' →
        H' d = some (.frz od (.dK kvs)) ∧ Lk d (.dK kvs) H' (upd H' d (.dK kvs)) ∧ Rep K H0 A0 av' ad' Γ' C' σ' (upd H' d (.dK kvs)) ∧ Le av ad H av' ad' (upd H' d (.dK kvs)) := fun {av' ad' Γ' C' σ' H'} R1 l1 => by
      obtain ⟨hf, nav1⟩ := l1.fz d _ hl nav
      have k1 := lk_off hf
      refine ⟨hf, k1, R1.lk g' k0.symm k1 nav1 (fun x e => ?_), l1.lk k.symm k1 nav rd upd_same (by rw [hl]; exact nofun)⟩
      have := R.keep d x e outside
      rw [rd] at this
      rw [upd_same]
      exact this
    refine tfor_at2 ((sim_for (sim_itemsK h1 hl) hg hb) H0' A0 av ad Γ C σ _ _ _ R' h ⟨fun av' ad' Γ' C' σ' H' R1 l1 q => ?_, fun av' ad' Γ' C' σ' H' v x R1 l1 dv q => ?_, fun av' ad' Γ' C' σ' H' R1 l1 q => ?_, fun av' ad' Γ' C' σ' H' R1 l1 q => ?_, fun _ _ _ _ _ _ _ _ _ _ _ _ q => q.elim⟩)
    · obtain ⟨hf, _, R2, l2⟩ := back R1 l1
      exact ⟨hf, l.nx _ _ _ _ _ _ R2 l2 q⟩
    · obtain ⟨hf, k1, R2, l2⟩ := back R1 l1
      exact ⟨hf, l.rt _ _ _ _ _ _ _ _ R2 l2 (dv.lk g' k0.symm k1) q⟩
    · obtain ⟨hf, _, R2, l2⟩ := back R1 l1
      exact ⟨hf, l.bk _ _ _ _ _ _ R2 l2 q⟩
    · obtain ⟨hf, _, R2, l2⟩ := back R1 l1
      exact ⟨hf, l.ct _ _ _ _ _ _ R2 l2 q⟩
  · exact .inl (tfor_at2 ((sim_for (sim_itemsK h1 rd) hg hb) H0 A0 av ad Γ C σ H _ De R h calm))
theorem vs_forIk (i : Nat) {elts : List Expr} {kk : Nat} {tpos apos cpos : Pos} (hp : PassesOwn (model X.prog X.w) X.A X.env X.xe) (hc : X.calm = true) (hg : VG K X (.Tuple elts kk tpos) g G) (hb : VSs K X body ts T) (hi : X.N[i]? = some x := by rfl) (hv : Vis X.env.scope x := by first | exact Or.inl rfl | exact Or.inr (Or.inl rfl) | exact Or.inr (Or.inr rfl)) (hd : (x == ("__debug__" : Str)) = false := by decide)
    (hcd : (x == ("__classdict__" : Str)) = false := by decide) (hs : ∀ v, foldedSetIterable (.Call (.Attribute (.Name x p) "items" apos) [] [] cpos) X.env v = pure v := by intro _; rfl) (hbase : attributeBase (.Name x p) "items" X.env (eval (.Name x p) X.env) = eval (.Name x p) X.env := by rfl) (hline : (apos.endLine == cpos.line) = true := by rfl) :
    VS K X (.For (.Tuple elts kk tpos) (.Call (.Attribute (.Name x p) "items" apos) [] [] cpos) body [] pos) (tSOr (tFor (iItems (tVar i)) g ts)) (sForIk i G T) :=
  ⟨ps_or (ps_for hp hc (pi_items (pe_var hi hv hd hcd) hbase hline) hg.pg hb.ps hs), sim_forIk hg.sim hb.sim⟩
def nSortDI : NN := fun C ds Q => ∃ (d : D) (ks : List Int) (xs : List D), ds = [d] ∧ dkOf C d = some (ks.map Sum.inl, xs) ∧ ks.length < 64 ∧ ∀ qs : List Int, qs.Perm ks → qs.Pairwise (· ≤ ·) → Q (.lst (qs.map .int))
def rSortDI : List V → Hp → VK → Prop := fun xs H Q => ∃ (a : Addr) (kvs : List (Key × V)) (ks : List Int), xs = [.ref a] ∧ Rd H a (.dK kvs) ∧ kvs.map (·.1) = ks.map Sum.inl ∧ ks.length < 64 ∧
    ∀ (ys : List Int) (p : Addr), ys.Perm ks → ys.Pairwise (· ≤ ·) → H p = none → Q (.ref p) (upd H p (.lst (ys.map V.int)))
theorem sf_sortDI : SimCF K rSortDI nSortDI := by
  intro H0 A0 av ad Γ C σ H vs ds Q3 Q R d1 ⟨d, ks, xs, e1, e2, h64, q3⟩ q
  subst e1
  obtain ⟨v, rfl, r⟩ := den1 d1
  obtain ⟨a, kvs, rfl, h1, hk, _⟩ := R.dk r e2
  refine ⟨a, kvs, ks, rfl, h1, hk, h64, fun ys p perm srt np => ?_⟩
  refine q H p _ (.lst (ys.map .int)) (fun _ _ h => h) np noTup_lst ?_ (q3 _ perm srt)
  have : ∀ ys : List Int, DenAll K H0 av ad H (ys.map V.int) (ys.map D.int) := fun ys => by
    induction ys with
    | nil => exact .nil
    | cons y ys ih => exact .cons .int ih
  exact this ys
end
end L3
namespace L3
open PySem PySem.Spec PyProof.Rows L2
section
variable {K : PySem.W.Frag} {X : Cx} {ts : TS} {T : SV}
end
section
variable {K : PySem.W.Frag} {X : Cx} {elt tg iter c : Expr} {ifs : List Expr} {scope : Scope} {own : List (Str × Nat)} {pos spos py : Pos} {wi : TI} {g : TG} {tt : TT} {te : TE} {I : IV} {G : GV} {B : BV} {E : EV} {F : FV} {x y : Str}
variable {x : Str} {p : Pos}
end
end L3
namespace L3
open PySem PySem.Spec PyProof.Rows L2
section
variable {K : PySem.W.Frag} {X : Cx} {a b c : Expr} {tl : TA} {L : AV} {pos : Pos}
end
end L3
namespace L3
open PySem PySem.Spec PyProof.Rows L2
section
variable {K : PySem.W.Frag} {X : Cx} {k n : Nat} {f : Addr} {fd : FuncData} {ps : List Str} {P : PV} {x : Str} {p pos : Pos} {e : Expr} {es : List Expr} {tl : TA} {L : AV}
end
end L3
namespace L3
open PySem PySem.Spec PyProof.Rows L2
abbrev XQv := XD → Slots → Store → Prop
section
variable (K : PySem.W.Frag) (W0 : WX)
def LiftX (H0 : Hp) (A0 : List Addr) (av : Av) (ad : Ads) (H : Hp) (XQ : XQv) : Prop := ∀ (av' : Av) (ad' : Ads) (Γ' : Slots) (C' : Store) (σ' : L2.St) (H' : Hp) (cls : Value) (d : Option Addr) (x : XD), Rep K H0 A0 av' ad' Γ' C' σ' H' → Le av ad H av' ad' H' → DenX K H0 av' ad' H' cls d x → XQ x Γ' C' → W0 cls d σ' H'
def SimEY (t : TE) (E : XQv → EV) : Prop := ∀ (H0 : Hp) (A0 : List Addr) (av : Av) (ad : Ads) (Γ : Slots) (C : Store) (σ : L2.St) (H : Hp) (XQ : XQv) (Q3 : D → Store → Prop) (Q : VK), Rep K H0 A0 av ad Γ C σ H → E XQ Γ C Q3 → LiftX K W0 H0 A0 av ad H XQ →
  (∀ (v : V) (H' : Hp) (av' : Av) (ad' : Ads) (d : D) (C' : Store), Rep K H0 A0 av' ad' Γ C' σ H' → Le av ad H av' ad' H' → Den K H0 av' ad' H' v d → Q3 d C' → Q v H') → t σ H Q
def SimFY (t : TE) (E : XQv → FV) : Prop := ∀ (H0 : Hp) (A0 : List Addr) (av : Av) (ad : Ads) (Γ : Slots) (C : Store) (σ : L2.St) (H : Hp) (XQ : XQv) (Q3 : Cell → Store → Prop) (Q : VK), Rep K H0 A0 av ad Γ C σ H → E XQ Γ C Q3 → LiftX K W0 H0 A0 av ad H XQ →
  (∀ (a : Addr) (H' : Hp) (av' : Av) (ad' : Ads) (c : Cell) (C' : Store), Rep K H0 A0 (fun b => av' b ∨ b = a) ad' Γ C' σ H' → (∀ b, some b ∈ ad' → av' b) → ¬ av' a → H a = none → Le av ad H (fun b => av' b ∨ b = a) ad' H' →
    CellOk K H0 (fun b => av' b ∨ b = a) ad' H' a c → Q3 c C' → Q (.ref a) H') → t σ H Q
structure VEY (X : Cx) (e : Expr) (t : TE) (E : XQv → EV) : Prop where
  pe : PE X e t
  sim : SimEY K W0 t E
structure VFY (X : Cx) (e : Expr) (t : TE) (E : XQv → FV) : Prop where
  pe : PE X e t
  sim : SimFY K W0 t E
end
section
variable {K : PySem.W.Frag} {X : Cx} {W0 : WX} {e a b c tg iter elt : Expr} {es elts ifs : List Expr} {t ta tb te : TE} {tA : TT} {E : EV} {Ey Ea Eb : XQv → EV} {Ep : EV} {Fy : XQv → FV} {B : BV} {tl : TA} {L : AV} {Ly : XQv → AV} {pos p pos2 tpos : Pos} {x y : Str} {g : TG} {G : GV} {tt : TT} {wi : TI} {Iy : XQv → IV} {kk : Nat}
theorem LiftX.later {H0 : Hp} {A0 : List Addr} {av av1 : Av} {ad ad1 : Ads} {H H1 : Hp} {XQ : XQv} (l : LiftX K W0 H0 A0 av ad H XQ) (f : Le av ad H av1 ad1 H1) : LiftX K W0 H0 A0 av1 ad1 H1 XQ := fun _ _ _ _ _ _ _ _ _ R g dx q => l _ _ _ _ _ _ _ _ _ R (f.trans g) dx q
theorem VFY.frz (h : VFY K W0 X e t Fy) : VEY K W0 X e t (fun XQ => eFrz (Fy XQ)) := by
  refine ⟨h.pe, fun H0 A0 av ad Γ C σ H XQ Q3 Q R hE lx q => ?_⟩
  refine h.sim H0 A0 av ad Γ C σ H XQ _ Q R hE lx fun p H' av' ad' c C' R' sub np hn l ok q3 => ?_
  have R2 : Rep K H0 A0 av' ad' Γ C' σ H' := R'.unban (fun _ z => .inl z) sub
  have f2 : Fz (fun b => av' b ∨ b = p) H' av' H' := Fz.less fun _ z => .inl z
  refine q _ _ av' ad' _ C' R2 ⟨l.fz.trans f2, l.pre, l.there, fun b h => (l.avm b h).elim (fun z => z) (fun e => by subst e; exact absurd hn (R.dom _ h)), l.adn, l.kp⟩ ?_ q3
  exact (ok.mono f2 Pre.refl rfl).frz (R.there p hn) np
end
end L3
namespace L3
open PySem PySem.Spec PyProof.Rows L2
section
variable {K : PySem.W.Frag} {H0 : Hp} {av : Av} {ad : Ads} {H : Hp}
end
end L3
namespace L2
open PySem PySem.Spec PyProof.Rows
section
variable {X : Cx} {pins : List (Addr × Obj)} {σ : St} {H : Hp} {s : Shared}
end
section
variable {X : Cx}
end
end L2
namespace L3
open PySem PySem.Spec PyProof.Rows L2
section
variable {K : PySem.W.Frag} {X : Cx}
end
end L3
namespace L3
open PySem PySem.NumText PySem.W.KIN PyProof.Rows
abbrev tx (n : Int) : Str := Str.ofString (toString n)
theorem tx_len {n : Int} (h0 : 0 ≤ n) {k : Nat} (hk : 0 < k) (h : n < 10 ^ k) : (tx n).length ≤ k := toString_length_le h0 hk h
def line (ns : List Int) : Str := Txt.join ⟨#[32]⟩ (ns.map tx)
end L3
namespace L3
open PySem PySem.Spec PyProof.Rows L2
theorem pyWs_ints {g : Nat → Option PyData} : ∀ ns : List Int, pyWs g (ns.map .int) = some (ns.map .int)
  | [] => rfl
  | n :: ns => by simp only [List.map_cons, pyWs, pyW, pyWs_ints ns]; rfl
theorem pyD_ints {C : Store} {o : Bool} (ns : List Int) : pyD C (.lst o (ns.map .int)) = some (.list (ns.map .int)) := by
  unfold pyD
  rw [pyW, pyWs_ints]
  rfl
theorem depth_ints : ∀ ns : List Int, PyData.depthAll (ns.map .int) = 0
  | [] => rfl
  | n :: ns => by simp [PyData.depthAll, PyData.depth, depth_ints ns]
theorem lay_ints : ∀ ns : List Int, PyData.canLayAll0 (ns.map .int) = true
  | [] => rfl
  | n :: ns => by simp [PyData.canLayAll0, PyData.canLay0, lay_ints ns]
theorem shaped_ints (ns : List Int) : SeqAt.shaped (.list (ns.map .int)) = true := by
  simp [SeqAt.shaped, PyData.canLay0, PyData.depth, lay_ints, depth_ints]
theorem eqvAll_ints : ∀ ns ms : List Int, PyData.eqvAll (ns.map .int) (ms.map .int) = decide (ns = ms)
  | [], [] => by simp [PyData.eqvAll]
  | [], _ :: _ => by simp [PyData.eqvAll]
  | _ :: _, [] => by simp [PyData.eqvAll]
  | n :: ns, m :: ms => by
    simp only [List.map_cons, PyData.eqvAll, PyData.eqv, eqvAll_ints ns ms, List.cons.injEq]
    rw [Bool.decide_and]
    rfl
theorem eqv_ints (ns ms : List Int) : PyData.eqv (.list (ns.map .int)) (.list (ms.map .int)) = decide (ns = ms) := by rw [PyData.eqv, eqvAll_ints]
theorem oEq_ints {neg o o' : Bool} {C : Store} {ns ms : List Int} {q : D → Prop} (h : q (.bl (neg != decide (ns = ms)))) : oEq neg C (.lst o (ns.map .int)) (.lst o' (ms.map .int)) q :=
  ⟨_, _, pyD_ints ns, pyD_ints ms, shaped_ints ns, shaped_ints ms, by rw [eqv_ints]; exact h⟩
theorem np_ints {o : Bool} {ns : List Int} : (noold (.lst false (ns.map .int)) && noptr (.lst o (ns.map .int))) = true := by simp [noold, okW, okWs_ints, noptr, noptrs_ints]
theorem views_ints {ks : List Nat} {C : Store} {o : Bool} {ns : List Int} {ds : List D} : views ks C (.lst o (ns.map .int) :: ds) = .lst true (ns.map .int) :: views ks C ds := by
  unfold views
  rw [mapWs, mapW, mapWs_ints]
theorem views_int {ks : List Nat} {C : Store} {s : Int} {ds : List D} : views ks C (.int s :: ds) = .int s :: views ks C ds := by
  unfold views
  rw [mapWs, mapW]
theorem views_nil {ks : List Nat} {C : Store} : views ks C [] = [] := by
  unfold views
  rw [mapWs]
theorem fin_ints {n : Nat} {C : Store} {o : Bool} {ns : List Int} : fin n C (.lst o (ns.map .int)) = .lst o (ns.map .int) := by
  unfold fin
  rw [mapW, mapWs_ints]
  rfl
theorem fin_cell {C : Store} {k : Nat} {ns : List Int} (h : C[k]? = some (.lst (ns.map .int))) : fin 0 C (.ptr k) = .lst false (ns.map .int) := by
  unfold fin
  simp only [mapW, finG, h, Nat.not_lt_zero, if_false, mapWs_ints]
theorem finS0 {C : Store} : finS 0 C = [] := by simp [finS]
end L3
namespace L3
open PySem PySem.Spec PyProof.Rows L2
def T_Lw_jar : SV :=
  (sRet (eFrz (fLst (aCons (eCB oMax2 (aCons (eC (.int 0)) (aCons (eBin oSub (eVar 0) (eBin oPowW (eC (.int 10)) (eC (.int 18)))) aNil))) (aCons (eBin oAdd (eBin oAdd (eBin oPowW (eBin oMod (eVar 0) (eBin oAdd (eBin oPowW (eC (.int 10)) (eC (.int 38))) (eC (.int 133)))) (eC (.int 3))) (eBin oMulW (eC (.int 746773)) (eVar 1))) (eC (.int 173205080756887729))) (aCons (eC (.int 0)) aNil))))))
abbrev N_Lw_jar : List Str := ["_law_cell", "_law_k"]
def T_is_stamp : SV :=
  (sRet (eAnd (eIsi .str (eVar 0)) (eAnd (eBin (oEq false) (eCB oLenA (aCons (eVar 0) aNil)) (eC (.int 1))) (eBin (oIn false) (eVar 0) (eC (.str "RB"))))))
abbrev N_is_stamp : List Str := ["thing"]
def T_are_stamps : SV :=
  (sRet (eAnd (eIsi .str (eVar 0)) (eAnd (eChain oLe oLe (eC (.int 1)) (eCB oLenA (aCons (eVar 0) aNil)) (eC (.int 24))) (eCB oAll (aCons (eFrz (fLc [1] (iSigns (eVar 0)) (gvName 1) bYes (eBin (oIn false) (eVar 1) (eC (.str "RB"))))) aNil)))))
abbrev N_are_stamps : List Str := ["thing", "sign"]
def T_is_between : SV :=
  (sRet (eAnd (eIsi .int (eVar 0)) (eAnd (eNot (eIsi .bool (eVar 0))) (eChain oLe oLe (eVar 1) (eVar 0) (eVar 2)))))
abbrev N_is_between : List Str := ["thing", "least", "most"]
def T_is_rule (P_is_between : PV) : SV :=
  (sSeq (sIf (bOr (bNot (bB (eIsi .tuple (eVar 0)))) (bOr (bB (eBin (oEq true) (eCB oLenA (aCons (eVar 0) aNil)) (eC (.int 2)))) (bNot (bB (eCB oAll (aCons (eFrz (fLc [2] (iTupl (eVar 0)) (gvName 2) bYes (eCall P_is_between (aCons (eVar 2) (aCons (eC (.int 0)) (aCons (eBin oSub (eVar 1) (eC (.int 1))) aNil)))))) aNil)))))) (sRet (eC (.bl false))) sNext)
  (sRet (eBin (oEq true) (eBin oIxT (eVar 0) (eC (.int 0))) (eBin oIxT (eVar 0) (eC (.int 1))))))
abbrev N_is_rule : List Str := ["thing", "many", "one"]
def T_are_rules (P_is_rule : PV) : SV :=
  (sSeq (sIf (bOr (bNot (bB (eIsi .list (eVar 0)))) (bOr (bB (eBin oGt (eCB oLenA (aCons (eVar 0) aNil)) (eC (.int 60)))) (bNot (bB (eCB oAll (aCons (eFrz (fLc [2] (iLst (eVar 0)) (gvName 2) bYes (eCall P_is_rule (aCons (eVar 2) (aCons (eVar 1) aNil))))) aNil)))))) (sRet (eC (.bl false))) sNext)
  (sRet (eCB oAll (aCons (eFrz (fLc [2, 3] (iZipD (aCons (eVar 0) (aCons (eFrz (fSlL (eVar 0) (oSome (eC (.int 1))) oNone)) aNil))) (gvTup 2 (gvCons (gvName 2) (gvCons (gvName 3) gvNil))) bYes (eBin oLtT (eVar 2) (eVar 3)))) aNil))))
abbrev N_are_rules : List Str := ["thing", "many", "one", "other"]
def T_is_heap (P_are_rules P_are_stamps P_is_stamp : PV) : SV :=
  (sSeq (sIf (bOr (bNot (bB (eIsi .tuple (eVar 0)))) (bB (eBin (oEq true) (eCB oLenA (aCons (eVar 0) aNil)) (eC (.int 3))))) (sRet (eC (.bl false))) sNext)
  (sRet (eAnd (eCall P_is_stamp (aCons (eBin oIxT (eVar 0) (eC (.int 0))) aNil)) (eAnd (eCall P_are_stamps (aCons (eBin oIxT (eVar 0) (eC (.int 1))) aNil)) (eCall P_are_rules (aCons (eBin oIxT (eVar 0) (eC (.int 2))) (aCons (eCB oLenA (aCons (eBin oIxT (eVar 0) (eC (.int 1))) aNil)) aNil)))))))
abbrev N_is_heap : List Str := ["thing"]
def T_straight_behind : SV :=
  (sSeq (sAsg (eCell (fLc [3] (iRange1 (aCons (eVar 0) aNil)) (gvName 3) bYes (eCell (fLst aNil)))) (gvName 2))
  (sSeq (sFor (iLst (eVar 1)) (gvTup 2 (gvCons (gvName 3) (gvCons (gvName 4) gvNil))) (sDrop (eMl mAppend (eBin oIxL (eVar 2) (eVar 3)) (aCons (eVar 4) aNil))))
  (sRet (eVar 2))))
abbrev N_straight_behind : List Str := ["many", "rules", "found", "paper", "other"]
def T_ordered (P_straight_behind : PV) : SV :=
  (sSeq (sAsg (eCell (fLst aNil)) (gvName 2))
  (sSeq (sAsg (eCell (fBin nRep (eFrz (fLst (aCons (eC (.int 0)) aNil))) (eVar 0))) (gvName 3))
  (sSeq (sFor (iLst (eVar 1)) (gvTup 2 (gvCons (gvName 4) (gvCons (gvName 5) gvNil))) (sAugL oAdd (eVar 3) (eVar 5) (eC (.int 1))))
  (sSeq (sAsg (eCall P_straight_behind (aCons (eVar 0) (aCons (eVar 1) aNil))) (gvName 6))
  (sSeq (sAsg (eCell (fLc [4] (iRange1 (aCons (eVar 0) aNil)) (gvName 4) (bB (eBin (oEq false) (eBin oIxL (eVar 3) (eVar 4)) (eC (.int 0)))) (eVar 4))) (gvName 7))
  (sSeq (sWhile (bB (eBin (oEq true) (eVar 7) (eFrz (fLst aNil)))) (sSeq (sAsg (eCB oMinL (aCons (eVar 7) aNil)) (gvName 4))
  (sSeq (sDrop (eMl mRemove (eVar 7) (aCons (eVar 4) aNil)))
  (sSeq (sDrop (eMl mAppend (eVar 2) (aCons (eVar 4) aNil)))
  (sFor (iLst (eBin oIxL (eVar 6) (eVar 4))) (gvName 5) (sSeq (sAugL oSub (eVar 3) (eVar 5) (eC (.int 1)))
  (sIf (bB (eBin (oEq false) (eBin oIxL (eVar 3) (eVar 5)) (eC (.int 0)))) (sDrop (eMl mAppend (eVar 7) (aCons (eVar 5) aNil))) sNext)))))))
  (sRet (eVar 2))))))))
abbrev N_ordered : List Str := ["many", "rules", "found", "waiting", "paper", "other", "behind", "free"]
def T_ring_by (P_ordered : PV) : SV :=
  (sSeq (sAsg (eCall P_ordered (aCons (eVar 0) (aCons (eVar 1) aNil))) (gvName 2))
  (sSeq (sAsg (eFrz (fLc [4] (iRange1 (aCons (eVar 0) aNil)) (gvName 4) (bB (eBin (oIn true) (eVar 4) (eVar 2))) (eVar 4))) (gvName 3))
  (sSeq (sIf (bB (eBin (oEq false) (eVar 3) (eFrz (fLst aNil)))) (sRet (eC .non)) sNext)
  (sSeq (sAsg (eCell (fLst (aCons (eBin oIxL (eVar 3) (eC (.int 0))) aNil))) (gvName 5))
  (sSeq (sWhile (bB (eBin oLt (eMl mCount (eVar 5) (aCons (eBin oIxL (eVar 5) (eUn oNeg (eC (.int 1)))) aNil)) (eC (.int 2)))) (sDrop (eMl mAppend (eVar 5) (aCons (eBin oIxL (eFrz (fLc [4, 6] (iLst (eVar 1)) (gvTup 2 (gvCons (gvName 4) (gvCons (gvName 6) gvNil))) (bAnd (bB (eBin (oEq false) (eVar 6) (eBin oIxL (eVar 5) (eUn oNeg (eC (.int 1)))))) (bB (eBin (oIn false) (eVar 4) (eVar 3)))) (eVar 4))) (eC (.int 0))) aNil))))
  (sSeq (sAsg (eFrz (fRev (eFrz (fSlL (eVar 5) (oSome (eBin oAdd (eMl mIndex (eVar 5) (aCons (eBin oIxL (eVar 5) (eUn oNeg (eC (.int 1)))) aNil)) (eC (.int 1)))) oNone)))) (gvName 7))
  (sSeq (sAsg (eMl mIndex (eVar 7) (aCons (eCB oMinL (aCons (eVar 7) aNil)) aNil)) (gvName 8))
  (sRet (eFrz (fBin nCat (eFrz (fSlL (eVar 7) (oSome (eVar 8)) oNone)) (eFrz (fSlL (eVar 7) oNone (oSome (eVar 8))))))))))))))
abbrev N_ring_by : List Str := ["many", "rules", "there", "left", "paper", "way", "other", "ring", "at"]
def T_is_pile (P_ring_by P_is_heap : PV) : SV :=
  (sRet (eAnd (eCall P_is_heap (aCons (eVar 0) aNil)) (eBin (oIsN false) (eCall P_ring_by (aCons (eCB oLenA (aCons (eBin oIxT (eVar 0) (eC (.int 1))) aNil)) (aCons (eBin oIxT (eVar 0) (eC (.int 2))) aNil))) (eC .non))))
abbrev N_is_pile : List Str := ["thing"]
def T_need_pile (P_is_pile : PV) : SV :=
  (sIf (bNot (bB (eCall P_is_pile (aCons (eVar 0) aNil)))) sNever sNext)
abbrev N_need_pile : List Str := ["pile"]
def T_in_order (P_ordered : PV) : SV :=
  (sRet (eCall P_ordered (aCons (eCB oLenA (aCons (eBin oIxT (eVar 0) (eC (.int 1))) aNil)) (aCons (eBin oIxT (eVar 0) (eC (.int 2))) aNil))))
abbrev N_in_order : List Str := ["pile"]
def T_base_of : SV :=
  (sRet (eCB oInt (aCons (eBin (oEq true) (eBin oIxS (eBin oIxT (eVar 0) (eC (.int 1))) (eVar 1)) (eBin oIxT (eVar 0) (eC (.int 0)))) aNil)))
abbrev N_base_of : List Str := ["pile", "paper"]
def T_change : SV :=
  (sRet (eCB oInt (aCons (eBin (oEq true) (eBin oIxS (eBin oIxT (eVar 0) (eC (.int 1))) (eVar 1)) (eBin oIxS (eBin oIxT (eVar 0) (eC (.int 1))) (eVar 2))) aNil)))
abbrev N_change : List Str := ["pile", "paper", "other"]
def T_earliest_of (P_base_of P_in_order P_change : PV) : SV :=
  (sSeq (sAsg (eCell (fLc [2] (iRange1 (aCons (eCB oLenA (aCons (eBin oIxT (eVar 0) (eC (.int 1))) aNil)) aNil)) (gvName 2) bYes (eCall P_base_of (aCons (eVar 0) (aCons (eVar 2) aNil))))) (gvName 1))
  (sSeq (sFor (iLst (eCall P_in_order (aCons (eVar 0) aNil))) (gvName 2) (sFor (iLst (eBin oIxT (eVar 0) (eC (.int 2)))) (gvTup 2 (gvCons (gvName 3) (gvCons (gvName 4) gvNil))) (sIf (bB (eBin (oEq false) (eVar 3) (eVar 2))) (sAsg (eCB oMax2 (aCons (eBin oIxL (eVar 1) (eVar 4)) (aCons (eBin oAdd (eBin oIxL (eVar 1) (eVar 3)) (eCall P_change (aCons (eVar 0) (aCons (eVar 3) (aCons (eVar 4) aNil))))) aNil))) (gvSubL (eVar 1) (eVar 4))) sNext)))
  (sRet (eVar 1))))
abbrev N_earliest_of : List Str := ["pile", "found", "paper", "one", "other"]
def T_Lw_size (P_Lw_pull : PV) : SV :=
  (sSeq (sIf (bB (eBin (oEq false) (eVar 1) (eFrz (fLst aNil)))) (sRet (eBin oAdd (eC (.int 2)) (eCallK 1 kf1 P_Lw_pull (aCons (eVar 0) (aCons (eC (.int 2)) aNil))))) sNext)
  (sSeq (sAsg (eFrz (fLst (aCons (eC (.int 1)) (aCons (eBin oAdd (eC (.int 1)) (eCallK 1 kf1 P_Lw_pull (aCons (eVar 0) (aCons (eC (.int 5)) aNil)))) (aCons (eBin oAdd (eC (.int 1)) (eCallK 1 kf1 P_Lw_pull (aCons (eVar 0) (aCons (eC (.int 12)) aNil)))) (aCons (eVar 2) aNil)))))) (gvName 3))
  (sRet (eCB oMin2 (aCons (eVar 2) (aCons (eBin oIxL (eVar 3) (eCallK 1 kf1 P_Lw_pull (aCons (eVar 0) (aCons (eC (.int 4)) aNil)))) aNil))))))
abbrev N_Lw_size : List Str := ["_law_jar_here", "_law_script", "_law_top", "_law_some"]
end L3
namespace L3
open PySem PySem.Spec PyProof.Rows L2
theorem goT {b : Bool} {X Y : Prop} (h : b = true) (x : X) : if b = true then X else Y := by rw [if_pos h]; exact x
theorem goF {b : Bool} {X Y : Prop} (h : b = false) (y : Y) : if b = true then X else Y := by rw [if_neg (by rw [h]; decide)]; exact y
mutual
theorem mapW_flat {h : Bool → Bool} {g : Nat → D} : ∀ {d : D}, flatD d = true → mapW h g d = d
  | .bad, e => by simp [flatD] at e
  | .non, _ => rfl
  | .bl _, _ => rfl
  | .int _, _ => rfl
  | .str _, _ => rfl
  | .tup xs, e => by
    rw [mapW, mapWs_flat (by simpa only [flatD] using e)]
  | .lst _ _, e => by simp [flatD] at e
  | .dk _ _ _, e => by simp [flatD] at e
  | .dt _ _ _, e => by simp [flatD] at e
  | .obj _ _ _, e => by simp [flatD] at e
  | .exc _ _ _, e => by simp [flatD] at e
  | .ptr _, e => by simp [flatD] at e
theorem mapWs_flat {h : Bool → Bool} {g : Nat → D} : ∀ {ds : List D}, flatDs ds = true → mapWs h g ds = ds
  | [], _ => rfl
  | x :: xs, e => by
    simp only [flatDs, Bool.and_eq_true] at e
    rw [mapWs, mapW_flat e.1, mapWs_flat e.2]
end
theorem flat_pairs : ∀ ps : List (Int × Int), flatDs (ps.map pD) = true
  | [] => rfl
  | z :: ps => by simp only [List.map_cons, flatDs, pD, flatD, flat_pairs ps, Bool.and_self]
def pil (o : Bool) (f st : Str) (rs : List (Int × Int)) : D := .tup [.str f, .str st, .lst o (rs.map pD)]
def cR : Str := ⟨#[82]⟩
def cB : Str := ⟨#[66]⟩
theorem RB_cps : (Str.ofString "RB").cps.toList = [82, 66] := by decide +kernel
structure Rul (n : Nat) (rs : List (Int × Int)) : Prop where
  few : rs.length ≤ 60
  inn : ∀ z, z ∈ rs → 0 ≤ z.1 ∧ z.1 < n ∧ 0 ≤ z.2 ∧ z.2 < n ∧ z.1 ≠ z.2
  srt : rs.Pairwise fun x y => SrtO.lexB x y = true
structure Pil (f st : Str) (rs : List (Int × Int)) : Prop where
  fst : f = cR ∨ f = cB
  pos : 1 ≤ st.length
  top : st.length ≤ 24
  sts : ∀ c, c ∈ st.cps.toList → c = 82 ∨ c = 66
  rul : Rul st.length rs
  acy : ∃ rk : Int → Nat, ∀ z, z ∈ rs → rk z.1 < rk z.2
theorem views_nc {C : Store} {ds : List D} (h : flatDs ds = true) : views [] C ds = ds := mapWs_flat h
theorem views_pil {C : Store} {o : Bool} {f st : Str} {rs : List (Int × Int)} {ds : List D} : views [] C (pil o f st rs :: ds) = pil true f st rs :: views [] C ds := by
  unfold views pil
  simp only [mapWs, mapW, mapWs_flat (flat_pairs rs)]
theorem views_rs {ks : List Nat} {C : Store} {o : Bool} {rs : List (Int × Int)} {ds : List D} : views ks C (.lst o (rs.map pD) :: ds) = .lst true (rs.map pD) :: views ks C ds := by
  unfold views
  simp only [mapWs, mapW, mapWs_flat (flat_pairs rs)]
def P_is_between : PV := fun ds C Q => ∃ i a b : Int, ds = [.int i, .int a, .int b] ∧ Q (.bl (decide (a ≤ i ∧ i ≤ b))) C
theorem v_is_between (ds : List D) (C : Store) (Q3 : D → Store → Prop) (h : P_is_between ds C Q3) (hC : C.length = 0) : T_is_between (enF 0 Q3) (start3 N_is_between ds) C := by
  obtain ⟨i, a, b, rfl, q⟩ := h
  rw [List.length_eq_zero_iff] at hC
  subst hC
  refine ⟨_, rfl, .int, rfl, true, rfl, ?_⟩
  refine goT rfl ?_
  refine ⟨_, rfl, .int, rfl, false, rfl, true, rfl, ?_⟩
  refine goT rfl ?_
  refine ⟨_, rfl, _, rfl, _, _, rfl, rfl, _, rfl, ?_⟩
  by_cases h1 : a ≤ i
  · refine goT (decide_eq_true h1) ?_
    refine ⟨_, rfl, _, _, rfl, rfl, ?_⟩
    have e : decide (a ≤ i ∧ i ≤ b) = decide (i ≤ b) := by simp [h1]
    rw [e] at q
    exact q
  · refine goF (decide_eq_false h1) ?_
    have e : decide (a ≤ i ∧ i ≤ b) = false := by simp [h1]
    rw [e] at q
    exact q
theorem sizeL : sizeLine = 16777216 := sizeLine_eq
def P_is_stamp : PV := fun ds C Q => ∃ f : Str, ds = [.str f] ∧ (f = cR ∨ f = cB) ∧ Q (.bl true) C
theorem in_RB {c : Nat} (h : c = 82 ∨ c = 66) : (!(Builtin.Str.occurrences (Str.ofString "RB") ⟨#[c]⟩ 0 (Str.ofString "RB").length 1).isEmpty) = true := by
  rw [StrLaws.found_one, RB_cps]
  simp
  omega
theorem v_is_stamp (ds : List D) (C : Store) (Q3 : D → Store → Prop) (h : P_is_stamp ds C Q3) (hC : C.length = 0) : T_is_stamp (enF 0 Q3) (start3 N_is_stamp ds) C := by
  obtain ⟨f, rfl, hf, q⟩ := h
  rw [List.length_eq_zero_iff] at hC
  subst hC
  obtain ⟨c, rfl, hc⟩ : ∃ c : Nat, f = ⟨#[c]⟩ ∧ (c = 82 ∨ c = 66) := hf.elim (fun e => ⟨82, e, .inl rfl⟩) fun e => ⟨66, e, .inr rfl⟩
  refine ⟨_, rfl, .str, rfl, true, rfl, ?_⟩
  refine goT rfl ?_
  refine ⟨_, rfl, (by rw [sizeL]; show 1 ≤ 16777216; decide), true, rfl, ?_⟩
  refine goT rfl ?_
  refine ⟨_, rfl, ?_⟩
  show Q3 (.bl (false != _)) _
  rw [in_RB hc]
  exact q
def P_are_stamps : PV := fun ds C Q => ∃ st : Str, ds = [.str st] ∧ 1 ≤ st.length ∧ st.length ≤ 24 ∧ (∀ c, c ∈ st.cps.toList → c = 82 ∨ c = 66) ∧ Q (.bl true) C
theorem v_are_stamps (ds : List D) (C : Store) (Q3 : D → Store → Prop) (h : P_are_stamps ds C Q3) (hC : C.length = 0) : T_are_stamps (enF 0 Q3) (start3 N_are_stamps ds) C := by
  obtain ⟨st, rfl, h1, h2, hs, q⟩ := h
  rw [List.length_eq_zero_iff] at hC
  subst hC
  have hz := sizeL
  refine ⟨_, rfl, .str, rfl, true, rfl, ?_⟩
  refine goT rfl ?_
  refine ⟨_, rfl, by omega, _, _, rfl, rfl, _, rfl, ?_⟩
  refine goT (decide_eq_true (by omega)) ?_
  refine ⟨_, _, rfl, rfl, _, rfl, ?_⟩
  refine goT (decide_eq_true (by omega)) ?_
  refine ⟨_, rfl, _, rfl, ?_⟩
  refine lc_map (fun _ => .bl true) (signs st) (fun _ _ => rfl) (by unfold signs; rw [List.length_map, Array.length_toList]; show st.length ≤ _; omega) (fun d hd R hR => ?_) ?_
  · obtain ⟨c, hc, rfl⟩ := List.mem_map.mp hd
    refine ⟨_, rfl, ?_⟩
    show R (.bl (false != _)) _
    rw [in_RB (hs c hc)]
    exact hR
  · refine ⟨_, (signs st).map fun _ => true, rfl, by simp [Cell.frz, lstOf], ?_⟩
    rw [show ((signs st).map fun _ => true).all (fun b => b) = true by simp]
    exact q
end L3
namespace L3
open PySem PySem.Spec PyProof.Rows L2
def P_is_rule : PV := fun ds C Q => ∃ (z : Int × Int) (n : Int), ds = [pD z, .int n] ∧ 0 ≤ z.1 ∧ z.1 < n ∧ 0 ≤ z.2 ∧ z.2 < n ∧ z.1 ≠ z.2 ∧ Q (.bl true) C
theorem v_is_rule (ds : List D) (C : Store) (Q3 : D → Store → Prop) (h : P_is_rule ds C Q3) (hC : C.length = 0) : T_is_rule P_is_between (enF 0 Q3) (start3 N_is_rule ds) C := by
  obtain ⟨z, n, rfl, h1, h2, h3, h4, h5, q⟩ := h
  rw [List.length_eq_zero_iff] at hC
  subst hC
  refine ⟨_, rfl, .tuple, rfl, true, rfl, ?_⟩
  refine goF rfl ?_
  refine ⟨_, rfl, _, _, rfl, rfl, _, rfl, ?_⟩
  refine goF rfl ?_
  refine ⟨_, rfl, _, rfl, ?_⟩
  refine lc_map (fun _ => .bl true) [.int z.1, .int z.2] (fun _ _ => rfl) (by rw [sizeL]; show 2 ≤ 16777216; decide) (fun d hd R hR => ?_) ?_
  · obtain ⟨i, rfl, hi1, hi2⟩ : ∃ i : Int, d = .int i ∧ 0 ≤ i ∧ i < n := by
      simp at hd
      rcases hd with rfl | rfl
      · exact ⟨_, rfl, h1, h2⟩
      · exact ⟨_, rfl, h3, h4⟩
    refine ⟨_, rfl, _, rfl, _, _, rfl, rfl, i, 0, n - 1, by rw [views_int, views_int, views_int, views_nil], rfl, ?_⟩
    rw [decide_eq_true (by omega)]
    exact hR
  · refine ⟨_, [true, true], rfl, rfl, _, rfl, ?_⟩
    refine goF rfl ?_
    refine ⟨_, rfl, _, _, _, rfl, rfl, rfl, _, rfl, _, _, _, rfl, rfl, rfl, ?_⟩
    show Q3 (.bl (true != decide (z.1 = z.2))) _
    rw [decide_eq_false h5]
    exact q
theorem np_pairs (rs : List (Int × Int)) : noptrs (rs.map pD) = true := (flats_np (flat_pairs rs)).1
def P_are_rules : PV := fun ds C Q => ∃ (o : Bool) (rs : List (Int × Int)) (n : Nat), ds = [.lst o (rs.map pD), .int (n : Nat)] ∧ Rul n rs ∧ Q (.bl true) C
theorem zip_tail : ∀ rs : List (Int × Int), rs.Pairwise (fun x y => SrtO.lexB x y = true) → ∀ d, d ∈ zipD (rs.map pD) ((rs.map pD).drop 1) → ∃ x y, d = .tup [pD x, pD y] ∧ SrtO.lexB x y = true
  | [], _, d, h => by simp [zipD] at h
  | [x], _, d, h => by simp [zipD] at h
  | x :: y :: rs, hp, d, h => by
    have h' : d ∈ D.tup [pD x, pD y] :: zipD ((y :: rs).map pD) (((y :: rs).map pD).drop 1) := h
    rcases List.mem_cons.mp h' with rfl | h'
    · exact ⟨x, y, rfl, (List.pairwise_cons.mp hp).1 y (by simp)⟩
    · exact zip_tail (y :: rs) (List.pairwise_cons.mp hp).2 d h'
theorem lex_lt {x y : Int × Int} (h : SrtO.lexB x y = true) : HT.lexLt [x.1, x.2] [y.1, y.2] = true := by
  have := SrtO.lexB_iff.mp h
  rw [HT.lexLt_cons, HT.lexLt_cons]
  by_cases e : x.1 = y.1
  · rw [if_pos e]
    by_cases e2 : x.2 = y.2
    · omega
    · rw [if_neg e2]
      exact decide_eq_true (by omega)
  · rw [if_neg e]
    exact decide_eq_true (by omega)
theorem v_are_rules (ds : List D) (C : Store) (Q3 : D → Store → Prop) (h : P_are_rules ds C Q3) (hC : C.length = 0) : T_are_rules P_is_rule (enF 0 Q3) (start3 N_are_rules ds) C := by
  obtain ⟨o, rs, n, rfl, hr, q⟩ := h
  rw [List.length_eq_zero_iff] at hC
  subst hC
  have hz := sizeL
  have hf := hr.few
  have hln : (rs.map pD).length = rs.length := List.length_map ..
  refine ⟨_, rfl, .list, rfl, true, rfl, ?_⟩
  refine goF rfl ?_
  refine ⟨_, rfl, _, _, rfl, rfl, _, _, rfl, rfl, _, rfl, ?_⟩
  refine goF (decide_eq_false (by rw [hln]; omega)) ?_
  refine ⟨_, rfl, _, rfl, ?_⟩
  refine lc_map (fun _ => .bl true) (rs.map pD) (fun _ _ => rfl) (by omega) (fun d hd R hR => ?_) ?_
  · obtain ⟨z, hm, rfl⟩ := List.mem_map.mp hd
    obtain ⟨a1, a2, a3, a4, a5⟩ := hr.inn z hm
    exact ⟨_, rfl, _, rfl, z, n, views_nc rfl, a1, a2, a3, a4, a5, rfl, hR⟩
  · refine ⟨_, (rs.map pD).map fun _ => true, rfl, by simp [Cell.frz, lstOf], _, rfl, ?_⟩
    refine goF (by simp) ?_
    refine ⟨_, rfl, _, rfl, _, rfl, _, rfl, ?_⟩
    have ec : cutD (rs.map pD) (some 1) none = (rs.map pD).drop 1 := by
      unfold cutD
      have e1 : HT.sIx (rs.map pD).length 0 (some 1) = min 1 (rs.map pD).length := HT.sIx_nat _ _ 1
      rw [e1, HT.sIx_none]
      rw [List.take_of_length_le (by simp)]
      cases rs with
      | nil => rfl
      | cons z rs => rw [show min 1 ((z :: rs).map pD).length = 1 by simp]
    refine ⟨_, _, _, _, rfl, rfl, rfl, by rw [np_pairs, ec, ← List.map_drop, np_pairs]; rfl, ?_⟩
    have hl2 : (zipD (rs.map pD) ((rs.map pD).drop 1)).length ≤ sizeLine := by rw [zipD_len]; omega
    rw [ec]
    refine lc_map (fun _ => .bl true) (zipD (rs.map pD) ((rs.map pD).drop 1)) (fun _ _ => rfl) hl2 (fun d hd R hR => ?_) ?_
    · obtain ⟨x, y, rfl, hxy⟩ := zip_tail rs hr.srt d hd
      refine ⟨_, rfl, rfl, _, _, rfl, _, _, rfl, rfl, ?_⟩
      refine ⟨_, rfl, _, rfl, [x.1, x.2], [y.1, y.2], rfl, rfl, ?_⟩
      rw [lex_lt hxy]
      exact hR
    · refine ⟨_, (zipD (rs.map pD) ((rs.map pD).drop 1)).map fun _ => true, rfl, by simp [Cell.frz, lstOf], ?_⟩
      rw [show ((zipD (rs.map pD) ((rs.map pD).drop 1)).map fun _ => true).all (fun b => b) = true by simp]
      exact q
def P_is_heap : PV := fun ds C Q => ∃ (o : Bool) (f st : Str) (rs : List (Int × Int)), ds = [pil o f st rs] ∧ (f = cR ∨ f = cB) ∧ 1 ≤ st.length ∧ st.length ≤ 24 ∧ (∀ c, c ∈ st.cps.toList → c = 82 ∨ c = 66) ∧ Rul st.length rs ∧ Q (.bl true) C
theorem v_is_heap (ds : List D) (C : Store) (Q3 : D → Store → Prop) (h : P_is_heap ds C Q3) (hC : C.length = 0) : T_is_heap P_are_rules P_are_stamps P_is_stamp (enF 0 Q3) (start3 N_is_heap ds) C := by
  obtain ⟨o, f, st, rs, rfl, hf, h1, h2, hs, hr, q⟩ := h
  rw [List.length_eq_zero_iff] at hC
  subst hC
  have hz := sizeL
  refine ⟨_, rfl, .tuple, rfl, true, rfl, ?_⟩
  refine goF rfl ?_
  refine ⟨_, rfl, _, _, rfl, rfl, _, rfl, ?_⟩
  refine goF rfl ?_
  refine ⟨_, rfl, _, _, _, rfl, rfl, rfl, f, views_nc rfl, hf, rfl, true, rfl, ?_⟩
  refine goT rfl ?_
  refine ⟨_, rfl, _, _, _, rfl, rfl, rfl, st, views_nc rfl, h1, h2, hs, rfl, true, rfl, ?_⟩
  refine goT rfl ?_
  refine ⟨_, rfl, _, _, _, rfl, rfl, rfl, _, rfl, _, _, _, rfl, rfl, rfl, by omega, ?_⟩
  exact ⟨true, rs, st.length, by rw [views_rs]; rw [views_nc rfl], hr, rfl, q⟩
end L3
namespace L3
open PySem PySem.Spec PyProof.Rows L2
def bh (rs : List (Int × Int)) (i : Nat) : List Int := (rs.filter fun z => z.1 = (i : Int)).map (·.2)
def bhD (n : Nat) (rs : List (Int × Int)) : D := .lst false ((List.range n).map fun i => .lst false ((bh rs i).map .int))
theorem bh_snoc {rs : List (Int × Int)} {z : Int × Int} {i : Nat} : bh (rs ++ [z]) i = if z.1 = (i : Int) then bh rs i ++ [z.2] else bh rs i := by
  unfold bh
  rw [List.filter_append, List.map_append]
  by_cases h : z.1 = (i : Int)
  · rw [if_pos h, List.filter_cons_of_pos (by simp [h])]
    rfl
  · rw [if_neg h, List.filter_cons_of_neg (by simp [h])]
    simp
theorem bh_len {rs : List (Int × Int)} {i : Nat} : (bh rs i).length ≤ rs.length := by
  unfold bh
  rw [List.length_map]
  exact List.length_filter_le _ _
def bhC (n : Nat) (rs : List (Int × Int)) : Store := (List.range n).map (fun i => Cell.lst ((bh rs i).map .int)) ++ [.lst ((List.range n).map .ptr)]
theorem bhC_at {n : Nat} {rs : List (Int × Int)} {i : Nat} (h : i < n) : (bhC n rs)[i]? = some (.lst ((bh rs i).map .int)) := by
  unfold bhC
  rw [List.getElem?_append_left (by simpa using h), List.getElem?_map, List.getElem?_range h]
  rfl
theorem bhC_top {n : Nat} {rs : List (Int × Int)} : (bhC n rs)[n]? = some (.lst ((List.range n).map .ptr)) := by
  unfold bhC
  rw [List.getElem?_append_right (by simp)]
  simp
theorem bhC_set {n : Nat} {rs : List (Int × Int)} {z : Int × Int} {i : Nat} (h : i < n) (e : z.1 = (i : Int)) : (bhC n rs).set i (.lst ((bh rs i).map .int ++ [.int z.2])) = bhC n (rs ++ [z]) := by
  unfold bhC
  rw [List.set_append_left _ _ (by simpa using h)]
  congr 1
  apply List.ext_getElem?
  intro j
  rw [List.getElem?_map]
  by_cases hj : j < n
  · rw [List.getElem?_range hj]
    by_cases hij : i = j
    · subst hij
      rw [List.getElem?_set_self (by simpa using h)]
      simp [bh_snoc, e]
    · rw [List.getElem?_set_ne hij, List.getElem?_map, List.getElem?_range hj]
      have : ¬ z.1 = (j : Int) := by omega
      simp [bh_snoc, this]
  · rw [List.getElem?_eq_none (by simpa using Nat.le_of_not_lt hj), List.getElem?_eq_none (by simpa using Nat.le_of_not_lt hj)]
    rfl
theorem fin_bh {n : Nat} {rs : List (Int × Int)} : fin 0 (bhC n rs) (.ptr n) = bhD n rs := by
  unfold fin bhD
  simp only [mapW, finG, Nat.not_lt_zero, if_false, bhC_top]
  congr 1
  have key : ∀ l : List Nat, (∀ i, i ∈ l → i < n) → mapWs id (finG 0 (bhC n rs) 2) (l.map .ptr) = l.map fun i => .lst false ((bh rs i).map .int) := by
    intro l
    induction l with
    | nil => intro _; rfl
    | cons i l ih =>
      intro h
      simp only [List.map_cons, mapWs, mapW]
      rw [ih fun j hj => h j (List.mem_cons_of_mem _ hj)]
      congr 1
      simp only [finG, Nat.not_lt_zero, if_false, bhC_at (h i (List.mem_cons_self ..)), mapWs_ints]
  exact key _ fun i hi => by simpa using hi
structure Rul0 (n : Nat) (rs : List (Int × Int)) : Prop where
  few : rs.length ≤ 100
  inn : ∀ z, z ∈ rs → 0 ≤ z.1 ∧ z.1 < n ∧ 0 ≤ z.2 ∧ z.2 < n ∧ z.1 ≠ z.2
theorem Rul.lax {n : Nat} {rs : List (Int × Int)} (h : Rul n rs) : Rul0 n rs := ⟨by have := h.few; omega, h.inn⟩
def P_straight_behind : PV := fun ds C Q => ∃ (o : Bool) (n : Nat) (rs : List (Int × Int)), ds = [.int (n : Nat), .lst o (rs.map pD)] ∧ n ≤ 24 ∧ Rul0 n rs ∧ Q (bhD n rs) C
theorem v_straight_behind (ds : List D) (C : Store) (Q3 : D → Store → Prop) (h : P_straight_behind ds C Q3) (hC : C.length = 0) : T_straight_behind (enF 0 Q3) (start3 N_straight_behind ds) C := by
  obtain ⟨o, n, rs, rfl, hn, hr, q⟩ := h
  rw [List.length_eq_zero_iff] at hC
  subst hC
  have hz := sizeL
  have hf := hr.few
  refine ⟨_, rfl, n, rfl, by omega, by omega, ?_⟩
  refine lcW_run (fun ds acc C => ∃ i, i + ds.length = n ∧ acc = (List.range i).map .ptr ∧ C = List.replicate i (.lst [])) ?step ?stop _ _ _ ⟨0, by simp [rgI], rfl, rfl⟩
  case step =>
    rintro d ds acc C ⟨i, hi, rfl, rfl⟩ R hR
    simp only [List.length_cons] at hi
    rw [u_gvName, u_bYes, if_pos rfl]
    refine ⟨Nat.zero_le _, by simp; omega, fun k hk => by simp at hk, ?_⟩
    refine hR _ _ ⟨i + 1, by omega, ?_, ?_⟩
    · rw [List.length_replicate, List.range_succ, List.map_append]
      rfl
    · rw [List.replicate_succ']
  case stop =>
    rintro acc C ⟨i, hi, rfl, rfl⟩
    simp only [List.length_nil, Nat.add_zero] at hi
    subst hi
    have e0 : List.replicate i (Cell.lst []) ++ [.lst ((List.range i).map .ptr)] = bhC i [] := by
      unfold bhC
      congr 1
      apply List.ext_getElem?
      intro j
      rw [List.getElem?_map]
      by_cases hj : j < i
      · rw [List.getElem?_range hj, List.getElem?_replicate, if_pos hj]
        rfl
      · rw [List.getElem?_eq_none (by simpa using Nat.le_of_not_lt hj), List.getElem?_eq_none (by simpa using Nat.le_of_not_lt hj)]
        rfl
    rw [List.length_replicate, e0]
    refine ⟨_, rfl, _, rfl, rfl, np_pairs rs, ?_⟩
    refine forW_run (fun ds Γ C => ∃ done rest, rs = done ++ rest ∧ ds = rest.map pD ∧ C = bhC i done ∧ ∃ a b, Γ = [some (.int (i : Nat)), some (.lst o (rs.map pD)), some (.ptr i), a, b]) ?step2 ?stop2 _ _ _ ⟨[], rs, rfl, rfl, rfl, _, _, rfl⟩
    case step2 =>
      rintro d ds Γ C ⟨done, rest, e1, e2, rfl, a, b, rfl⟩ R hR
      cases rest with
      | nil => cases e2
      | cons z rest =>
      simp only [List.map_cons, List.cons.injEq] at e2
      obtain ⟨rfl, rfl⟩ := e2
      obtain ⟨a1, a2, a3, a4, a5⟩ := hr.inn z (by rw [e1]; simp)
      obtain ⟨j, hj⟩ := Int.eq_ofNat_of_zero_le a1
      have hji : j < i := by omega
      refine ⟨_, rfl, rfl, _, _, rfl, _, _, rfl, rfl, ?_⟩
      refine ⟨_, rfl, _, rfl, (List.range i).map .ptr, z.1, .ptr j, by simp only [lstOf, bhC_top], rfl, ?_, ?_⟩
      · unfold atI ixN
        rw [List.length_map, List.length_range, if_pos a1, if_pos a2, hj]
        simp [hji]
      · refine ⟨(bh done j).map .int, by simp only [lstOf, bhC_at hji], _, rfl, j, (bh done j).map .int, _, rfl, rfl, bhC_at hji, ?_, ?_⟩
        · have := bh_len (rs := done) (i := j)
          have := congrArg List.length e1
          simp at this ⊢
          omega
        · rw [bhC_set hji hj]
          exact hR _ _ ⟨done ++ [z], rest, by rw [e1]; simp, rfl, rfl, _, _, rfl⟩
    case stop2 =>
      rintro Γ C ⟨done, rest, e1, e2, rfl, a, b, rfl⟩
      cases rest with
      | cons z rest => cases e2
      | nil =>
      rw [List.append_nil] at e1
      subst e1
      refine ⟨_, rfl, ?_⟩
      show Q3 (fin 0 _ _) (finS 0 _)
      rw [fin_bh, finS0]
      exact q
end L3
namespace L3
open PySem
def cnt (rs : List (Int × Int)) (fd : List Int) (j : Int) : Nat := (rs.filter fun z => decide (z.2 = j) && !decide (z.1 ∈ fd)).length
def Topo (rs : List (Int × Int)) (ord : List Int) : Prop := ∀ pre x post, ord = pre ++ x :: post → ∀ z, z ∈ rs → z.2 = x → z.1 ∈ pre
structure OInv (n : Nat) (rs : List (Int × Int)) (fd fr : List Int) (w : Nat → Int) (rest : List Int) : Prop where
  nd : (fd ++ fr).Nodup
  inn : ∀ x, x ∈ fd ++ fr → 0 ≤ x ∧ x < n
  wt : ∀ j : Nat, j < n → w j = (cnt rs fd j : Nat) + (rest.count (j : Int) : Nat)
  iff : ∀ j : Nat, j < n → ((j : Int) ∈ fd ++ fr ↔ w j = 0)
  topo : Topo rs fd
theorem cnt_step {rs : List (Int × Int)} {fd : List Int} {p j : Int} (hp : p ∉ fd) : cnt rs fd j = cnt rs (fd ++ [p]) j + ((rs.filter fun z => decide (z.1 = p)).map (·.2)).count j := by
  unfold cnt
  induction rs with
  | nil => rfl
  | cons z rs ih =>
    simp only [List.filter_cons]
    by_cases h1 : z.1 = p
    · have h2 : z.1 ∉ fd := by rw [h1]; exact hp
      by_cases h3 : z.2 = j
      · simp [h1, h3, hp] at ih ⊢
        omega
      · simp [h1, h3, hp] at ih ⊢
        omega
    · by_cases h3 : z.2 = j
      · by_cases h4 : z.1 ∈ fd
        · simp [h1, h3, h4] at ih ⊢
          omega
        · simp [h1, h3, h4] at ih ⊢
          omega
      · simp [h1, h3] at ih ⊢
        omega
theorem cnt_zero {rs : List (Int × Int)} {fd : List Int} {j : Int} : cnt rs fd j = 0 ↔ ∀ z, z ∈ rs → z.2 = j → z.1 ∈ fd := by
  unfold cnt
  rw [List.length_eq_zero_iff, List.filter_eq_nil_iff]
  constructor
  · intro h z hz e
    have := h z hz
    simpa [e] using this
  · intro h z hz
    have := h z hz
    simp
    intro e
    exact this e
theorem OInv.take {n : Nat} {rs : List (Int × Int)} {fd fr : List Int} {w : Nat → Int} {p : Nat} (I : OInv n rs fd fr w []) (hp : (p : Int) ∈ fr) : OInv n rs (fd ++ [(p : Int)]) (fr.erase p) w (bh rs p) := by
  have hnd := I.nd
  have pn := I.inn p (List.mem_append_right _ hp)
  have hpf : (p : Int) ∉ fd := fun h => (List.nodup_append.mp hnd).2.2 _ h _ hp rfl
  have perm : (fd ++ [(p : Int)] ++ fr.erase p).Perm (fd ++ fr) := by
    rw [List.append_assoc]
    exact (List.Perm.append_left fd (List.perm_cons_erase hp).symm)
  refine ⟨perm.nodup_iff.mpr hnd, fun x hx => I.inn x (perm.mem_iff.mp hx), fun j hj => ?_, fun j hj => ?_, ?_⟩
  · have h1 := I.wt j hj
    have h2 := cnt_step (rs := rs) (j := (j : Int)) hpf
    simp only [List.count_nil] at h1
    unfold bh
    omega
  · rw [perm.mem_iff]
    exact I.iff j hj
  · intro pre x post e z hz ez
    rcases List.append_eq_append_iff.mp e with ⟨a, e1, e2⟩ | ⟨a, e1, e2⟩
    · cases a with
      | nil =>
        simp at e1 e2
        have hw := (I.iff p (by omega)).mp (List.mem_append_right _ hp)
        have h1 := I.wt p (by omega)
        simp only [List.count_nil] at h1
        have hz0 : cnt rs fd p = 0 := by omega
        have := cnt_zero.mp hz0 z hz (by rw [ez]; exact e2.1.symm)
        rw [e1]
        exact this
      | cons b a => simp at e2
    · cases a with
      | nil =>
        simp at e1 e2
        have hw := (I.iff p (by omega)).mp (List.mem_append_right _ hp)
        have h1 := I.wt p (by omega)
        simp only [List.count_nil] at h1
        have hz0 : cnt rs fd p = 0 := by omega
        have := cnt_zero.mp hz0 z hz (by rw [ez]; exact e2.1)
        rw [← e1]
        exact this
      | cons b a =>
        simp only [List.cons_append, List.cons.injEq] at e2
        exact I.topo pre x a (by rw [e1, e2.1]) z hz ez
theorem OInv.step {n : Nat} {rs : List (Int × Int)} {fd fr : List Int} {w : Nat → Int} {o : Nat} {rest : List Int} (I : OInv n rs fd fr w ((o : Int) :: rest)) (ho : o < n) :
    OInv n rs fd (if w o - 1 = 0 then fr ++ [(o : Int)] else fr) (fun i => if i = o then w o - 1 else w i) rest := by
  have h1 := I.wt o ho
  simp only [List.count_cons_self] at h1
  have hno : (o : Int) ∉ fd ++ fr := fun h => by
    have := (I.iff o ho).mp h
    omega
  have wt : ∀ j : Nat, j < n → (if j = o then w o - 1 else w j) = (cnt rs fd j : Nat) + (rest.count (j : Int) : Nat) := fun j hj => by
    by_cases e : j = o
    · subst e
      rw [if_pos rfl]
      omega
    · rw [if_neg e]
      have := I.wt j hj
      rw [List.count_cons_of_ne (by omega)] at this
      exact this
  by_cases hz : w o - 1 = 0
  · rw [if_pos hz]
    refine ⟨?_, fun x hx => ?_, wt, fun j hj => ?_, I.topo⟩
    · rw [← List.append_assoc]
      refine List.nodup_append.mpr ⟨I.nd, by simp, fun a ha b hb e => ?_⟩
      simp at hb
      subst e hb
      exact hno ha
    · rw [← List.append_assoc] at hx
      rcases List.mem_append.mp hx with hx | hx
      · exact I.inn x hx
      · simp at hx; subst hx; omega
    · rw [← List.append_assoc, List.mem_append, List.mem_singleton]
      by_cases e : j = o
      · subst e
        simp [hz]
      · have := I.iff j hj
        rw [if_neg e, this]
        constructor
        · rintro (h | h)
          · exact h
          · omega
        · exact fun h => .inl h
  · rw [if_neg hz]
    refine ⟨I.nd, I.inn, wt, fun j hj => ?_, I.topo⟩
    by_cases e : j = o
    · subst e
      rw [if_pos rfl]
      exact ⟨fun h => absurd h hno, fun h => absurd h hz⟩
    · rw [if_neg e]
      exact I.iff j hj
def upto (n : Nat) : List Int := (List.range n).map fun i : Nat => (i : Int)
theorem OInv.done {n : Nat} {rs : List (Int × Int)} {fd : List Int} {w : Nat → Int} (I : OInv n rs fd [] w []) (hr : ∀ z, z ∈ rs → 0 ≤ z.1 ∧ z.1 < n) (hk : ∃ rk : Int → Nat, ∀ z, z ∈ rs → rk z.1 < rk z.2) : fd.Perm (upto n) := by
  obtain ⟨rk, hrk⟩ := hk
  have nd := I.nd
  rw [List.append_nil] at nd
  have all : ∀ m : Nat, ∀ j : Nat, j < n → rk j < m → (j : Int) ∈ fd := by
    intro m
    induction m with
    | zero => intro j _ h; omega
    | succ m ih =>
      intro j hj hm
      have hc : cnt rs fd j = 0 := cnt_zero.mpr fun z hz ez => by
        obtain ⟨h0, h1⟩ := hr z hz
        obtain ⟨i, hi⟩ := Int.eq_ofNat_of_zero_le h0
        have h2 := hrk z hz
        rw [ez] at h2
        rw [hi] at h2 h1 ⊢
        exact ih i (by omega) (by omega)
      have h3 := I.wt j hj
      rw [hc] at h3
      simp at h3
      have := (I.iff j hj).mpr h3
      simpa using this
  have nd2 : (upto n).Nodup := by
    unfold upto
    exact List.pairwise_map.mpr (List.Pairwise.imp (fun h e => h (Int.ofNat.inj e)) (List.nodup_range (n := n)))
  refine (List.perm_ext_iff_of_nodup nd nd2).mpr fun x => ⟨fun hx => ?_, fun hx => ?_⟩
  · obtain ⟨h0, h1⟩ := I.inn x (by simpa using hx)
    obtain ⟨i, rfl⟩ := Int.eq_ofNat_of_zero_le h0
    exact List.mem_map.mpr ⟨i, by simp; omega, rfl⟩
  · obtain ⟨i, hi, rfl⟩ := List.mem_map.mp hx
    exact all (rk i + 1) i (by simpa using hi) (by omega)
end L3
namespace L3
open PySem PySem.Spec PyProof.Rows L2
def P_ordered : PV := fun ds C Q => ∃ (o : Bool) (n : Nat) (rs : List (Int × Int)), ds = [.int (n : Nat), .lst o (rs.map pD)] ∧ 1 ≤ n ∧ n ≤ 24 ∧ Rul n rs ∧ (∃ rk : Int → Nat, ∀ z, z ∈ rs → rk z.1 < rk z.2) ∧
  ∀ ord : List Int, ord.Perm (upto n) → Topo rs ord → Q (.lst false (ord.map .int)) C
def wL (n : Nat) (w : Nat → Int) : List D := (List.range n).map fun j => .int (w j)
theorem wL_len {n : Nat} {w : Nat → Int} : (wL n w).length = n := by simp [wL]
theorem wL_get {n : Nat} {w : Nat → Int} {j : Nat} (h : j < n) : (wL n w)[j]? = some (.int (w j)) := by
  unfold wL
  rw [List.getElem?_map, List.getElem?_range h]
  rfl
theorem wL_set {n : Nat} {w : Nat → Int} {j : Nat} {v : Int} (h : j < n) : (wL n w).set j (.int v) = wL n (fun i => if i = j then v else w i) := by
  apply List.ext_getElem?
  intro i
  by_cases hi : i < n
  · rw [wL_get hi]
    by_cases e : j = i
    · subst e
      rw [List.getElem?_set_self (by rw [wL_len]; exact h), if_pos rfl]
    · rw [List.getElem?_set_ne e, wL_get hi, if_neg (fun z => e z.symm)]
  · rw [List.getElem?_eq_none (by simp [wL]; omega), List.getElem?_eq_none (by simp [wL]; omega)]
theorem ix_nat {n j : Nat} (h : j < n) : ixN n (j : Int) = some j := by
  unfold ixN
  rw [if_pos (by omega), if_pos (by omega)]
  simp
theorem wL_at {n : Nat} {w : Nat → Int} {j : Nat} (h : j < n) : atI (wL n w) (j : Int) = some (.int (w j)) := by
  unfold atI
  rw [wL_len, ix_nat h]
  exact wL_get h
def cn (rs : List (Int × Int)) (j : Nat) : Int := (cnt rs [] (j : Int) : Nat)
theorem cn_snoc {rs : List (Int × Int)} {z : Int × Int} {j : Nat} : cn (rs ++ [z]) j = if z.2 = (j : Int) then cn rs j + 1 else cn rs j := by
  unfold cn cnt
  rw [List.filter_append, List.length_append]
  by_cases h : z.2 = (j : Int)
  · rw [if_pos h, List.filter_cons_of_pos (by simp [h])]
    simp
  · rw [if_neg h, List.filter_cons_of_neg (by simp [h])]
    simp
theorem idx_first : ∀ (l : List Int) (k : Int), k ∈ l → ∃ j : Nat, l[j]? = some k ∧ (∀ m : Nat, m < j → l[m]? ≠ some k) ∧ l.eraseIdx j = l.erase k
  | [], k, h => by simp at h
  | a :: l, k, h => by
    by_cases e : a = k
    · subst e
      exact ⟨0, rfl, fun m hm => by omega, by simp⟩
    · obtain ⟨j, h1, h2, h3⟩ := idx_first l k (by simpa [Ne.symm e] using h)
      refine ⟨j + 1, by simpa using h1, fun m hm => ?_, ?_⟩
      · cases m with
        | zero => simpa using e
        | succ m => simpa using h2 m (by omega)
      · rw [List.eraseIdx_cons_succ, h3, List.erase_cons_tail (by simpa using e)]
theorem rep0 (n : Nat) : (List.replicate (n : Int).toNat [D.int 0]).flatten = wL n fun _ => 0 := by
  unfold wL
  rw [Int.toNat_natCast]
  induction n with
  | zero => rfl
  | succ n ih => rw [List.replicate_succ', List.flatten_append, ih, List.range_succ, List.map_append]; rfl
theorem nodup_len : ∀ (n : Nat) (l : List Int), l.Nodup → (∀ x, x ∈ l → 0 ≤ x ∧ x < n) → l.length ≤ n
  | 0, l, _, h => by
    cases l with
    | nil => exact Nat.le_refl _
    | cons x l => have := h x (by simp); omega
  | n + 1, l, nd, h => by
    by_cases hm : (n : Int) ∈ l
    · have h1 := nodup_len n (l.erase (n : Int)) (nd.erase _) fun x hx => by
        have h2 := h x (List.mem_of_mem_erase hx)
        have h3 : x ≠ (n : Int) := fun e => by
          subst e
          exact (List.Nodup.not_mem_erase nd) hx
        omega
      rw [List.length_erase_of_mem hm] at h1
      omega
    · have h1 := nodup_len n l nd fun x hx => by
        have h2 := h x hx
        have h3 : x ≠ (n : Int) := fun e => by subst e; exact hm hx
        omega
      omega
theorem inner_ok {De : En} {n : Nat} {rs : List (Int × Int)} {fd : List Int} {x0 x1 x6 : Option D} {p : Option D} (hn : n ≤ 24) : ∀ (rest : List Int) (fr : List Int) (w : Nat → Int) (q5 : Option D), OInv n rs fd fr w rest → (∀ x, x ∈ rest → 0 ≤ x ∧ x < n) →
    (∀ fr' w' q', OInv n rs fd fr' w' [] → De.nx [x0, x1, some (.ptr 0), some (.ptr 1), p, q', x6, some (.ptr 2)] [.lst (fd.map .int), .lst (wL n w'), .lst (fr'.map .int)]) →
    forW (gvName 5) (sSeq (sAugL oSub (eVar 3) (eVar 5) (eC (.int 1))) (sIf (bB (eBin (oEq false) (eBin oIxL (eVar 3) (eVar 5)) (eC (.int 0)))) (sDrop (eMl mAppend (eVar 7) (aCons (eVar 5) aNil))) sNext)) De (rest.map .int)
      [x0, x1, some (.ptr 0), some (.ptr 1), p, q5, x6, some (.ptr 2)] [.lst (fd.map .int), .lst (wL n w), .lst (fr.map .int)]
  | [], fr, w, q5, I, _, q => q fr w q5 I
  | x :: rest, fr, w, q5, I, hx, q => by
    obtain ⟨h0, h1⟩ := hx x (by simp)
    obtain ⟨o, rfl⟩ := Int.eq_ofNat_of_zero_le h0
    have ho : o < n := by omega
    have st := I.step ho
    have hz := sizeL
    have hfr : fr.length < sizeLine := by
      have h3 := nodup_len n (fd ++ fr) I.nd I.inn
      rw [List.length_append] at h3
      omega
    have go := fun fr' w' q5' I' => inner_ok (De := De) (x0 := x0) (x1 := x1) (x6 := x6) (p := p) hn rest fr' w' q5' I' (fun x hx' => hx x (List.mem_cons_of_mem _ hx')) q
    refine ⟨_, rfl, _, rfl, 1, _, _, o, _, rfl, rfl, rfl, by rw [wL_len]; exact ix_nat ho, wL_get ho, _, _, rfl, rfl, rfl, ?_⟩
    have es : (wL n w).set o (.int (w o - 1)) = wL n (fun i => if i = o then w o - 1 else w i) := wL_set ho
    refine ⟨_, rfl, _, rfl, wL n (fun i => if i = o then w o - 1 else w i), (o : Nat), .int (w o - 1), by rw [es]; rfl, rfl, by rw [wL_at ho, if_pos rfl], _, rfl, ?_⟩
    by_cases hw : w o - 1 = 0
    · refine goT (by simp [hw]) ?_
      rw [if_pos hw] at st
      refine ⟨_, rfl, fr.map .int, rfl, _, rfl, 2, fr.map .int, _, rfl, rfl, rfl, by simpa using hfr, ?_⟩
      have := go (fr ++ [(o : Int)]) _ (some (.int (o : Nat))) st
      rw [List.map_append] at this
      show forW _ _ _ _ _ [.lst (fd.map .int), .lst ((wL n w).set o (.int (w o - 1))), .lst (fr.map .int ++ [.int (o : Nat)])]
      rw [es]
      exact this
    · refine goF (by simp [hw]) ?_
      rw [if_neg hw] at st
      have := go fr _ (some (.int (o : Nat))) st
      show forW _ _ _ _ _ [.lst (fd.map .int), .lst ((wL n w).set o (.int (w o - 1))), .lst (fr.map .int)]
      rw [es]
      exact this
end L3
namespace L3
open PySem PySem.Spec PyProof.Rows L2
def fr0 (n : Nat) (w : Nat → Int) : List Int := ((List.range n).filter fun j => decide (w j = 0)).map fun j : Nat => (j : Int)
theorem rg_len' (lo : Int) (n : Nat) : (rgI lo n).length = n := by simp [rgI]
theorem bhD_ok {n : Nat} {rs : List (Int × Int)} : (noold (bhD n rs) && noptr (bhD n rs)) = true := by
  have h1 : ∀ l : List Nat, okWs (fun o => !o) (l.map fun i => .lst false ((bh rs i).map .int)) = true := by
    intro l
    induction l with
    | nil => rfl
    | cons i l ih => simp only [List.map_cons, okWs, okW, okWs_ints, ih]; rfl
  have h2 : ∀ l : List Nat, noptrs (l.map fun i => .lst false ((bh rs i).map .int)) = true := by
    intro l
    induction l with
    | nil => rfl
    | cons i l ih => simp only [List.map_cons, noptrs, noptr, noptrs_ints, ih]; rfl
  unfold bhD noold
  rw [okW, noptr, h1, h2]
  rfl
theorem bhD_at {n : Nat} {rs : List (Int × Int)} {i : Nat} (h : i < n) : atI ((List.range n).map fun i => D.lst false ((bh rs i).map .int)) (i : Int) = some (.lst false ((bh rs i).map .int)) := by
  unfold atI
  rw [List.length_map, List.length_range, ix_nat h]
  show ((List.range n).map fun i => D.lst false ((bh rs i).map .int))[i]? = _
  rw [List.getElem?_map, List.getElem?_range h]
  rfl
theorem start_inv {n : Nat} {rs : List (Int × Int)} : OInv n rs [] (fr0 n (cn rs)) (cn rs) [] := by
  have mem : ∀ x, x ∈ fr0 n (cn rs) ↔ ∃ j : Nat, j < n ∧ cn rs j = 0 ∧ x = (j : Int) := fun x => by
    unfold fr0
    constructor
    · intro h
      obtain ⟨j, hj, rfl⟩ := List.mem_map.mp h
      obtain ⟨h1, h2⟩ := List.mem_filter.mp hj
      exact ⟨j, by simpa using h1, by simpa using h2, rfl⟩
    · rintro ⟨j, h1, h2, rfl⟩
      exact List.mem_map.mpr ⟨j, List.mem_filter.mpr ⟨by simpa using h1, by simpa using h2⟩, rfl⟩
  refine ⟨?_, fun x hx => ?_, fun j hj => by simp [cn], fun j hj => ?_, fun pre x post e => by simp at e⟩
  · rw [List.nil_append]
    exact List.pairwise_map.mpr (List.Pairwise.imp (fun h e => h (Int.ofNat.inj e)) ((List.nodup_range (n := n)).filter _))
  · obtain ⟨j, h1, _, rfl⟩ := (mem x).mp (by simpa using hx)
    omega
  · rw [List.nil_append, mem]
    constructor
    · rintro ⟨i, h1, h2, e⟩
      have : j = i := by omega
      rw [this]; exact h2
    · exact fun h => ⟨j, hj, h, rfl⟩
theorem v_ordered (ds : List D) (C : Store) (Q3 : D → Store → Prop) (h : P_ordered ds C Q3) (hC : C.length = 0) : T_ordered P_straight_behind (enF 0 Q3) (start3 N_ordered ds) C := by
  obtain ⟨o, n, rs, rfl, h1, hn, hr, hk, q⟩ := h
  rw [List.length_eq_zero_iff] at hC
  subst hC
  have hz := sizeL
  have hf := hr.few
  refine ⟨Nat.zero_le _, ?_⟩
  refine ⟨by rw [hz]; show 1 ≤ 16777216; decide, _, rfl, _, n, rfl, rfl, by omega, by omega, by simp; omega, rfl, ?_⟩
  rw [rep0]
  refine ⟨_, rfl, _, rfl, rfl, np_pairs rs, ?_⟩
  refine forW_run (fun ds Γ C => ∃ done rest, rs = done ++ rest ∧ ds = rest.map pD ∧ C = [.lst [], .lst (wL n (cn done))] ∧ ∃ a b, Γ = [some (.int (n : Nat)), some (.lst o (rs.map pD)), some (.ptr 0), some (.ptr 1), a, b, none, none]) ?step ?stop _ _ _ ⟨[], rs, rfl, rfl, rfl, _, _, rfl⟩
  case step =>
    rintro d ds Γ C ⟨done, rest, e1, e2, rfl, a, b, rfl⟩ R hR
    cases rest with
    | nil => cases e2
    | cons z rest =>
    simp only [List.map_cons, List.cons.injEq] at e2
    obtain ⟨rfl, rfl⟩ := e2
    obtain ⟨a1, a2, a3, a4, a5⟩ := hr.inn z (by rw [e1]; simp)
    obtain ⟨j, hj⟩ := Int.eq_ofNat_of_zero_le a3
    have hji : j < n := by omega
    refine ⟨_, rfl, rfl, _, _, rfl, _, _, rfl, rfl, ?_⟩
    refine ⟨_, rfl, _, rfl, 1, _, _, j, _, rfl, rfl, rfl, by rw [wL_len, hj]; exact ix_nat hji, wL_get hji, _, _, rfl, rfl, rfl, ?_⟩
    refine hR _ _ ⟨done ++ [z], rest, by rw [e1]; simp, rfl, ?_, _, _, rfl⟩
    show [Cell.lst [], Cell.lst ((wL n (cn done)).set j (.int (cn done j + 1)))] = _
    rw [wL_set hji]
    congr 4
    funext i
    rw [cn_snoc, hj]
    by_cases e : i = j
    · subst e; simp
    · rw [if_neg e, if_neg (by omega)]
  case stop =>
    rintro Γ C ⟨done, rest, e1, e2, rfl, a, b, rfl⟩
    cases rest with
    | cons z rest => cases e2
    | nil =>
    rw [List.append_nil] at e1
    subst e1
    refine ⟨_, rfl, _, rfl, true, n, rs, by rw [views_int, views_rs, views_nil], hn, hr.lax, bhD_ok, ?_⟩
    refine ⟨_, rfl, n, rfl, by omega, by omega, ?_⟩
    refine lc_filter (fun d => match d with | .int i => decide (cn rs i.toNat = 0) | _ => false) (fun d => d) (rgI 0 ((n : Int)).toNat) (fun _ h => by simp at h) (by rw [rg_len']; omega) (fun d hd R R' hR hR' => ?_) ?_
    · obtain ⟨i, hi, rfl⟩ := List.mem_map.mp hd
      have hin : i < n := by simpa using hi
      have ei : (0 : Int) + (i : Nat) = (i : Int) := by omega
      rw [ei] at hR hR' ⊢
      refine ⟨_, rfl, _, rfl, _, _, _, rfl, rfl, wL_at hin, _, rfl, ?_⟩
      by_cases hw : cn rs i = 0
      · refine goT (by simp [hw]) ?_
        exact ⟨_, rfl, hR (by simp [hw])⟩
      · refine goF (by simp [hw]) ?_
        exact hR' (by simp [hw])
    · have ef : ((rgI 0 ((n : Int)).toNat).filter fun d => match d with | .int i => decide (cn rs i.toNat = 0) | _ => false).map (fun d => d) = (fr0 n (cn rs)).map .int := by
        unfold rgI fr0
        rw [Int.toNat_natCast]
        simp only [List.filter_map, List.map_map]
        congr 1
        · funext i
          show D.int (0 + (i : Nat)) = D.int (i : Nat)
          rw [Int.zero_add]
        · apply List.filter_congr
          intro i _
          show decide (cn rs (0 + (i : Int)).toNat = 0) = _
          rw [Int.zero_add, Int.toNat_natCast]
      rw [ef]
      let Γ0 : Option D → Option D → Slots := fun p q => [some (.int (n : Nat)), some (.lst o (rs.map pD)), some (.ptr 0), some (.ptr 1), p, q, some (bhD n rs), some (.ptr 2)]
      refine ⟨fun m Γ C => ∃ (fd fr : List Int) (w : Nat → Int) (p q : Option D), m = n - fd.length ∧ OInv n rs fd fr w [] ∧ Γ = Γ0 p q ∧ C = [.lst (fd.map .int), .lst (wL n w), .lst (fr.map .int)], ⟨_, [], fr0 n (cn rs), cn rs, _, _, rfl, start_inv, rfl, rfl⟩, ?_⟩
      rintro m Γ C ⟨fd, fr, w, p, q5, rfl, I, rfl, rfl⟩
      refine ⟨_, rfl, Nat.zero_le _, ?_⟩
      refine ⟨_, _, (show pyD _ (.ptr 2) = some (.list (fr.map .int)) by simp [pyD, pyW, pyG, pyWs_ints]), pyD_ints (o := false) [], shaped_ints fr, shaped_ints [], _, rfl, ?_⟩
      rw [eqv_ints]
      by_cases he : fr = []
      · subst he
        refine goF (by simp) ?_
        have hp := I.done (fun z hz => ⟨(hr.inn z hz).1, (hr.inn z hz).2.1⟩) hk
        refine ⟨_, rfl, ?_⟩
        show Q3 (fin 0 _ (.ptr 0)) (finS 0 _)
        rw [fin_cell (ns := fd) rfl, finS0]
        exact q fd hp I.topo
      · refine goT (by simp [he]) ?_
        refine ⟨_, rfl, .ptr 2, fr, rfl, rfl, List.length_pos_iff.mpr he, fun mn hmn hle => ?_⟩
        obtain ⟨hm0, hm1⟩ := I.inn mn (List.mem_append_right _ hmn)
        obtain ⟨pp, rfl⟩ := Int.eq_ofNat_of_zero_le hm0
        have hpn : pp < n := by omega
        obtain ⟨j, hj1, hj2, hj3⟩ := idx_first fr _ hmn
        have hlen := nodup_len n (fd ++ fr) I.nd I.inn
        rw [List.length_append] at hlen
        have hfr0 : 0 < fr.length := List.length_pos_iff.mpr he
        refine ⟨_, rfl, fr.map .int, rfl, _, rfl, 2, fr, (pp : Int), j, rfl, rfl, rfl, hj1, hj2, ?_⟩
        rw [hj3]
        refine ⟨_, rfl, fd.map .int, rfl, _, rfl, 0, fd.map .int, _, rfl, rfl, rfl, by simp; omega, ?_⟩
        refine ⟨_, rfl, _, rfl, _, (pp : Int), .lst false ((bh rs pp).map .int), rfl, rfl, bhD_at hpn, _, rfl, rfl, noptrs_ints _, ?_⟩
        have It := I.take hmn
        have hb : ∀ x, x ∈ bh rs pp → 0 ≤ x ∧ x < n := fun x hx => by
          obtain ⟨z, hz, rfl⟩ := List.mem_map.mp hx
          have := hr.inn z (List.mem_filter.mp hz).1
          omega
        have e0 : fd.map D.int ++ [D.int (pp : Nat)] = (fd ++ [(pp : Int)]).map .int := by simp
        show forW _ _ _ _ _ [Cell.lst (fd.map D.int ++ [D.int (pp : Nat)]), .lst (wL n w), .lst ((fr.erase (pp : Int)).map .int)]
        rw [e0]
        refine inner_ok hn (bh rs pp) (fr.erase (pp : Int)) w q5 It hb fun fr' w' q' I' => ?_
        exact ⟨n - (fd ++ [(pp : Int)]).length, by simp; omega, fd ++ [(pp : Int)], fr', w', _, q', rfl, I', rfl, rfl⟩
end L3
namespace L3
open PySem PySem.Spec PyProof.Rows L2
def P_ring_none : PV := fun ds C Q => ∃ (o : Bool) (n : Nat) (rs : List (Int × Int)), ds = [.int (n : Nat), .lst o (rs.map pD)] ∧ 1 ≤ n ∧ n ≤ 24 ∧ Rul n rs ∧ (∃ rk : Int → Nat, ∀ z, z ∈ rs → rk z.1 < rk z.2) ∧ Q .non C
theorem in_ints {neg : Bool} {C : Store} {o : Bool} {z : Int} {ns : List Int} {q : D → Prop} (h : q (.bl (neg != decide (z ∈ ns)))) : oIn neg C (.int z) (.lst o (ns.map .int)) q := by
  refine ⟨.int z, ns.map .int, rfl, pyD_ints ns, by simp [SeqAt.shaped, PyData.canLay0, PyData.depth], shaped_ints ns, ?_⟩
  have e : ((ns.map PyData.int).any fun y => PyData.eqv y (.int z)) = decide (z ∈ ns) := by
    rw [List.any_map]
    by_cases hm : z ∈ ns
    · rw [decide_eq_true hm]
      exact List.any_eq_true.mpr ⟨z, hm, by simp [PyData.eqv]⟩
    · rw [decide_eq_false hm]
      apply Bool.eq_false_iff.mpr
      intro h
      obtain ⟨y, hy, e⟩ := List.any_eq_true.mp h
      have : y = z := by simpa [PyData.eqv] using e
      exact hm (this ▸ hy)
  rw [e]
  exact h
theorem v_ring_none (ds : List D) (C : Store) (Q3 : D → Store → Prop) (h : P_ring_none ds C Q3) (hC : C.length = 0) : T_ring_by P_ordered (enF 0 Q3) (start3 N_ring_by ds) C := by
  obtain ⟨o, n, rs, rfl, h1, hn, hr, hk, q⟩ := h
  rw [List.length_eq_zero_iff] at hC
  subst hC
  have hz := sizeL
  refine ⟨_, rfl, _, rfl, true, n, rs, by rw [views_int, views_rs, views_nil], h1, hn, hr, hk, fun ord hp ht => ⟨np_ints, ?_⟩⟩
  have mem : ∀ i : Nat, i < n → (i : Int) ∈ ord := fun i hi => hp.mem_iff.mpr (List.mem_map.mpr ⟨i, by simpa using hi, rfl⟩)
  refine ⟨_, rfl, n, rfl, by omega, by omega, ?_⟩
  refine lc_filter (fun _ => false) (fun d => d) (rgI 0 ((n : Int)).toNat) (fun _ h => by simp at h) (by rw [rg_len']; omega) (fun d hd R R' hR hR' => ?_) ?_
  · obtain ⟨i, hi, rfl⟩ := List.mem_map.mp hd
    have hin : i < n := by simpa using hi
    have ei : (0 : Int) + (i : Nat) = (i : Int) := by omega
    rw [ei]
    refine ⟨_, rfl, _, rfl, ?_⟩
    refine in_ints (ns := ord) ⟨_, rfl, ?_⟩
    refine goF ?_ (hR' rfl)
    rw [decide_eq_true (mem i hin)]
    rfl
  · rw [show ((rgI 0 ((n : Int)).toNat).filter fun _ => false).map (fun d => d) = [] by simp]
    refine ⟨_, rfl, Nat.zero_le _, ?_⟩
    refine oEq_ints (o := false) (o' := false) (ns := []) (ms := []) ⟨_, rfl, ?_⟩
    exact goT rfl q
theorem views_pil1 {C : Store} {o : Bool} {f st : Str} {rs : List (Int × Int)} : views [] C [pil o f st rs] = [pil true f st rs] := by rw [views_pil, views_nil]
def P_is_pile : PV := fun ds C Q => ∃ (o : Bool) (f st : Str) (rs : List (Int × Int)), ds = [pil o f st rs] ∧ Pil f st rs ∧ Q (.bl true) C
theorem v_is_pile (ds : List D) (C : Store) (Q3 : D → Store → Prop) (h : P_is_pile ds C Q3) (hC : C.length = 0) : T_is_pile P_ring_none P_is_heap (enF 0 Q3) (start3 N_is_pile ds) C := by
  obtain ⟨o, f, st, rs, rfl, hp, q⟩ := h
  rw [List.length_eq_zero_iff] at hC
  subst hC
  have hz := sizeL
  have h24 := hp.top
  refine ⟨_, rfl, true, f, st, rs, views_pil1, hp.fst, hp.pos, hp.top, hp.sts, hp.rul, rfl, true, rfl, ?_⟩
  refine goT rfl ?_
  refine ⟨_, rfl, _, _, _, rfl, rfl, rfl, by omega, _, rfl, _, _, _, rfl, rfl, rfl, ?_⟩
  exact ⟨true, st.length, rs, by rw [views_int, views_rs, views_nil], hp.pos, hp.top, hp.rul, hp.acy, rfl, rfl, true, rfl, q⟩
def P_need_pile : PV := fun ds C Q => ∃ (o : Bool) (f st : Str) (rs : List (Int × Int)), ds = [pil o f st rs] ∧ Pil f st rs ∧ Q .non C
theorem v_need_pile (ds : List D) (C : Store) (Q3 : D → Store → Prop) (h : P_need_pile ds C Q3) (hC : C.length = 0) : T_need_pile P_is_pile (enF 0 Q3) (start3 N_need_pile ds) C := by
  obtain ⟨o, f, st, rs, rfl, hp, q⟩ := h
  rw [List.length_eq_zero_iff] at hC
  subst hC
  refine ⟨_, rfl, true, f, st, rs, views_pil1, hp, rfl, true, rfl, ?_⟩
  exact goF rfl q
def P_in_order : PV := fun ds C Q => ∃ (o : Bool) (f st : Str) (rs : List (Int × Int)), ds = [pil o f st rs] ∧ Pil f st rs ∧ ∀ ord : List Int, ord.Perm (upto st.length) → Topo rs ord → Q (.lst false (ord.map .int)) C
theorem v_in_order (ds : List D) (C : Store) (Q3 : D → Store → Prop) (h : P_in_order ds C Q3) (hC : C.length = 0) : T_in_order P_ordered (enF 0 Q3) (start3 N_in_order ds) C := by
  obtain ⟨o, f, st, rs, rfl, hp, q⟩ := h
  rw [List.length_eq_zero_iff] at hC
  subst hC
  have hz := sizeL
  have h24 := hp.top
  refine ⟨_, rfl, _, _, _, rfl, rfl, rfl, by omega, _, rfl, _, _, _, rfl, rfl, rfl, ?_⟩
  refine ⟨true, st.length, rs, by rw [views_int, views_rs, views_nil], hp.pos, hp.top, hp.rul, hp.acy, fun ord h1 h2 => ⟨np_ints, ?_⟩⟩
  show Q3 (fin 0 _ _) _
  rw [fin_ints]
  exact q ord h1 h2
def sg (st : Str) (i : Nat) : Nat := st.cps.toList.getD i 0
def neq (a b : Nat) : Int := if a = b then 0 else 1
def f0 (f : Str) : Nat := f.cps.toList.getD 0 0
theorem sg_at {st : Str} {i : Nat} (h : i < st.length) : atI st.cps.toList (i : Int) = some (sg st i) := by
  have hl : st.cps.toList.length = st.length := by rw [Array.length_toList]; rfl
  unfold atI sg
  rw [hl, ix_nat h]
  show st.cps.toList[i]? = _
  rw [List.getD_eq_getElem?_getD, List.getElem?_eq_getElem (by omega)]
  rfl
theorem one_ne {a b : Nat} : (if (true != decide ((⟨#[a]⟩ : Str) = ⟨#[b]⟩)) = true then (1 : Int) else 0) = neq a b := by
  unfold neq
  by_cases h : a = b
  · subst h; simp
  · simp [h]
def P_base_of : PV := fun ds C Q => ∃ (o : Bool) (f st : Str) (rs : List (Int × Int)) (i : Nat), ds = [pil o f st rs, .int (i : Nat)] ∧ Pil f st rs ∧ i < st.length ∧ Q (.int (neq (sg st i) (f0 f))) C
theorem f_one {f : Str} (h : f = cR ∨ f = cB) : f = ⟨#[f0 f]⟩ := by rcases h with rfl | rfl <;> decide
theorem v_base_of (ds : List D) (C : Store) (Q3 : D → Store → Prop) (h : P_base_of ds C Q3) (hC : C.length = 0) : T_base_of (enF 0 Q3) (start3 N_base_of ds) C := by
  obtain ⟨o, f, st, rs, i, rfl, hp, hi, q⟩ := h
  rw [List.length_eq_zero_iff] at hC
  subst hC
  have hz := sizeL
  have h24 := hp.top
  refine ⟨_, rfl, _, _, _, rfl, rfl, rfl, _, rfl, st, (i : Nat), sg st i, rfl, rfl, by omega, sg_at hi, _, rfl, _, _, _, rfl, rfl, rfl, ?_⟩
  show Q3 (.int (if (true != decide ((⟨#[sg st i]⟩ : Str) = f)) = true then 1 else 0)) _
  rw [f_one hp.fst, one_ne]
  exact q
def P_change : PV := fun ds C Q => ∃ (o : Bool) (f st : Str) (rs : List (Int × Int)) (i j : Nat), ds = [pil o f st rs, .int (i : Nat), .int (j : Nat)] ∧ Pil f st rs ∧ i < st.length ∧ j < st.length ∧ Q (.int (neq (sg st i) (sg st j))) C
theorem v_change (ds : List D) (C : Store) (Q3 : D → Store → Prop) (h : P_change ds C Q3) (hC : C.length = 0) : T_change (enF 0 Q3) (start3 N_change ds) C := by
  obtain ⟨o, f, st, rs, i, j, rfl, hp, hi, hj, q⟩ := h
  rw [List.length_eq_zero_iff] at hC
  subst hC
  have hz := sizeL
  have h24 := hp.top
  refine ⟨_, rfl, _, _, _, rfl, rfl, rfl, _, rfl, st, (i : Nat), sg st i, rfl, rfl, by omega, sg_at hi, _, rfl, _, _, _, rfl, rfl, rfl, _, rfl, st, (j : Nat), sg st j, rfl, rfl, by omega, sg_at hj, ?_⟩
  show Q3 (.int (if (true != decide ((⟨#[sg st i]⟩ : Str) = ⟨#[sg st j]⟩)) = true then 1 else 0)) _
  rw [one_ne]
  exact q
end L3
namespace L3
open PySem
structure Fix (n : Nat) (bs : Nat → Int) (ch : Nat → Nat → Int) (rs : List (Int × Int)) (v : Nat → Int) : Prop where
  low : ∀ j, j < n → bs j ≤ v j
  up : ∀ z, z ∈ rs → v z.1.toNat + ch z.1.toNat z.2.toNat ≤ v z.2.toNat
  by_ : ∀ j, j < n → v j = bs j ∨ ∃ z, z ∈ rs ∧ z.2 = (j : Int) ∧ v j = v z.1.toNat + ch z.1.toNat j
theorem Fix.le {n : Nat} {bs : Nat → Int} {ch : Nat → Nat → Int} {rs : List (Int × Int)} {v w : Nat → Int} (hr : ∀ z, z ∈ rs → 0 ≤ z.1 ∧ z.1 < n) (hk : ∃ rk : Int → Nat, ∀ z, z ∈ rs → rk z.1 < rk z.2) (V : Fix n bs ch rs v) (W : Fix n bs ch rs w) : ∀ j, j < n → v j ≤ w j := by
  obtain ⟨rk, hrk⟩ := hk
  have all : ∀ m : Nat, ∀ j : Nat, j < n → rk j < m → v j ≤ w j := by
    intro m
    induction m with
    | zero => intro j _ h; omega
    | succ m ih =>
      intro j hj hm
      rcases V.by_ j hj with e | ⟨z, hz, e1, e2⟩
      · rw [e]; exact W.low j hj
      · obtain ⟨h0, h1⟩ := hr z hz
        obtain ⟨i, hi⟩ := Int.eq_ofNat_of_zero_le h0
        have h2 := hrk z hz
        rw [e1, hi] at h2
        have h3 := ih i (by omega) (by omega)
        have h4 := W.up z hz
        rw [e1] at h4
        rw [hi] at e2 h4
        simp at e2 h4
        omega
  exact fun j hj => all (rk j + 1) j hj (by omega)
theorem Fix.eq {n : Nat} {bs : Nat → Int} {ch : Nat → Nat → Int} {rs : List (Int × Int)} {v w : Nat → Int} (hr : ∀ z, z ∈ rs → 0 ≤ z.1 ∧ z.1 < n) (hk : ∃ rk : Int → Nat, ∀ z, z ∈ rs → rk z.1 < rk z.2) (V : Fix n bs ch rs v) (W : Fix n bs ch rs w) : ∀ j, j < n → v j = w j :=
  fun j hj => Int.le_antisymm (Fix.le hr hk V W j hj) (Fix.le hr hk W V j hj)
structure EInv (n : Nat) (bs : Nat → Int) (ch : Nat → Nat → Int) (rs : List (Int × Int)) (pre : List Int) (p : Int) (dn : List (Int × Int)) (v : Nat → Int) : Prop where
  low : ∀ j, j < n → bs j ≤ v j
  by_ : ∀ j, j < n → v j = bs j ∨ ∃ z, z ∈ rs ∧ z.2 = (j : Int) ∧ z.1 ∈ pre ++ [p] ∧ v j = v z.1.toNat + ch z.1.toNat j
  up : ∀ z, z ∈ rs → z.1 ∈ pre → v z.1.toNat + ch z.1.toNat z.2.toNat ≤ v z.2.toNat
  upp : ∀ z, z ∈ dn → z.1 = p → v z.1.toNat + ch z.1.toNat z.2.toNat ≤ v z.2.toNat
theorem EInv.step {n : Nat} {bs : Nat → Int} {ch : Nat → Nat → Int} {rs : List (Int × Int)} {pre post : List Int} {p : Int} {dn : List (Int × Int)} {v : Nat → Int} {z : Int × Int} (I : EInv n bs ch rs pre p dn v) (hz : z ∈ rs) (hp : z.1 = p)
    (hdn : ∀ y, y ∈ dn → y ∈ rs) (hr : ∀ z, z ∈ rs → 0 ≤ z.1 ∧ z.1 < n ∧ 0 ≤ z.2 ∧ z.2 < n ∧ z.1 ≠ z.2) (nd : (pre ++ p :: post).Nodup) (ht : Topo rs (pre ++ p :: post)) :
    EInv n bs ch rs pre p (dn ++ [z]) (fun i => if i = z.2.toNat then max (v i) (v z.1.toNat + ch z.1.toNat z.2.toNat) else v i) := by
  obtain ⟨a1, a2, a3, a4, a5⟩ := hr z hz
  obtain ⟨b, hb⟩ := Int.eq_ofNat_of_zero_le a3
  obtain ⟨a, ha⟩ := Int.eq_ofNat_of_zero_le a1
  have hn1 : z.2 ∉ pre := fun h => by
    obtain ⟨s, t, e⟩ := List.append_of_mem h
    have h1 := ht s z.2 (t ++ p :: post) (by rw [e]; simp) z hz rfl
    rw [hp] at h1
    have h2 := (List.nodup_append.mp nd).2.2 p (by rw [e]; simp [h1]) p (by simp)
    exact h2 rfl
  have hab : a ≠ b := fun e => a5 (by rw [ha, hb, e])
  -- what stands ahead does not change
  have keep : ∀ i : Nat, (i : Int) ∈ pre ++ [p] → i ≠ b := fun i hi e => by
    subst e
    rcases List.mem_append.mp hi with h | h
    · exact hn1 (by rw [hb]; exact h)
    · simp at h
      exact a5 (by rw [hb, h, hp])
  rw [hb, ha]
  simp only [Int.toNat_natCast]
  have val : ∀ i : Nat, i ≠ b → (if i = b then max (v i) (v a + ch a b) else v i) = v i := fun i h => if_neg h
  have grow : ∀ i : Nat, v i ≤ (if i = b then max (v i) (v a + ch a b) else v i) := fun i => by
    by_cases h : i = b
    · rw [if_pos h]; omega
    · rw [if_neg h]; omega
  have src : ∀ y, y ∈ rs → y.1 ∈ pre ++ [p] → y.1.toNat ≠ b := fun y hy h => by
    obtain ⟨c, hc⟩ := Int.eq_ofNat_of_zero_le (hr y hy).1
    rw [hc] at h ⊢
    simp only [Int.toNat_natCast]
    exact keep c h
  refine ⟨fun j hj => Int.le_trans (I.low j hj) (grow j), fun j hj => ?_, fun y hy hyp => ?_, fun y hy hyp => ?_⟩
  · by_cases e : j = b
    · subst e
      rw [if_pos rfl]
      by_cases hm : v j ≤ v a + ch a j
      · right
        refine ⟨z, hz, hb, by rw [hp]; simp, ?_⟩
        rw [ha]
        simp only [Int.toNat_natCast]
        rw [val a hab]
        omega
      · have em : max (v j) (v a + ch a j) = v j := by omega
        rw [em]
        rcases I.by_ j hj with e | ⟨y, hy, e1, e2, e3⟩
        · exact .inl e
        · exact .inr ⟨y, hy, e1, e2, by rw [val _ (src y hy e2)]; exact e3⟩
    · rw [val j e]
      rcases I.by_ j hj with e | ⟨y, hy, e1, e2, e3⟩
      · exact .inl e
      · exact .inr ⟨y, hy, e1, e2, by rw [val _ (src y hy e2)]; exact e3⟩
  · rw [val _ (src y hy (List.mem_append_left _ hyp))]
    exact Int.le_trans (I.up y hy hyp) (grow _)
  · rcases List.mem_append.mp hy with h | h
    · rw [val _ (src y (hdn y h) (by rw [hyp]; simp))]
      exact Int.le_trans (I.upp y h hyp) (grow _)
    · simp at h
      subst h
      rw [ha, hb]
      simp only [Int.toNat_natCast]
      rw [val a hab, if_pos trivial]
      omega
theorem EInv.next {n : Nat} {bs : Nat → Int} {ch : Nat → Nat → Int} {rs : List (Int × Int)} {pre : List Int} {p q : Int} {v : Nat → Int} (I : EInv n bs ch rs pre p rs v) : EInv n bs ch rs (pre ++ [p]) q [] v := by
  refine ⟨I.low, fun j hj => ?_, fun z hz h => ?_, fun z hz => by simp at hz⟩
  · rcases I.by_ j hj with e | ⟨z, hz, e1, e2, e3⟩
    · exact .inl e
    · exact .inr ⟨z, hz, e1, List.mem_append_left _ e2, e3⟩
  · rcases List.mem_append.mp h with h | h
    · exact I.up z hz h
    · simp at h
      exact I.upp z hz h
theorem EInv.start {n : Nat} {bs : Nat → Int} {ch : Nat → Nat → Int} {rs : List (Int × Int)} {p : Int} : EInv n bs ch rs [] p [] bs := ⟨fun _ _ => Int.le_refl _, fun _ _ => .inl rfl, fun z _ h => by simp at h, fun z h => by simp at h⟩
theorem EInv.fix {n : Nat} {bs : Nat → Int} {ch : Nat → Nat → Int} {rs : List (Int × Int)} {pre : List Int} {q : Int} {v : Nat → Int} (I : EInv n bs ch rs pre q [] v) (hr : ∀ z, z ∈ rs → 0 ≤ z.1 ∧ z.1 < n) (all : ∀ i : Nat, i < n → (i : Int) ∈ pre) : Fix n bs ch rs v := by
  refine ⟨I.low, fun z hz => ?_, fun j hj => ?_⟩
  · obtain ⟨h0, h1⟩ := hr z hz
    obtain ⟨i, hi⟩ := Int.eq_ofNat_of_zero_le h0
    exact I.up z hz (by rw [hi]; exact all i (by omega))
  · rcases I.by_ j hj with e | ⟨z, hz, e1, e2, e3⟩
    · exact .inl e
    · exact .inr ⟨z, hz, e1, e3⟩
end L3
namespace L3
open PySem PySem.Spec PyProof.Rows L2
def bsOf (f st : Str) (j : Nat) : Int := neq (sg st j) (f0 f)
def chOf (st : Str) (i j : Nat) : Int := neq (sg st i) (sg st j)
abbrev PFix (f st : Str) (rs : List (Int × Int)) (v : Nat → Int) : Prop := Fix st.length (bsOf f st) (chOf st) rs v
def P_earliest_of : PV := fun ds C Q => ∃ (o : Bool) (f st : Str) (rs : List (Int × Int)), ds = [pil o f st rs] ∧ Pil f st rs ∧ ∀ v, PFix f st rs v → Q (.lst false (wL st.length v)) C
theorem wL_ints {n : Nat} {w : Nat → Int} : wL n w = ((List.range n).map w).map .int := by simp [wL]
theorem np_wL {n : Nat} {w : Nat → Int} : (noold (.lst false (wL n w)) && noptr (.lst false (wL n w))) = true := by rw [wL_ints]; exact np_ints
theorem fin_wL {n : Nat} {w : Nat → Int} {C : Store} {k : Nat} (h : C[k]? = some (.lst (wL n w))) : fin 0 C (.ptr k) = .lst false (wL n w) := by
  rw [wL_ints] at h ⊢
  exact fin_cell h
theorem rgmap {n : Nat} {w : Nat → Int} : (rgI 0 ((n : Int)).toNat).map (fun d => match d with | .int i => D.int (w i.toNat) | d => d) = wL n w := by
  unfold rgI wL
  rw [Int.toNat_natCast, List.map_map]
  congr 1
  funext i
  show D.int (w (0 + (i : Int)).toNat) = _
  rw [Int.zero_add, Int.toNat_natCast]
theorem v_earliest_of (ds : List D) (C : Store) (Q3 : D → Store → Prop) (h : P_earliest_of ds C Q3) (hC : C.length = 0) : T_earliest_of P_base_of P_in_order P_change (enF 0 Q3) (start3 N_earliest_of ds) C := by
  obtain ⟨o, f, st, rs, rfl, hp, q⟩ := h
  rw [List.length_eq_zero_iff] at hC
  subst hC
  have hz := sizeL
  have h24 := hp.top
  have hr := hp.rul
  refine ⟨_, rfl, _, _, _, rfl, rfl, rfl, by omega, st.length, rfl, by omega, by omega, ?_⟩
  refine lc_map (fun d => match d with | .int i => .int (bsOf f st i.toNat) | d => d) (rgI 0 ((st.length : Nat) : Int).toNat) (fun _ h => by simp at h) (by rw [rg_len']; omega) (fun d hd R hR => ?_) ?_
  · obtain ⟨i, hi, rfl⟩ := List.mem_map.mp hd
    have hin : i < st.length := by simpa using hi
    have ei : (0 : Int) + (i : Nat) = (i : Int) := by omega
    rw [ei] at hR ⊢
    exact ⟨_, rfl, _, rfl, true, f, st, rs, i, by rw [views_pil, views_int, views_nil], hp, hin, rfl, hR⟩
  rw [rgmap]
  refine ⟨_, rfl, true, f, st, rs, views_pil1, hp, fun ord h1 h2 => ⟨np_ints, _, rfl, rfl, noptrs_ints ord, ?_⟩⟩
  have nd : ord.Nodup := h1.nodup_iff.mpr (List.pairwise_map.mpr (List.Pairwise.imp (fun h e => h (Int.ofNat.inj e)) (List.nodup_range (n := st.length))))
  have mem : ∀ x, x ∈ ord → ∃ i : Nat, i < st.length ∧ x = (i : Int) := fun x hx => by
    obtain ⟨i, hi, rfl⟩ := List.mem_map.mp (h1.mem_iff.mp hx)
    exact ⟨i, by simpa using hi, rfl⟩
  refine forW_run (fun ds Γ C => ∃ (pre post : List Int) (v : Nat → Int), ord = pre ++ post ∧ ds = post.map .int ∧ C = [.lst (wL st.length v)] ∧ (∀ p, EInv st.length (bsOf f st) (chOf st) rs pre p [] v) ∧ ∃ a b c, Γ = [some (pil o f st rs), some (.ptr 0), a, b, c]) ?step ?stop _ _ _ ⟨[], ord, bsOf f st, rfl, rfl, rfl, fun p => EInv.start, _, _, _, rfl⟩
  case step =>
    rintro d ds Γ C ⟨pre, post, v, e1, e2, rfl, hI, a, b, c, rfl⟩ R hR
    cases post with
    | nil => cases e2
    | cons p post =>
    simp only [List.map_cons, List.cons.injEq] at e2
    obtain ⟨rfl, rfl⟩ := e2
    obtain ⟨pn, hpn, rfl⟩ := mem p (by rw [e1]; simp)
    refine ⟨_, rfl, _, _, _, rfl, rfl, rfl, _, rfl, rfl, np_pairs rs, ?_⟩
    refine forW_run (fun ds Γ C => ∃ (dn rest : List (Int × Int)) (v : Nat → Int), rs = dn ++ rest ∧ ds = rest.map pD ∧ C = [.lst (wL st.length v)] ∧ EInv st.length (bsOf f st) (chOf st) rs pre (pn : Int) dn v ∧ ∃ b c, Γ = [some (pil o f st rs), some (.ptr 0), some (.int (pn : Int)), b, c]) ?step2 ?stop2 _ _ _ ⟨[], rs, v, rfl, rfl, rfl, hI pn, _, _, rfl⟩
    case step2 =>
      rintro d ds Γ C ⟨dn, rest, v, e3, e4, rfl, I, b, c, rfl⟩ R2 hR2
      cases rest with
      | nil => cases e4
      | cons z rest =>
      simp only [List.map_cons, List.cons.injEq] at e4
      obtain ⟨rfl, rfl⟩ := e4
      have hzm : z ∈ rs := by rw [e3]; simp
      obtain ⟨a1, a2, a3, a4, a5⟩ := hr.inn z hzm
      obtain ⟨i, hi⟩ := Int.eq_ofNat_of_zero_le a1
      obtain ⟨j, hj⟩ := Int.eq_ofNat_of_zero_le a3
      have hi' : i < st.length := by omega
      have hj' : j < st.length := by omega
      obtain ⟨zi, zj⟩ := z
      simp only at hi hj
      subst hi hj
      refine ⟨_, rfl, rfl, _, _, rfl, _, _, rfl, rfl, ?_⟩
      refine ⟨_, rfl, _, rfl, _, rfl, ?_⟩
      by_cases he : (i : Int) = (pn : Int)
      · refine goT (by simp [he]) ?_
        have st1 := I.step hzm he (fun y hy => by rw [e3]; simp [hy]) hr.inn (by rw [← e1]; exact nd) (by rw [← e1]; exact h2)
        simp only [Int.toNat_natCast] at st1
        refine ⟨_, rfl, _, rfl, _, _, _, rfl, rfl, wL_at hj', ?_⟩
        refine ⟨_, rfl, _, rfl, _, _, _, rfl, rfl, wL_at hi', ?_⟩
        refine ⟨_, rfl, _, rfl, _, rfl, true, f, st, rs, i, j, by rw [views_pil, views_int, views_int, views_nil], hp, hi', hj', rfl, ?_⟩
        refine ⟨_, _, rfl, rfl, _, _, rfl, ?_⟩
        refine ⟨_, rfl, _, rfl, 0, wL st.length v, _, j, rfl, rfl, rfl, by rw [wL_len]; exact ix_nat hj', ?_⟩
        show R2 _ [Cell.lst ((wL st.length v).set j (.int (max (v j) (v i + chOf st i j))))]
        have es : (wL st.length v).set j (.int (max (v j) (v i + chOf st i j))) = wL st.length (fun k => if k = j then max (v k) (v i + chOf st i j) else v k) := by
          rw [wL_set hj']
          congr 1
          funext k
          by_cases e : k = j
          · subst e; simp
          · rw [if_neg e, if_neg e]
        rw [es]
        exact hR2 _ _ ⟨dn ++ [((i : Int), (j : Int))], rest, _, by rw [e3]; simp, rfl, rfl, st1, _, _, rfl⟩
      · refine goF (by simp; omega) ?_
        refine hR2 _ _ ⟨dn ++ [((i : Int), (j : Int))], rest, v, by rw [e3]; simp, rfl, rfl, ⟨I.low, I.by_, I.up, fun y hy hyp => ?_⟩, _, _, rfl⟩
        rcases List.mem_append.mp hy with h | h
        · exact I.upp y h hyp
        · simp at h
          subst h
          exact absurd hyp he
    case stop2 =>
      rintro Γ C ⟨dn, rest, v, e3, e4, rfl, I, b, c, rfl⟩
      cases rest with
      | cons z rest => cases e4
      | nil =>
      rw [List.append_nil] at e3
      subst e3
      exact hR _ _ ⟨pre ++ [(pn : Int)], post, v, by rw [e1]; simp, rfl, rfl, fun p => I.next, _, _, _, rfl⟩
  case stop =>
    rintro Γ C ⟨pre, post, v, e1, e2, rfl, hI, a, b, c, rfl⟩
    cases post with
    | cons p post => cases e2
    | nil =>
    rw [List.append_nil] at e1
    subst e1
    refine ⟨_, rfl, ?_⟩
    show Q3 (fin 0 _ (.ptr 0)) (finS 0 _)
    rw [fin_wL rfl, finS0]
    exact q v ((hI 0).fix (fun z hz => ⟨(hr.inn z hz).1, (hr.inn z hz).2.1⟩) fun i hi => h1.mem_iff.mpr (List.mem_map.mpr ⟨i, by simpa using hi, rfl⟩))
end L3
namespace L3
open PySem
theorem ranks {n : Nat} {rs : List (Int × Int)} (hr : ∀ z, z ∈ rs → 0 ≤ z.1 ∧ z.1 < n ∧ 0 ≤ z.2 ∧ z.2 < n ∧ z.1 ≠ z.2) (hk : ∃ rk : Int → Nat, ∀ z, z ∈ rs → rk z.1 < rk z.2) :
    ∃ r : Nat → Nat, (∀ j, j < n → r j < n) ∧ ∀ z, z ∈ rs → r z.1.toNat < r z.2.toNat := by
  obtain ⟨rk, hrk⟩ := hk
  let r : Nat → Nat := fun j => (List.range n).countP fun i : Nat => decide (rk (i : Int) < rk (j : Int))
  have strict : ∀ (l : List Nat) (a b x : Nat), a ≤ b → x ∈ l → a ≤ rk (x : Int) → rk (x : Int) < b → l.countP (fun i : Nat => decide (rk (i : Int) < a)) < l.countP fun i : Nat => decide (rk (i : Int) < b) := by
    intro l a b x hab
    induction l with
    | nil => intro h; simp at h
    | cons y l ih =>
      intro hm h1 h2
      have mono : l.countP (fun i : Nat => decide (rk (i : Int) < a)) ≤ l.countP fun i : Nat => decide (rk (i : Int) < b) := List.countP_mono_left fun i _ h => by
        simp at h ⊢
        omega
      rw [List.countP_cons, List.countP_cons]
      rcases List.mem_cons.mp hm with rfl | hm
      · rw [if_neg (by simp; omega), if_pos (by simp; omega)]
        omega
      · have := ih hm h1 h2
        have g : (if decide (rk (y : Int) < a) = true then 1 else 0) ≤ (if decide (rk (y : Int) < b) = true then 1 else 0) := by
          by_cases h : rk (y : Int) < a
          · rw [if_pos (by simp [h]), if_pos (by simp; omega)]
            exact Nat.le_refl _
          · rw [if_neg (by simp [h])]
            exact Nat.zero_le _
        omega
  refine ⟨r, fun j hj => ?_, fun z hz => ?_⟩
  · have h1 := strict (List.range n) (rk (j : Int)) (rk (j : Int) + 1) j (by omega) (by simpa using hj) (Nat.le_refl _) (by omega)
    have h2 := List.countP_le_length (p := fun i : Nat => decide (rk (i : Int) < rk (j : Int) + 1)) (l := List.range n)
    rw [List.length_range] at h2
    exact Nat.lt_of_lt_of_le h1 h2
  · obtain ⟨a1, a2, a3, a4, _⟩ := hr z hz
    obtain ⟨a, ha⟩ := Int.eq_ofNat_of_zero_le a1
    obtain ⟨b, hb⟩ := Int.eq_ofNat_of_zero_le a3
    have h := hrk z hz
    rw [ha, hb] at h ⊢
    simp only [Int.toNat_natCast]
    exact strict (List.range n) (rk (a : Int)) (rk (b : Int)) a (by omega) (by simp; omega) (Nat.le_refl _) h
structure RInv (n : Nat) (bs : Nat → Int) (ch : Nat → Nat → Int) (rs : List (Int × Int)) (r : Nat → Nat) (V : Nat → Int) (k : Nat) (dn : List (Int × Int)) (v : Nat → Int) : Prop where
  low : ∀ j, j < n → bs j ≤ v j
  le : ∀ j, j < n → v j ≤ V j
  eq : ∀ j, j < n → r j < k → v j = V j
  upp : ∀ z, z ∈ dn → r z.1.toNat < k → V z.1.toNat + ch z.1.toNat z.2.toNat ≤ v z.2.toNat
theorem RInv.step {n : Nat} {bs : Nat → Int} {ch : Nat → Nat → Int} {rs : List (Int × Int)} {r : Nat → Nat} {V : Nat → Int} {k : Nat} {dn : List (Int × Int)} {v : Nat → Int} {a b : Nat} (F : Fix n bs ch rs V) (I : RInv n bs ch rs r V k dn v)
    (hz : ((a : Int), (b : Int)) ∈ rs) (ha : a < n) (hb : b < n) : RInv n bs ch rs r V k (dn ++ [((a : Int), (b : Int))]) (fun i => if i = b then max (v i) (v a + ch a b) else v i) := by
  have hF := F.up _ hz
  simp only [Int.toNat_natCast] at hF
  have grow : ∀ i : Nat, v i ≤ (if i = b then max (v i) (v a + ch a b) else v i) := fun i => by
    by_cases h : i = b
    · rw [if_pos h]; omega
    · rw [if_neg h]; omega
  have hle : ∀ j, j < n → (if j = b then max (v j) (v a + ch a b) else v j) ≤ V j := fun j hj => by
    have h1 := I.le j hj
    have h2 := I.le a ha
    by_cases h : j = b
    · subst h; simp only [if_true]; omega
    · rw [if_neg h]; exact h1
  refine ⟨fun j hj => Int.le_trans (I.low j hj) (grow j), hle, fun j hj hk => ?_, fun z hz' hk => ?_⟩
  · have := I.eq j hj hk
    have h1 := hle j hj
    have h2 := grow j
    omega
  · rcases List.mem_append.mp hz' with h | h
    · exact Int.le_trans (I.upp z h hk) (grow _)
    · simp at h
      subst h
      simp only [Int.toNat_natCast] at hk ⊢
      have := I.eq a ha hk
      simp only [if_true]
      omega
theorem RInv.next {n : Nat} {bs : Nat → Int} {ch : Nat → Nat → Int} {rs : List (Int × Int)} {r : Nat → Nat} {V : Nat → Int} {k : Nat} {v : Nat → Int} (F : Fix n bs ch rs V) (I : RInv n bs ch rs r V k rs v) (hr : ∀ z, z ∈ rs → r z.1.toNat < r z.2.toNat) :
    RInv n bs ch rs r V (k + 1) [] v := by
  refine ⟨I.low, I.le, fun j hj hk => ?_, fun z hz => by simp at hz⟩
  by_cases h : r j < k
  · exact I.eq j hj h
  · have h1 := I.le j hj
    rcases F.by_ j hj with e | ⟨z, hz, e1, e2⟩
    · have := I.low j hj
      omega
    · have h2 := hr z hz
      have e3 : z.2.toNat = j := by rw [e1]; simp
      rw [e3] at h2
      have h3 := I.upp z hz (by omega)
      rw [e3] at h3
      omega
theorem RInv.start {n : Nat} {bs : Nat → Int} {ch : Nat → Nat → Int} {rs : List (Int × Int)} {r : Nat → Nat} {V : Nat → Int} (F : Fix n bs ch rs V) : RInv n bs ch rs r V 0 [] bs := ⟨fun _ _ => Int.le_refl _, F.low, fun j hj h => by omega, fun z h => by simp at h⟩
theorem fix_ex {n : Nat} (bs : Nat → Int) (ch : Nat → Nat → Int) {rs : List (Int × Int)} (hr : ∀ z, z ∈ rs → 0 ≤ z.1 ∧ z.1 < n ∧ 0 ≤ z.2 ∧ z.2 < n ∧ z.1 ≠ z.2) (hk : ∃ rk : Int → Nat, ∀ z, z ∈ rs → rk z.1 < rk z.2) : ∃ V, Fix n bs ch rs V := by
  obtain ⟨r, _, h2⟩ := ranks hr hk
  let val : (Nat → Int) → Nat → Int := fun v j => (rs.filter fun z => decide (z.2 = (j : Int))).foldl (fun m z => max m (v z.1.toNat + ch z.1.toNat j)) (bs j)
  have fold : ∀ (v : Nat → Int) (j : Nat) (l : List (Int × Int)) (m : Int), m ≤ l.foldl (fun m z => max m (v z.1.toNat + ch z.1.toNat j)) m ∧ (∀ z, z ∈ l → v z.1.toNat + ch z.1.toNat j ≤ l.foldl (fun m z => max m (v z.1.toNat + ch z.1.toNat j)) m) ∧
      (l.foldl (fun m z => max m (v z.1.toNat + ch z.1.toNat j)) m = m ∨ ∃ z, z ∈ l ∧ l.foldl (fun m z => max m (v z.1.toNat + ch z.1.toNat j)) m = v z.1.toNat + ch z.1.toNat j) := by
    intro v j l
    induction l with
    | nil => intro m; exact ⟨Int.le_refl _, fun z h => by simp at h, .inl rfl⟩
    | cons y l ih =>
      intro m
      obtain ⟨i1, i2, i3⟩ := ih (max m (v y.1.toNat + ch y.1.toNat j))
      simp only [List.foldl_cons]
      refine ⟨by omega, fun z hz => ?_, ?_⟩
      · rcases List.mem_cons.mp hz with rfl | hz
        · omega
        · exact i2 z hz
      · rcases i3 with e | ⟨z, hz, e⟩
        · by_cases h : v y.1.toNat + ch y.1.toNat j ≤ m
          · left; omega
          · right; exact ⟨y, by simp, by omega⟩
        · right; exact ⟨z, List.mem_cons_of_mem _ hz, e⟩
  let it : Nat → Nat → Int := fun k => k.rec bs fun _ v => val v
  have stab : ∀ m j, r j < m → ∀ k, r j ≤ k → it (k + 1) j = it (r j + 1) j := by
    intro m
    induction m with
    | zero => intro j h; omega
    | succ m ih =>
      intro j hj k hk
      show val (it k) j = val (it (r j)) j
      have : ∀ z, z ∈ rs → z.2 = (j : Int) → it k z.1.toNat = it (r j) z.1.toNat := fun z hz e => by
        have h3 := h2 z hz
        rw [e] at h3
        simp only [Int.toNat_natCast] at h3
        obtain ⟨k', rfl⟩ : ∃ k', k = k' + 1 := ⟨k - 1, by omega⟩
        obtain ⟨r', hr'⟩ : ∃ r', r j = r' + 1 := ⟨r j - 1, by omega⟩
        rw [ih _ (by omega) k' (by omega), hr', ih _ (by omega) r' (by omega)]
      have fc : ∀ (l : List (Int × Int)) (m : Int), (∀ z, z ∈ l → it k z.1.toNat = it (r j) z.1.toNat) → l.foldl (fun m z => max m (it k z.1.toNat + ch z.1.toNat j)) m = l.foldl (fun m z => max m (it (r j) z.1.toNat + ch z.1.toNat j)) m := by
        intro l
        induction l with
        | nil => intro m _; rfl
        | cons y l ihl =>
          intro m h
          simp only [List.foldl_cons]
          rw [h y (by simp)]
          exact ihl _ fun z hz => h z (List.mem_cons_of_mem _ hz)
      exact fc _ _ fun z hz => this z (List.mem_filter.mp hz).1 (by simpa using (List.mem_filter.mp hz).2)
  refine ⟨fun j => it (r j + 1) j, fun j _ => (fold (it (r j)) j _ (bs j)).1, fun z hz => ?_, fun j _ => ?_⟩
  · obtain ⟨a1, a2, a3, a4, _⟩ := hr z hz
    obtain ⟨b, hb⟩ := Int.eq_ofNat_of_zero_le a3
    have h3 := h2 z hz
    rw [hb] at h3 ⊢
    simp only [Int.toNat_natCast] at h3 ⊢
    have h4 := (fold (it (r b)) b (rs.filter fun z => decide (z.2 = (b : Int))) (bs b)).2.1 z (List.mem_filter.mpr ⟨hz, by simp [hb]⟩)
    obtain ⟨r', hr'⟩ : ∃ r', r b = r' + 1 := ⟨r b - 1, by omega⟩
    have h5 := stab _ z.1.toNat (Nat.lt_succ_self _) r' (by omega)
    rw [← hr'] at h5
    rw [← h5]
    exact h4
  · rcases (fold (it (r j)) j (rs.filter fun z => decide (z.2 = (j : Int))) (bs j)).2.2 with e | ⟨z, hz, e⟩
    · exact .inl e
    · obtain ⟨hz1, hz2⟩ := List.mem_filter.mp hz
      have ez : z.2 = (j : Int) := by simpa using hz2
      have h3 := h2 z hz1
      rw [ez] at h3
      simp only [Int.toNat_natCast] at h3
      obtain ⟨r', hr'⟩ : ∃ r', r j = r' + 1 := ⟨r j - 1, by omega⟩
      have h5 := stab _ z.1.toNat (Nat.lt_succ_self _) r' (by omega)
      rw [← hr'] at h5
      right
      refine ⟨z, hz1, ez, ?_⟩
      show val (it (r j)) j = it (r z.1.toNat + 1) z.1.toNat + ch z.1.toNat j
      rw [← h5]
      exact e
end L3
namespace L3
open PySem PySem.Spec PyProof.Rows L2
theorem np_rg' (lo : Int) (n : Nat) : noptrs (rgI lo n) = true := rgI_np
def IsMax (n : Nat) (v : Nat → Int) (m : Int) : Prop := (∃ j, j < n ∧ v j = m) ∧ ∀ j, j < n → v j ≤ m
theorem max_of {n : Nat} {v : Nat → Int} {m : Int} (hm : m ∈ (List.range n).map v) (hle : ∀ y, y ∈ (List.range n).map v → y ≤ m) : IsMax n v m := by
  refine ⟨?_, fun j hj => hle _ (List.mem_map.mpr ⟨j, by simpa using hj, rfl⟩)⟩
  obtain ⟨j, hj, e⟩ := List.mem_map.mp hm
  exact ⟨j, by simpa using hj, e⟩
theorem wl_lst {n : Nat} {v : Nat → Int} {C : Store} {o : Bool} : lstOf C (.lst o (wL n v)) = some (((List.range n).map v).map .int) := by rw [wL_ints]; rfl
theorem wl_pos {n : Nat} {v : Nat → Int} (h : 1 ≤ n) : 0 < ((List.range n).map v).length := by simp; omega
def P_fewest : PV := fun ds C Q => ∃ (o : Bool) (f st : Str) (rs : List (Int × Int)), ds = [pil o f st rs] ∧ Pil f st rs ∧ ∀ v m, PFix f st rs v → IsMax st.length v m → Q (.int m) C
theorem Pil.other {f g st : Str} {rs : List (Int × Int)} (h : Pil f st rs) (hg : g = cR ∨ g = cB) : Pil g st rs := ⟨hg, h.pos, h.top, h.sts, h.rul, h.acy⟩
theorem signs_wL {f st : Str} : (signs st).map (fun d => match d with | .str s => D.int (neq (s.cps.toList.getD 0 0) (f0 f)) | d => d) = wL st.length (bsOf f st) := by
  unfold signs wL bsOf
  rw [List.map_map]
  have hl : st.cps.toList.length = st.length := by rw [Array.length_toList]; rfl
  apply List.ext_getElem?
  intro i
  rw [List.getElem?_map, List.getElem?_map]
  by_cases h : i < st.length
  · rw [List.getElem?_range h, List.getElem?_eq_getElem (by omega)]
    show some (D.int (neq (st.cps.toList[i]'(by omega)) (f0 f))) = some (D.int (neq (sg st i) (f0 f)))
    unfold sg
    rw [List.getD_eq_getElem?_getD, List.getElem?_eq_getElem (by omega)]
    rfl
  · rw [List.getElem?_eq_none (by omega), List.getElem?_eq_none (by simp; omega)]
    rfl
end L3
namespace L3
open PySem PySem.Spec PyProof.Rows L2
theorem cpow10 (k : Nat) (h : k ≤ 100) : CPowW 10 (k : Int) := cpow_of (n := 4) (by omega) (by decide) (by omega)
theorem log_of {n : Int} {k : Nat} (h : n.natAbs < 2 ^ k) (hk : 0 < k) : n.natAbs.log2 < k := by
  by_cases hz : n.natAbs = 0
  · rw [hz]; simpa using hk
  · rw [Nat.log2_lt hz]; exact h
theorem cmul_of {i j : Int} {a b : Nat} (ha : i.natAbs < 2 ^ a) (hb : j.natAbs < 2 ^ b) (h0 : 0 < a) (h1 : 0 < b) (h : a + b < 1000000) : CMulW i j := by
  have := log_of ha h0
  have := log_of hb h1
  unfold CMulW
  omega
theorem cdiv_of {i j : Int} (h0 : 0 < j) (h : j < 2 ^ 8000) : CDivW i j := ⟨h0, Nat.lt_of_lt_of_le (log_of (k := 8000) (by omega) (by decide)) (by decide)⟩
def Jar (c : Int) (x : Cell) : Prop := ∃ a b k : Int, x = .lst [.int a, .int b, .int k] ∧ 0 ≤ a ∧ 0 ≤ b ∧ b < 10 ^ 120 ∧ 0 ≤ k ∧ k ≤ c
def P_Lw_jar : PV := fun ds C Q => ∃ c k : Int, ds = [.int c, .int k] ∧ 0 ≤ k ∧ k < 1000 ∧ ∀ xs, Jar 0 (.lst xs) → flatDs xs = true → Q (.lst false xs) C
theorem v_Lw_jar (ds : List D) (C : Store) (Q3 : D → Store → Prop) (h : P_Lw_jar ds C Q3) (hC : C.length = 0) : T_Lw_jar (enF 0 Q3) (start3 N_Lw_jar ds) C := by
  obtain ⟨c, k, rfl, h0, h1, q⟩ := h
  rw [List.length_eq_zero_iff] at hC
  subst hC
  have hz := sizeL
  have eΓ : start3 N_Lw_jar [D.int c, D.int k] = [some (.int c), some (.int k)] := rfl
  rw [eΓ]
  simp [T_Lw_jar, oMax2]
  have hb0 := Int.emod_nonneg c (b := 100000000000000000000000000000000000133) (by decide)
  have hb1 := Int.emod_lt_of_pos c (b := 100000000000000000000000000000000000133) (by decide)
  refine ⟨cpow10 18 (by decide), _, _, ⟨rfl, rfl⟩, cpow10 38 (by decide), ?_⟩
  generalize c % 100000000000000000000000000000000000133 = m at *
  obtain ⟨mn, rfl⟩ := Int.eq_ofNat_of_zero_le hb0
  have hp : mn ^ 3 < 100000000000000000000000000000000000133 ^ 3 := Nat.pow_lt_pow_left (by omega) (by decide)
  have hpi : ((mn : Int)) ^ 3 = ((mn ^ 3 : Nat) : Int) := by simp
  refine ⟨cpow_of (n := 200) (by decide) (by omega) (by decide), cmul_of (a := 40) (b := 20) (by decide) (by omega) (by decide) (by decide) (by decide), by omega, ?_⟩
  have e : ([D.int (max 0 (c - 1000000000000000000)), D.int ((mn : Int) ^ 3 + 746773 * k + 173205080756887729), D.int 0] : List D) = [max 0 (c - 1000000000000000000), (mn : Int) ^ 3 + 746773 * k + 173205080756887729, 0].map .int := rfl
  rw [finS0, e, fin_ints, ← e]
  rw [hpi]
  exact q _ ⟨_, _, _, rfl, by omega, by omega, by omega, by omega, by omega⟩ rfl
def P_Lw_pull : PV := fun ds C Q => ∃ (m c : Int) (x : Cell), ds = [.ptr 0, .int m] ∧ C = [x] ∧ Jar c x ∧ 0 < m ∧ m < 10 ^ 30 ∧ c < 10 ^ 6 ∧ ∀ r y, 0 ≤ r → r < m → Jar (c + 1) y → Q (.int r) [y]
def callK (n : Nat) (kf : List D → List Nat) (P : PV) (ds : List D) (C1 : Store) (Q : D → Store → Prop) : Prop := (kf ds).length = n ∧ (kf ds).Nodup ∧ (∀ k, k ∈ kf ds → ∃ c, C1[k]? = some c ∧ c ≠ Cell.dead) ∧
  P (views (kf ds) C1 ds) (viewC (kf ds) C1) fun d Cc => noold d = true ∧ (∀ c, c ∈ Cc → c.okC (fun o => !o) = true) ∧ Q (mapW id (backG (kf ds)) d) (putS (kf ds) (Cc.map (backs (kf ds))) C1)
@[simp] theorem u_eCallK {n : Nat} {kf : List D → List Nat} {P : PV} {L : AV} {Γ : Slots} {C : Store} {Q : D → Store → Prop} : eCallK n kf P L Γ C Q = L Γ C fun ds C1 => callK n kf P ds C1 Q := rfl
theorem Jar.view {c : Int} {x : Cell} (h : Jar c x) {f : Bool → Bool} {g : Nat → D} : x.mapC f g = x := by
  obtain ⟨a, b, k, rfl, _⟩ := h
  rfl
theorem Jar.alive {c : Int} {x : Cell} (h : Jar c x) : x ≠ .dead := by
  obtain ⟨a, b, k, rfl, _⟩ := h
  simp
theorem Jar.ok {c : Int} {x : Cell} (h : Jar c x) : x.okC (fun o => !o) = true := by
  obtain ⟨a, b, k, rfl, _⟩ := h
  rfl
theorem callJ {P : PV} {k : Nat} {es es' : List D} {C1 : Store} {c : Int} {x : Cell} {Q : D → Store → Prop} (hk : C1[k]? = some x) (hx : Jar c x) (he : mapWs (fun _ => true) (viewG [k] C1 2) es = es')
    (h : P (.ptr 0 :: es') [x] fun d Cc => ∃ y c', Cc = [y] ∧ Jar c' y ∧ (noold d && noptr d) = true ∧ Q d (C1.set k y)) (mono : ∀ (R R' : D → Store → Prop), (∀ d Cc, R d Cc → R' d Cc) → P (.ptr 0 :: es') [x] R → P (.ptr 0 :: es') [x] R') : callK 1 kf1 P (.ptr k :: es) C1 Q := by
  have e1 : kf1 (.ptr k :: es) = [k] := rfl
  unfold callK
  rw [e1]
  refine ⟨rfl, List.nodup_cons.mpr ⟨by simp, List.nodup_nil⟩, fun k' hk' => ⟨x, ?_, hx.alive⟩, ?_⟩
  · simp at hk'; subst hk'; exact hk
  · have e2 : views [k] C1 (.ptr k :: es) = .ptr 0 :: es' := by
      unfold views
      rw [mapWs, he]
      simp [mapW, viewG, posOf]
    have e3 : viewC [k] C1 = [x] := by
      unfold viewC
      simp only [List.map_cons, List.map_nil, hk, Option.getD_some]
      rw [hx.view]
    rw [e2, e3]
    refine mono _ _ (fun d Cc hd => ?_) h
    obtain ⟨y, c', rfl, hy, hn, hq⟩ := hd
    simp only [Bool.and_eq_true] at hn
    refine ⟨hn.1, fun c hc => ?_, ?_⟩
    · simp at hc; subst hc; exact hy.ok
    · rw [mapW_np.1 d hn.2]
      show Q d ((C1.set k (y.mapC id (backG [k]))))
      rw [hy.view]
      exact hq
theorem mono_pull {ds : List D} {C : Store} (R R' : D → Store → Prop) (h : ∀ d Cc, R d Cc → R' d Cc) : P_Lw_pull ds C R → P_Lw_pull ds C R' := fun ⟨m, c, x, e1, e2, e3, e4, e5, e6, q⟩ => ⟨m, c, x, e1, e2, e3, e4, e5, e6, fun r y a b d => h _ _ (q r y a b d)⟩
theorem pull_k {m c : Int} {x : Cell} {k : Nat} {C1 : Store} {Q : D → Store → Prop} (hk : C1[k]? = some x) (hx : Jar c x) (hm : 0 < m) (hm2 : m < 10 ^ 30) (hc : c < 10 ^ 6) (q : ∀ r y, 0 ≤ r → r < m → Jar (c + 1) y → Q (.int r) (C1.set k y)) :
    callK 1 kf1 P_Lw_pull [.ptr k, .int m] C1 Q :=
  callJ (es' := [.int m]) hk hx rfl ⟨m, c, x, rfl, rfl, hx, hm, hm2, hc, fun r y h0 h1 hy => ⟨y, _, rfl, hy, rfl, q r y h0 h1 hy⟩⟩ mono_pull
theorem pull_e {i k : Nat} {m c : Int} {x : Cell} {C1 : Store} {Γ : Slots} {E : EV} {Q : D → Store → Prop} (hk : C1[k]? = some x) (hx : Jar c x) (hv : Γ[i]? = some (some (.ptr k))) (hE : ∀ R : D → Store → Prop, R (.int m) C1 → E Γ C1 R) (hm : 0 < m) (hm2 : m < 10 ^ 30) (hc : c < 10 ^ 6)
    (q : ∀ r y, 0 ≤ r → r < m → Jar (c + 1) y → Q (.int r) (C1.set k y)) : eCallK 1 kf1 P_Lw_pull (aCons (eVar i) (aCons E aNil)) Γ C1 Q := by
  rw [u_eCallK]
  simp only [u_aCons, u_aNil, u_eVar]
  exact ⟨_, hv, hE _ (pull_k hk hx hm hm2 hc q)⟩
end L3
namespace L3
open PySem PySem.Spec PyProof.Rows L2
def P_Lw_size : PV := fun ds C Q => ∃ (o : Bool) (ns : List Int) (m c : Int) (x : Cell), ds = [.ptr 0, .lst o (ns.map .int), .int m] ∧ (3 ≤ m ∧ m ≤ 24) ∧ C = [x] ∧ Jar c x ∧ c < 10 ^ 5 ∧ ∀ r c' y, 1 ≤ r → r ≤ m → Jar c' y → c' ≤ c + 5 → Q (.int r) [y]
theorem v_Lw_size (ds : List D) (C : Store) (Q3 : D → Store → Prop) (h : P_Lw_size ds C Q3) (hC : C.length = 1) : T_Lw_size P_Lw_pull (enF 1 Q3) (start3 N_Lw_size ds) C := by
  obtain ⟨o, ns, m, c, x, rfl, ⟨hm3, hm24⟩, rfl, hx, hc, q⟩ := h
  have hz := sizeL
  have hrt : ∀ r c' y, 1 ≤ r → r ≤ m → Jar c' y → c' ≤ c + 5 → (enF 1 Q3).rt (.int r) [y] := fun r c' y h1 h2 hy hcc => by
    have := q r c' y h1 h2 hy hcc
    obtain ⟨a, b, k, rfl, h⟩ := hy
    exact this
  refine ⟨_, rfl, Nat.zero_le _, ?_⟩
  refine oEq_ints (ns := ns) (ms := []) (o' := false) ⟨_, rfl, ?_⟩
  by_cases he : ns = []
  · refine goT (by simp [he]) ?_
    show eBin oAdd (eC (.int 2)) (eCallK 1 kf1 P_Lw_pull (aCons (eVar 0) (aCons (eC (.int 2)) aNil))) _ _ _
    rw [u_eBin, u_eC]
    refine pull_e (k := 0) (m := 2) rfl hx rfl (fun R h => h) (by decide) (by decide) (by omega) fun r y h0 h1 hy => ?_
    exact ⟨_, _, rfl, rfl, hrt _ _ _ (by omega) (by omega) hy (by omega)⟩
  · refine goF (by simp [he]) ?_
    show sSeq (sAsg (eFrz (fLst (aCons (eC (.int 1)) (aCons (eBin oAdd (eC (.int 1)) (eCallK 1 kf1 P_Lw_pull (aCons (eVar 0) (aCons (eC (.int 5)) aNil)))) (aCons (eBin oAdd (eC (.int 1)) (eCallK 1 kf1 P_Lw_pull (aCons (eVar 0) (aCons (eC (.int 12)) aNil)))) (aCons (eVar 2) aNil)))))) (gvName 3)) _ _ _ _
    rw [u_sSeq, u_sAsg, u_eFrz, u_fLst, u_aCons, u_eC, u_aCons, u_eBin, u_eC]
    refine pull_e (k := 0) (m := 5) rfl hx rfl (fun R h => h) (by decide) (by decide) (by omega) fun r5 y5 h50 h51 hy5 => ?_
    refine ⟨_, _, rfl, rfl, ?_⟩
    show eBin oAdd (eC (.int 1)) (eCallK 1 kf1 P_Lw_pull (aCons (eVar 0) (aCons (eC (.int 12)) aNil))) _ _ _
    rw [u_eBin, u_eC]
    refine pull_e (k := 0) (m := 12) rfl hy5 rfl (fun R h => h) (by decide) (by decide) (by omega) fun r12 y12 hc0 hc1 hy12 => ?_
    refine ⟨_, _, rfl, rfl, _, rfl, by rw [hz]; show 4 ≤ 16777216; decide, ?_⟩
    refine ⟨_, rfl, _, rfl, ?_⟩
    show eCallK 1 kf1 P_Lw_pull (aCons (eVar 0) (aCons (eC (.int 4)) aNil)) _ _ _
    refine pull_e (k := 0) (m := 4) rfl hy12 rfl (fun R h => h) (by decide) (by decide) (by omega) fun r4 y4 h40 h41 hy4 => ?_
    obtain ⟨w, hw, hw0, hw1⟩ : ∃ w : Int, atI [D.int 1, D.int (1 + r5), D.int (1 + r12), D.int m] r4 = some (.int w) ∧ 1 ≤ w ∧ w ≤ 24 := by
      have : r4 = 0 ∨ r4 = 1 ∨ r4 = 2 ∨ r4 = 3 := by omega
      rcases this with rfl | rfl | rfl | rfl
      · exact ⟨1, rfl, by decide, by decide⟩
      · exact ⟨_, rfl, by omega, by omega⟩
      · exact ⟨_, rfl, by omega, by omega⟩
      · exact ⟨m, rfl, by omega, hm24⟩
    refine ⟨_, _, _, rfl, rfl, hw, ?_⟩
    exact ⟨_, _, rfl, hrt _ _ _ (by omega) (by omega) hy4 (by omega)⟩
end L3
namespace L3
open PySem PySem.Spec PyProof.Rows L2
theorem pyWs_pairs {g : Nat → Option PyData} : ∀ ps : List (Int × Int), pyWs g (ps.map pD) = some (ps.map fun z => .tuple [.int z.1, .int z.2])
  | [] => rfl
  | z :: ps => by simp only [List.map_cons, pyWs, pD, pyW, pyWs_pairs ps]; rfl
theorem lay_pairs : ∀ ps : List (Int × Int), PyData.canLayAll0 (ps.map fun z => .tuple [.int z.1, .int z.2]) = true
  | [] => rfl
  | z :: ps => by simp [PyData.canLayAll0, PyData.canLay0, lay_pairs ps]
theorem depth_pairs : ∀ ps : List (Int × Int), PyData.depthAll (ps.map fun z => .tuple [.int z.1, .int z.2]) ≤ 1
  | [] => by simp [PyData.depthAll]
  | z :: ps => by
    have := depth_pairs ps
    simp [PyData.depthAll, PyData.depth]
    omega
def Along (ord : List Int) (ps : List (Int × Int)) : Prop := ∀ z, z ∈ ps → ∃ a b : Nat, a < b ∧ ord[a]? = some z.1 ∧ ord[b]? = some z.2
theorem along_ok {n : Nat} {ord : List Int} {qs : List (Int × Int)} (ho : ord.Perm (upto n)) (nd : qs.Nodup) (hl : qs.length ≤ 60) (ha : Along ord qs) (hs : qs.Pairwise fun x y => SrtO.lexB y x = false) :
    Rul n qs ∧ ∃ rk : Int → Nat, ∀ z, z ∈ qs → rk z.1 < rk z.2 := by
  have ond : ord.Nodup := ho.nodup_iff.mpr (List.pairwise_map.mpr (List.Pairwise.imp (fun h e => h (Int.ofNat.inj e)) (List.nodup_range (n := n))))
  have mem : ∀ x, x ∈ ord → 0 ≤ x ∧ x < n := fun x hx => by
    obtain ⟨i, hi, rfl⟩ := List.mem_map.mp (ho.mem_iff.mp hx)
    have : i < n := by simpa using hi
    omega
  have idx : ∀ (a : Nat) (x : Int), ord[a]? = some x → ord.idxOf x = a := fun a x h => by
    obtain ⟨h1, h2⟩ := List.getElem?_eq_some_iff.mp h
    rw [← h2]
    exact ond.idxOf_getElem a h1
  refine ⟨⟨hl, fun z hz => ?_, ?_⟩, fun x => ord.idxOf x, fun z hz => ?_⟩
  · obtain ⟨a, b, hab, e1, e2⟩ := ha z hz
    have m1 := mem _ (List.mem_of_getElem? e1)
    have m2 := mem _ (List.mem_of_getElem? e2)
    refine ⟨m1.1, m1.2, m2.1, m2.2, fun e => ?_⟩
    have i1 := idx a _ e1
    have i2 := idx b _ e2
    rw [e] at i1
    omega
  · have both := List.Pairwise.and hs nd
    refine both.imp fun h => ?_
    obtain ⟨h1, h2⟩ := h
    have h3 := SrtO.lexB_no.mp h1
    refine SrtO.lexB_iff.mpr ?_
    rename_i x y
    by_cases e : x.1 = y.1
    · have : x.2 ≠ y.2 := fun e2 => h2 (Prod.ext e e2)
      omega
    · omega
  · obtain ⟨a, b, hab, e1, e2⟩ := ha z hz
    show ord.idxOf z.1 < ord.idxOf z.2
    rw [idx a _ e1, idx b _ e2]
    exact hab
end L3
namespace L3
open PySem PySem.Spec PyProof.Rows L2
theorem em_cps : (Str.ofString "").cps = #[] := by decide +kernel
theorem join_signs : ∀ ys : List Str, (∀ y, y ∈ ys → y = cR ∨ y = cB) → (Txt.join (Str.ofString "") ys).length = ys.length ∧ ∀ c, c ∈ (Txt.join (Str.ofString "") ys).cps.toList → c = 82 ∨ c = 66 := by
  intro ys
  rw [TL.join_eq]
  induction ys with
  | nil => intro _; exact ⟨rfl, fun c h => by simp [PySem.Str.join, PySem.Str.empty] at h⟩
  | cons x ys ih =>
    intro h
    obtain ⟨i1, i2⟩ := ih fun y hy => h y (List.mem_cons_of_mem _ hy)
    have hx := h x (List.mem_cons_self ..)
    have x1 : x.length = 1 := by rcases hx with rfl | rfl <;> rfl
    have x2 : ∀ c, c ∈ x.cps.toList → c = 82 ∨ c = 66 := by
      rcases hx with rfl | rfl
      · intro c hc; simp [cR] at hc; exact .inl hc
      · intro c hc; simp [cB] at hc; exact .inr hc
    cases ys with
    | nil => exact ⟨x1, x2⟩
    | cons y ys =>
      have e : (PySem.Str.join (Str.ofString "") (x :: y :: ys)).cps = x.cps ++ (PySem.Str.join (Str.ofString "") (y :: ys)).cps := by
        show (x ++ Str.ofString "" ++ PySem.Str.join (Str.ofString "") (y :: ys)).cps = _
        rw [PySem.Str.cps_append, PySem.Str.cps_append, em_cps, Array.append_empty]
      refine ⟨?_, fun c hc => ?_⟩
      · unfold PySem.Str.length at i1 x1 ⊢
        rw [e, Array.size_append, i1, x1]
        simp
        omega
      · rw [e, Array.toList_append] at hc
        rcases List.mem_append.mp hc with hc | hc
        · exact x2 c hc
        · exact i2 c hc
theorem rg_upto (n : Nat) : rgI 0 ((n : Int)).toNat = (upto n).map .int := by
  unfold rgI upto
  rw [Int.toNat_natCast, List.map_map]
  congr 1
  funext i
  show D.int (0 + (i : Nat)) = D.int (i : Nat)
  rw [Int.zero_add]
theorem RB_at {r : Int} (h0 : 0 ≤ r) (h1 : r < 2) : ∃ c : Nat, atI (Str.ofString "RB").cps.toList r = some c ∧ ((⟨#[c]⟩ : Str) = cR ∨ (⟨#[c]⟩ : Str) = cB) := by
  have : r = 0 ∨ r = 1 := by omega
  rw [RB_cps]
  rcases this with rfl | rfl
  · exact ⟨82, rfl, .inl rfl⟩
  · exact ⟨66, rfl, .inr rfl⟩
theorem RB_len : (Str.ofString "RB").length = 2 := by decide +kernel
theorem seq_ix {r : Int} {n : Nat} (h0 : 0 ≤ r) (h1 : r < n) : seqIndex? r n = some r.toNat := seqIndex_of h0 h1
theorem er_map : ∀ (L : List Int) (j : Nat), (L.map D.int).eraseIdx j = (L.eraseIdx j).map D.int
  | [], _ => by simp
  | _ :: _, 0 => rfl
  | a :: L, j + 1 => by simp only [List.map_cons, List.eraseIdx_cons_succ, er_map L j]
end L3
namespace L3
open PySem PySem.Spec PyProof.Rows L2
def P_Lw_cells : PV := fun ds C Q => ∃ (o : Bool) (ns : List Int) (m : Int), ds = [.lst o (ns.map .int), .int m] ∧ ns.length ≤ 63 ∧ ∀ ms : List Int, ms.length ≤ 64 → Q (.lst false (ms.map .int)) C
def P_never : PV := fun _ _ _ => False
end L3
namespace L3
open PySem PySem.Spec PyProof.Rows L2
theorem Fix.le1 {n : Nat} {bs bs' : Nat → Int} {ch : Nat → Nat → Int} {rs : List (Int × Int)} {v w : Nat → Int} (hb : ∀ j, bs j ≤ bs' j + 1) (hr : ∀ z, z ∈ rs → 0 ≤ z.1 ∧ z.1 < n) (hk : ∃ rk : Int → Nat, ∀ z, z ∈ rs → rk z.1 < rk z.2) (V : Fix n bs ch rs v) (W : Fix n bs' ch rs w) : ∀ j, j < n → v j ≤ w j + 1 := by
  obtain ⟨rk, hrk⟩ := hk
  have all : ∀ m : Nat, ∀ j : Nat, j < n → rk j < m → v j ≤ w j + 1 := by
    intro m
    induction m with
    | zero => intro j _ h; omega
    | succ m ih =>
      intro j hj hm
      rcases V.by_ j hj with e | ⟨z, hz, e1, e2⟩
      · have := W.low j hj
        have := hb j
        omega
      · obtain ⟨h0, h1⟩ := hr z hz
        obtain ⟨i, hi⟩ := Int.eq_ofNat_of_zero_le h0
        have h2 := hrk z hz
        rw [e1, hi] at h2
        have h3 := ih i (by omega) (by omega)
        have h4 := W.up z hz
        rw [e1] at h4
        rw [hi] at e2 h4
        simp at e2 h4
        omega
  exact fun j hj => all (rk j + 1) j hj (by omega)
theorem neq01 (a b : Nat) : 0 ≤ neq a b ∧ neq a b ≤ 1 := by
  unfold neq
  split <;> decide
theorem max_eq {n : Nat} {v w : Nat → Int} {m k : Int} (h : ∀ j, j < n → v j = w j) (a : IsMax n v m) (b : IsMax n w k) : m = k := by
  obtain ⟨⟨i, hi, ei⟩, ai⟩ := a
  obtain ⟨⟨j, hj, ej⟩, bj⟩ := b
  have h1 := ai j hj
  have h2 := bj i hi
  rw [h j hj] at h1
  rw [← h i hi] at h2
  omega
theorem Pil.r2 {f st : Str} {rs : List (Int × Int)} (hp : Pil f st rs) : ∀ z, z ∈ rs → 0 ≤ z.1 ∧ z.1 < st.length := fun z hz => ⟨(hp.rul.inn z hz).1, (hp.rul.inn z hz).2.1⟩
theorem pfix_max {f st : Str} {rs : List (Int × Int)} (hp : Pil f st rs) {g : Str} {v w : Nat → Int} {m k : Int} (V : PFix g st rs v) (W : PFix g st rs w) (a : IsMax st.length v m) (b : IsMax st.length w k) : m = k := max_eq (Fix.eq hp.r2 hp.acy V W) a b
theorem mono_size {ds : List D} {C : Store} (R R' : D → Store → Prop) (h : ∀ d Cc, R d Cc → R' d Cc) : P_Lw_size ds C R → P_Lw_size ds C R' := fun ⟨o, ns, m, c, x, e1, e0, e2, e3, e4, q⟩ => ⟨o, ns, m, c, x, e1, e0, e2, e3, e4, fun r c' y a b d e => h _ _ (q r c' y a b d e)⟩
theorem np_pil {f st : Str} {rs : List (Int × Int)} : (noold (pil false f st rs) && noptr (pil false f st rs)) = true := by
  have := flats_np (flat_pairs rs)
  unfold pil
  simp only [noold, okW, okWs, noptr, noptrs, this.1, this.2]
  rfl
end L3
namespace L3
open PySem PySem.Spec PyProof.Rows L2
structure Shw (p : PyData) (d n : Nat) : Prop where
  ok : p.showable = true
  nd : p.hasDict = false
  dp : p.depth ≤ d
  ln : p.shown.length ≤ n
structure Shws (ps : List PyData) (d n : Nat) : Prop where
  ok : PyData.showableAll ps = true
  nd : PyData.hasDictAll ps = false
  dp : PyData.depthAll ps ≤ d
  ln : ((PyData.shownAll ps).map (·.length)).sum + 2 * ps.length ≤ n
theorem shownAll_len : ∀ ps : List PyData, (PyData.shownAll ps).length = ps.length
  | [] => rfl
  | p :: ps => by simp only [PyData.shownAll, List.length_cons, shownAll_len ps]
theorem Shws.nil {d n : Nat} : Shws [] d n := ⟨rfl, rfl, Nat.zero_le _, by simp [PyData.shownAll]⟩
theorem Shws.cons {p : PyData} {ps : List PyData} {d n m : Nat} (a : Shw p d n) (b : Shws ps d m) : Shws (p :: ps) d (n + m + 2) := by
  have h1 := a.ln
  have h2 := b.ln
  refine ⟨by simp [PyData.showableAll, a.ok, b.ok], by simp [PyData.hasDictAll, a.nd, b.nd], ?_, ?_⟩
  · have h3 := a.dp
    have h4 := b.dp
    simp only [PyData.depthAll]
    omega
  · simp only [PyData.shownAll, List.map_cons, List.sum_cons, List.length_cons]
    omega
theorem Shws.all {ps : List PyData} {d n : Nat} (h : ∀ p, p ∈ ps → Shw p d n) : Shws ps d (ps.length * (n + 2)) := by
  induction ps with
  | nil => exact .nil
  | cons p ps ih =>
    have := Shws.cons (h p (List.mem_cons_self ..)) (ih fun q hq => h q (List.mem_cons_of_mem _ hq))
    rw [List.length_cons, Nat.add_mul, Nat.one_mul]
    exact ⟨this.ok, this.nd, this.dp, by have := this.ln; omega⟩
theorem Shw.le {p : PyData} {d n d' n' : Nat} (a : Shw p d n) (h : d ≤ d') (h' : n ≤ n') : Shw p d' n' := ⟨a.ok, a.nd, Nat.le_trans a.dp h, Nat.le_trans a.ln h'⟩
theorem Shw.list {ps : List PyData} {d n : Nat} (a : Shws ps d n) : Shw (.list ps) (d + 1) (n + 3) := by
  have h := listText_len_le (PyData.shownAll ps)
  have h1 := a.ln
  have h2 := a.dp
  rw [shownAll_len] at h
  refine ⟨by rw [PyData.showable]; exact a.ok, by rw [PyData.hasDict]; exact a.nd, by rw [PyData.depth]; omega, ?_⟩
  rw [PyData.shown]
  omega
theorem Shw.tuple {ps : List PyData} {d n : Nat} (a : Shws ps d n) : Shw (.tuple ps) (d + 1) (n + 3) := by
  have h := tupleText_len_le (PyData.shownAll ps)
  have h1 := a.ln
  have h2 := a.dp
  rw [shownAll_len] at h
  refine ⟨by rw [PyData.showable]; exact a.ok, by rw [PyData.hasDict]; exact a.nd, by rw [PyData.depth]; omega, ?_⟩
  rw [PyData.shown]
  omega
theorem Shw.int {i : Int} {d : Nat} (h0 : 0 ≤ i) (h1 : i < 10 ^ 40) : Shw (.int i) d 40 := by
  refine ⟨?_, rfl, by simp [PyData.depth], ?_⟩
  · rw [PyData.showable]
    refine decide_eq_true ?_
    have hz : i.natAbs < 2 ^ 200 := by
      have : i < 2 ^ 200 := Int.lt_of_lt_of_le h1 (by decide)
      omega
    exact Nat.lt_trans (log_of (k := 200) hz (by decide)) (by decide)
  · rw [PyData.shown]
    exact tx_len h0 (by decide) h1
theorem Shw.str {s : Str} {d n : Nat} (h : ∀ c, c ∈ s.cps.toList → c < 16 ^ 8) (hl : s.length ≤ n) : Shw (.str s) d (10 * n + 2) := by
  have := StrLaws.reprText_len s h
  refine ⟨rfl, rfl, by simp [PyData.depth], ?_⟩
  rw [PyData.shown]
  omega
theorem Shw.ints {ns : List Int} (h : ∀ n, n ∈ ns → 0 ≤ n ∧ n < 10 ^ 40) : Shw (.list (ns.map .int)) 1 (ns.length * 42 + 3) := by
  have := Shw.list (Shws.all (ps := ns.map PyData.int) (d := 0) (n := 40) fun p hp => by
    obtain ⟨n, hn, rfl⟩ := List.mem_map.mp hp
    exact .int (h n hn).1 (h n hn).2)
  rw [List.length_map] at this
  exact this
theorem Shw.sz {p : PyData} {d n : Nat} (h : Shw p d n) (hn : n ≤ 16777216) : p.shown.length ≤ sizeLine := by
  have := h.ln
  have := sizeL
  omega
def pilP (f st : Str) (rs : List (Int × Int)) : PyData := .tuple [.str f, .str st, .list (rs.map fun z => .tuple [.int z.1, .int z.2])]
theorem shw_pil {f st : Str} {rs : List (Int × Int)} (h : Pil f st rs) : Shw (pilP f st rs) 3 6000 := by
  have hr := h.rul
  have h24 := h.top
  have hp : Shw (.list (rs.map fun z => PyData.tuple [.int z.1, .int z.2])) 2 (rs.length * (40 + (40 + 0 + 2) + 2 + 3 + 2) + 3) := by
    have := Shw.list (Shws.all (ps := rs.map fun z => PyData.tuple [.int z.1, .int z.2]) (d := 1) (n := 40 + (40 + 0 + 2) + 2 + 3) fun p hp => by
      obtain ⟨z, hz, rfl⟩ := List.mem_map.mp hp
      obtain ⟨a1, a2, a3, a4, _⟩ := hr.inn z hz
      exact .tuple (.cons (.int a1 (by omega)) (.cons (.int a3 (by omega)) (.nil (n := 0)))))
    rw [List.length_map] at this
    exact this
  have hf := hr.few
  have h1 : Shw (.str f) 2 (10 * 1 + 2) := .str (fun c hc => by
    rcases h.fst with rfl | rfl
    · simp [cR] at hc; omega
    · simp [cB] at hc; omega) (by rcases h.fst with rfl | rfl <;> decide)
  have h2 : Shw (.str st) 2 (10 * 24 + 2) := .str (fun c hc => by have := h.sts c hc; omega) h24
  exact (Shw.tuple (.cons h1 (.cons h2 (.cons hp (.nil (n := 0)))))).le (Nat.le_refl _) (by omega)
end L3
namespace L3
open PySem PySem.Spec PyProof.Rows L2
def prs (l : List Int) : List (Int × Int) := l.zip (l.drop 1)
theorem prs_at {l : List Int} {i : Nat} {z : Int × Int} : (prs l)[i]? = some z ↔ l[i]? = some z.1 ∧ l[i + 1]? = some z.2 := by
  unfold prs
  rw [List.getElem?_zip_eq_some, List.getElem?_drop]
  rw [show 1 + i = i + 1 by omega]
theorem prs_mem {l : List Int} {z : Int × Int} : z ∈ prs l ↔ ∃ i : Nat, l[i]? = some z.1 ∧ l[i + 1]? = some z.2 := by
  rw [List.mem_iff_getElem?]
  exact ⟨fun ⟨i, h⟩ => ⟨i, prs_at.mp h⟩, fun ⟨i, h⟩ => ⟨i, prs_at.mpr h⟩⟩
theorem cut_tail (xs : List D) : cutD xs (some 1) none = xs.drop 1 := by
  unfold cutD
  have e1 : HT.sIx xs.length 0 (some 1) = min 1 xs.length := HT.sIx_nat _ _ 1
  rw [e1, HT.sIx_none]
  rw [List.take_of_length_le (by simp)]
  cases xs with
  | nil => rfl
  | cons z rs => rw [show min 1 (z :: rs).length = 1 by simp]
structure Chn (n : Nat) (rs : List (Int × Int)) (l : List Int) : Prop where
  ne : l ≠ []
  few : l.length ≤ 100
  inn : ∀ x, x ∈ l → 0 ≤ x ∧ x < n
  stp : ∀ z, z ∈ prs l → z ∈ rs
theorem Chn.one {n : Nat} {rs : List (Int × Int)} {i : Int} (h0 : 0 ≤ i) (h1 : i < n) : Chn n rs [i] := ⟨by simp, by simp, fun x hx => by simp at hx; subst hx; exact ⟨h0, h1⟩, fun z hz => by simp [prs] at hz⟩
theorem Chn.sub {n : Nat} {rs : List (Int × Int)} {l : List Int} (h : Chn n rs l) (a b : Nat) (ha : a < l.length) (hb : 0 < b) : Chn n rs ((l.drop a).take b) := by
  have hl := h.few
  refine ⟨fun e => ?_, by simp; omega, fun x hx => h.inn x (List.mem_of_mem_drop (List.mem_of_mem_take hx)), fun z hz => ?_⟩
  · have := congrArg List.length e
    simp at this
    omega
  · obtain ⟨i, h1, h2⟩ := prs_mem.mp hz
    have h1' := h1
    have h2' := h2
    rw [List.getElem?_take] at h1 h2
    split at h1
    · split at h2
      · rw [List.getElem?_drop] at h1 h2
        exact h.stp z (prs_mem.mpr ⟨a + i, h1, h2⟩)
      · cases h2
    · cases h1
theorem Chn.snoc {n : Nat} {rs : List (Int × Int)} {l : List Int} {x y : Int} (h : Chn n rs l) (hl : l.length < 100) (hx : l[l.length - 1]? = some x) (hxy : (x, y) ∈ rs) (h0 : 0 ≤ y) (h1 : y < n) : Chn n rs (l ++ [y]) := by
  refine ⟨by simp, by simp; omega, fun z hz => ?_, fun z hz => ?_⟩
  · rcases List.mem_append.mp hz with hz | hz
    · exact h.inn z hz
    · simp at hz; subst hz; exact ⟨h0, h1⟩
  · obtain ⟨i, e1, e2⟩ := prs_mem.mp hz
    have hi : i + 1 < (l ++ [y]).length := (List.getElem?_eq_some_iff.mp e2).1
    simp at hi
    by_cases hj : i + 1 < l.length
    · rw [List.getElem?_append_left (by omega)] at e1
      rw [List.getElem?_append_left hj] at e2
      exact h.stp z (prs_mem.mpr ⟨i, e1, e2⟩)
    · have : i = l.length - 1 := by omega
      subst this
      rw [List.getElem?_append_left (by omega), hx] at e1
      rw [List.getElem?_append_right (by omega), show l.length - 1 + 1 - l.length = 0 by omega] at e2
      simp at e1 e2
      have : z = (x, y) := Prod.ext e1.symm e2.symm
      rw [this]
      exact hxy
def chg (st : Str) (z : Int × Int) : Int := neq (sg st z.1.toNat) (sg st z.2.toNat)
theorem neq_comm (a b : Nat) : neq a b = neq b a := by
  unfold neq
  by_cases h : a = b
  · rw [if_pos h, if_pos h.symm]
  · rw [if_neg h, if_neg fun e => h e.symm]
theorem in_pairsD {neg o : Bool} {C : Store} {z : Int × Int} {ps : List (Int × Int)} {q : D → Prop} (h : q (.bl (neg != decide (z ∈ ps)))) : oIn neg C (pD z) (.lst o (ps.map pD)) q := by
  refine ⟨.tuple [.int z.1, .int z.2], ps.map fun z => .tuple [.int z.1, .int z.2], by simp [pD, pyD, pyW, pyWs], by simp [pyD, pyW, pyWs_pairs], by simp [SeqAt.shaped, PyData.canLay0, PyData.canLayAll0, PyData.depth, PyData.depthAll], ?_, ?_⟩
  · have := depth_pairs ps
    simp [SeqAt.shaped, PyData.canLay0, PyData.depth, lay_pairs]
    omega
  · have e : ((ps.map fun z => PyData.tuple [.int z.1, .int z.2]).any fun y => PyData.eqv y (.tuple [.int z.1, .int z.2])) = decide (z ∈ ps) := by
      rw [List.any_map]
      by_cases hm : z ∈ ps
      · rw [decide_eq_true hm]
        exact List.any_eq_true.mpr ⟨z, hm, by simp [PyData.eqv, PyData.eqvAll]⟩
      · rw [decide_eq_false hm]
        apply Bool.eq_false_iff.mpr
        intro h
        obtain ⟨y, hy, e⟩ := List.any_eq_true.mp h
        have : y = z := by
          have e' : y.1 = z.1 ∧ y.2 = z.2 := by simpa [PyData.eqv, PyData.eqvAll] using e
          exact Prod.ext e'.1 e'.2
        exact hm (this ▸ hy)
    rw [e]
    exact h
theorem ints_at {l : List Int} {i : Nat} {a : Int} (h : l[i]? = some a) : atI (l.map D.int) (i : Int) = some (.int a) := by
  have hi : i < l.length := (List.getElem?_eq_some_iff.mp h).1
  unfold atI
  rw [List.length_map, ix_nat hi]
  show (l.map D.int)[i]? = _
  rw [List.getElem?_map, h]
  rfl
end L3
namespace L3
open PySem PySem.Spec PyProof.Rows L2
theorem forC_run {G : GV} {T : SV} {De : En} {ok : Store → Prop} (I : List D → Slots → Store → Prop)
    (step : ∀ d ds Γ C, I (d :: ds) Γ C → ∀ R : Slots → Store → Prop, (∀ Γ' C', ok C' → I ds Γ' C' → R Γ' C') → G d Γ C fun Γ1 C1 => T { De with nx := R, ct := R, bk := De.nx } Γ1 C1)
    (stop : ∀ Γ C, I [] Γ C → De.nx Γ C) : ∀ ds Γ C, I ds Γ C → forC G T De ok ds Γ C
  | [], Γ, C, h => stop Γ C h
  | d :: ds, Γ, C, h => step d ds Γ C h _ fun Γ' C' o h' => ⟨o, forC_run I step stop ds Γ' C' h'⟩
theorem set_last {α : Type} (l : List α) (x y : α) : (l ++ [x]).set l.length y = l ++ [y] := by
  rw [List.set_append_right _ _ (Nat.le_refl _), Nat.sub_self]
  rfl
theorem get_last {α : Type} (l : List α) (x : α) : (l ++ [x])[l.length]? = some x := by simp
theorem lst_last (C : Store) (xs : List D) : lstOf (C ++ [.lst xs]) (.ptr C.length) = some xs := by simp only [lstOf, get_last]
def rD (l : List Int) : D := .lst false (l.map .int)
theorem np_rD (ls : List (List Int)) : noptrs (ls.map rD) = true := noptrs_map _ fun p _ => by simp [rD, noptr, noptrs_ints]
def sws (st : Str) : Nat → List Int → Int
  | _, [] => 0
  | c, p :: l => neq c (sg st p.toNat) + sws st (sg st p.toNat) l
def lastS (st : Str) : Nat → List Int → Nat
  | c, [] => c
  | _, p :: l => lastS st (sg st p.toNat) l
theorem sws_app {st : Str} : ∀ (l m : List Int) (c : Nat), sws st c (l ++ m) = sws st c l + sws st (lastS st c l) m
  | [], m, c => by simp [sws, lastS]
  | p :: l, m, c => by
    rw [List.cons_append, sws, sws, lastS, sws_app l m]
    omega
theorem lastS_snoc {st : Str} : ∀ (l : List Int) (c : Nat) (p : Int), lastS st c (l ++ [p]) = sg st p.toNat
  | [], c, p => rfl
  | q :: l, c, p => by rw [List.cons_append, lastS, lastS_snoc l]
theorem neq_tri (a b c : Nat) : neq a c ≤ neq a b + neq b c := by
  unfold neq
  by_cases h1 : a = b
  · by_cases h2 : b = c
    · simp [h1, h2]
    · simp [h1, h2]
  · by_cases h2 : b = c
    · simp [h1, h2]
    · simp [h1, h2]
      split <;> decide
theorem sws_tri {st : Str} {p : Int} : ∀ (m : List Int) (c : Nat), neq c (sg st p.toNat) ≤ sws st c (m ++ [p])
  | [], c => by simp [sws]
  | q :: m, c => by
    have h := sws_tri (st := st) (p := p) m (sg st q.toNat)
    have h2 := neq_tri c (sg st q.toNat) (sg st p.toNat)
    rw [List.cons_append, sws]
    omega
theorem sws_nn {st : Str} : ∀ (m : List Int) (c : Nat), 0 ≤ sws st c m ∧ sws st c m ≤ m.length
  | [], c => by simp [sws]
  | q :: m, c => by
    have h := sws_nn (st := st) m (sg st q.toNat)
    have h2 := neq01 c (sg st q.toNat)
    rw [sws, List.length_cons]
    omega
def okB (rs : List (Int × Int)) (line : List Int) (one : Int) : Bool := !decide (one ∈ line) && decide (((rs.filter fun z => decide (z.2 = one) && !decide (z.1 ∈ line)).map (·.1)) = [])
theorem okB_iff {rs : List (Int × Int)} {line : List Int} {one : Int} : okB rs line one = true ↔ one ∉ line ∧ ∀ z, z ∈ rs → z.2 = one → z.1 ∈ line := by
  unfold okB
  simp only [Bool.and_eq_true, Bool.not_eq_true', decide_eq_false_iff_not, decide_eq_true_eq, List.map_eq_nil_iff, List.filter_eq_nil_iff, not_and, Decidable.not_not]
def stepR (n : Nat) (rs : List (Int × Int)) (line : List Int) : List (List Int) := ((upto n).filter (okB rs line)).map fun one => line ++ [one]
def rowsK (n : Nat) (rs : List (Int × Int)) : Nat → List (List Int)
  | 0 => [[]]
  | k + 1 => (rowsK n rs k).flatMap (stepR n rs)
theorem rowsK_succ {n k : Nat} {rs : List (Int × Int)} {l : List Int} : l ∈ rowsK n rs (k + 1) ↔ ∃ l0 p, l0 ∈ rowsK n rs k ∧ l = l0 ++ [p] ∧ p ∈ upto n ∧ okB rs l0 p = true := by
  rw [rowsK, List.mem_flatMap]
  constructor
  · rintro ⟨l0, h0, h1⟩
    obtain ⟨p, h2, rfl⟩ := List.mem_map.mp h1
    obtain ⟨h3, h4⟩ := List.mem_filter.mp h2
    exact ⟨l0, p, h0, rfl, h3, h4⟩
  · rintro ⟨l0, p, h0, rfl, h3, h4⟩
    exact ⟨l0, h0, List.mem_map.mpr ⟨p, List.mem_filter.mpr ⟨h3, h4⟩, rfl⟩⟩
theorem upto_mem {n : Nat} {x : Int} : x ∈ upto n ↔ 0 ≤ x ∧ x < n := by
  unfold upto
  rw [List.mem_map]
  constructor
  · rintro ⟨i, hi, rfl⟩
    have : i < n := by simpa using hi
    omega
  · rintro ⟨h0, h1⟩
    obtain ⟨i, rfl⟩ := Int.eq_ofNat_of_zero_le h0
    exact ⟨i, by simp; omega, rfl⟩
theorem rowsK_len {n : Nat} {rs : List (Int × Int)} : ∀ (k : Nat) (l : List Int), l ∈ rowsK n rs k → l.length = k
  | 0, l, h => by simp [rowsK] at h; simp [h]
  | k + 1, l, h => by
    obtain ⟨l0, p, h0, rfl, _, _⟩ := rowsK_succ.mp h
    simp [rowsK_len k l0 h0]
theorem rowsK_inn {n : Nat} {rs : List (Int × Int)} : ∀ (k : Nat) (l : List Int), l ∈ rowsK n rs k → ∀ x, x ∈ l → 0 ≤ x ∧ x < n
  | 0, l, h, x, hx => by simp [rowsK] at h; rw [h] at hx; simp at hx
  | k + 1, l, h, x, hx => by
    obtain ⟨l0, p, h0, rfl, hp, _⟩ := rowsK_succ.mp h
    rcases List.mem_append.mp hx with hx | hx
    · exact rowsK_inn k l0 h0 x hx
    · simp at hx
      subst hx
      exact upto_mem.mp hp
theorem rowsK_nodup {n : Nat} {rs : List (Int × Int)} : ∀ (k : Nat) (l : List Int), l ∈ rowsK n rs k → l.Nodup
  | 0, l, h => by simp [rowsK] at h; rw [h]; exact List.nodup_nil
  | k + 1, l, h => by
    obtain ⟨l0, p, h0, rfl, hp, hk⟩ := rowsK_succ.mp h
    have := (okB_iff.mp hk).1
    refine List.nodup_append.mpr ⟨rowsK_nodup k l0 h0, by simp, fun a ha b hb e => ?_⟩
    simp at hb
    subst hb e
    exact this ha
theorem rowsK_pre {n : Nat} {rs : List (Int × Int)} : ∀ (k : Nat) (l : List Int), l ∈ rowsK n rs k → ∀ pre p post, l = pre ++ p :: post → ∀ z, z ∈ rs → z.2 = p → z.1 ∈ pre
  | 0, l, h, pre, p, post, e, z, hz, e2 => by simp [rowsK] at h; rw [h] at e; simp at e
  | k + 1, l, h, pre, p, post, e, z, hz, e2 => by
    obtain ⟨l0, q, h0, rfl, hp, hk⟩ := rowsK_succ.mp h
    by_cases hpo : post = []
    · subst hpo
      have := List.append_inj' e rfl
      obtain ⟨e3, e4⟩ := this
      simp at e4
      subst e3 e4
      exact (okB_iff.mp hk).2 z hz e2
    · obtain ⟨po, y, rfl⟩ := List.eq_nil_or_concat post |>.resolve_left hpo
      rw [List.concat_eq_append] at e
      have e5 : l0 ++ [q] = (pre ++ p :: po) ++ [y] := by rw [e]; simp
      obtain ⟨e3, _⟩ := List.append_inj' e5 rfl
      exact rowsK_pre k l0 h0 pre p po e3 z hz e2
theorem nodup_sub_len {α : Type} [DecidableEq α] : ∀ (a b : List α), a.Nodup → (∀ x, x ∈ a → x ∈ b) → a.length ≤ b.length
  | [], b, _, _ => Nat.zero_le _
  | x :: a, b, hn, hs => by
    obtain ⟨h1, h2⟩ := List.nodup_cons.mp hn
    have hx := hs x (List.mem_cons_self ..)
    have ih := nodup_sub_len a (b.erase x) h2 fun y hy => (List.mem_erase_of_ne (fun e => h1 (by rw [← e]; exact hy))).mpr (hs y (List.mem_cons_of_mem _ hy))
    rw [List.length_erase_of_mem hx] at ih
    have := List.length_pos_of_mem hx
    rw [List.length_cons]
    omega
theorem sws_low {f st : Str} {rs : List (Int × Int)} (hp : Pil f st rs) {v : Nat → Int} (V : PFix f st rs v) {l : List Int} (inn : ∀ x, x ∈ l → 0 ≤ x ∧ x < st.length) (pre : ∀ pr p post, l = pr ++ p :: post → ∀ z, z ∈ rs → z.2 = p → z.1 ∈ pr) :
    ∀ (k : Nat) (pr : List Int) (p : Int) (post : List Int), pr.length < k → l = pr ++ p :: post → v p.toNat ≤ sws st (f0 f) (pr ++ [p])
  | 0, _, _, _, h, _ => by omega
  | k + 1, pr, p, post, hk, e => by
    obtain ⟨p0, p1⟩ := inn p (by rw [e]; simp)
    rcases V.by_ p.toNat (by omega) with e1 | ⟨z, hz, e1, e2⟩
    · rw [e1]
      show neq (sg st p.toNat) (f0 f) ≤ _
      rw [neq_comm]
      exact sws_tri pr (f0 f)
    · have hzp : z.2 = p := by rw [e1]; omega
      have hm := pre pr p post e z hz hzp
      obtain ⟨a, b, hab⟩ := List.append_of_mem hm
      have ih := sws_low hp V inn pre k a z.1 (b ++ p :: post) (by rw [hab] at hk; simp at hk; omega) (by rw [e, hab]; simp)
      have e3 : pr ++ [p] = (a ++ [z.1]) ++ (b ++ [p]) := by rw [hab]; simp
      rw [e2, e3, sws_app, lastS_snoc]
      have h4 := sws_tri (st := st) (p := p) b (sg st z.1.toNat)
      show v z.1.toNat + neq (sg st z.1.toNat) (sg st p.toNat) ≤ _
      omega
theorem row_low {f st : Str} {rs : List (Int × Int)} (hp : Pil f st rs) {v : Nat → Int} {m : Int} (V : PFix f st rs v) (M : IsMax st.length v m) {l : List Int} (h : l ∈ rowsK st.length rs st.length) : m ≤ sws st (f0 f) l := by
  obtain ⟨⟨j, hj, ej⟩, _⟩ := M
  have inn := rowsK_inn _ _ h
  have hl := rowsK_len _ _ h
  have hnd := rowsK_nodup _ _ h
  have all : (j : Int) ∈ l := by
    refine Decidable.byContradiction fun hn => ?_
    have h1 := nodup_sub_len ((j : Int) :: l) (upto st.length) (List.nodup_cons.mpr ⟨hn, hnd⟩) fun x hx => by
      rcases List.mem_cons.mp hx with rfl | hx
      · exact upto_mem.mpr ⟨by omega, by omega⟩
      · exact upto_mem.mpr (inn x hx)
    have h2 : (upto st.length).length = st.length := by simp [upto]
    rw [List.length_cons] at h1
    omega
  obtain ⟨a, b, hab⟩ := List.append_of_mem all
  have h1 := sws_low hp V inn (rowsK_pre _ _ h) (a.length + 1) a (j : Int) b (by omega) hab
  have e : l = (a ++ [(j : Int)]) ++ b := by rw [hab]; simp
  rw [e, sws_app]
  have h2 := (sws_nn (st := st) b (lastS st (f0 f) (a ++ [(j : Int)]))).1
  simp only [Int.toNat_natCast] at h1
  omega
theorem Pil.sg2 {f st : Str} {rs : List (Int × Int)} (hp : Pil f st rs) {j : Nat} (hj : j < st.length) : sg st j = 82 ∨ sg st j = 66 := by
  have hl : st.cps.toList.length = st.length := by rw [Array.length_toList]; rfl
  unfold sg
  rw [List.getD_eq_getElem?_getD, List.getElem?_eq_getElem (by omega)]
  exact hp.sts _ (List.getElem_mem ..)
theorem Pil.f2 {f st : Str} {rs : List (Int × Int)} (hp : Pil f st rs) : f0 f = 82 ∨ f0 f = 66 := by
  rcases hp.fst with rfl | rfl
  · exact .inl rfl
  · exact .inr rfl
theorem neq_par {a b c : Nat} (ha : a = 82 ∨ a = 66) (hb : b = 82 ∨ b = 66) (hc : c = 82 ∨ c = 66) : (neq a c + neq a b) % 2 = neq b c := by
  rcases ha with rfl | rfl <;> rcases hb with rfl | rfl <;> rcases hc with rfl | rfl <;> decide
theorem fix_par {f st : Str} {rs : List (Int × Int)} (hp : Pil f st rs) {v : Nat → Int} (V : PFix f st rs v) : ∀ j, j < st.length → v j % 2 = neq (sg st j) (f0 f) := by
  obtain ⟨rk, hrk⟩ := hp.acy
  have all : ∀ m : Nat, ∀ j : Nat, j < st.length → rk j < m → v j % 2 = neq (sg st j) (f0 f) := by
    intro m
    induction m with
    | zero => intro j _ h; omega
    | succ m ih =>
      intro j hj hm
      rcases V.by_ j hj with e | ⟨z, hz, e1, e2⟩
      · rw [e]
        show neq (sg st j) (f0 f) % 2 = _
        have := neq01 (sg st j) (f0 f)
        omega
      · obtain ⟨h0, h1⟩ := hp.r2 z hz
        obtain ⟨i, hi⟩ := Int.eq_ofNat_of_zero_le h0
        have h2 := hrk z hz
        rw [e1, hi] at h2
        have h3 := ih i (by omega) (by omega)
        rw [hi] at e2
        simp only [Int.toNat_natCast] at e2
        have h5 : v j = v i + neq (sg st i) (sg st j) := e2
        have h4 := neq_par (hp.sg2 (show i < st.length by omega)) (hp.sg2 hj) hp.f2
        rw [h5]
        omega
  exact fun j hj => all (rk j + 1) j hj (by omega)
theorem ex_least {α : Type} (r : α → α → Prop) (tot : ∀ a b, r a b ∨ r b a) (tr : ∀ a b c, r a b → r b c → r a c) : ∀ l : List α, l ≠ [] → ∃ a, a ∈ l ∧ ∀ b, b ∈ l → r a b
  | [], h => absurd rfl h
  | [a], _ => ⟨a, by simp, fun b hb => by simp at hb; subst hb; exact (tot b b).elim id id⟩
  | a :: b :: l, _ => by
    obtain ⟨c, hc, hm⟩ := ex_least r tot tr (b :: l) (by simp)
    rcases tot a c with h | h
    · refine ⟨a, by simp, fun d hd => ?_⟩
      rcases List.mem_cons.mp hd with rfl | hd
      · exact (tot d d).elim id id
      · exact tr _ _ _ h (hm d hd)
    · refine ⟨c, List.mem_cons_of_mem _ hc, fun d hd => ?_⟩
      rcases List.mem_cons.mp hd with rfl | hd
      · exact h
      · exact hm d hd
theorem row_up {f st : Str} {rs : List (Int × Int)} (hp : Pil f st rs) {v : Nat → Int} {m : Int} (V : PFix f st rs v) (M : IsMax st.length v m) : ∃ l, l ∈ rowsK st.length rs st.length ∧ sws st (f0 f) l ≤ m := by
  obtain ⟨rk, hrk⟩ := hp.acy
  have par := fix_par hp V
  have nn : ∀ j, j < st.length → 0 ≤ v j := fun j hj => by
    have h1 := V.low j hj
    have h2 : bsOf f st j = neq (sg st j) (f0 f) := rfl
    have := neq01 (sg st j) (f0 f)
    omega
  have m0 : 0 ≤ m := by
    have := M.2 0 hp.pos
    have := nn 0 hp.pos
    omega
  have key : ∀ k, k ≤ st.length → ∃ (l : List Int) (t : Int), l ∈ rowsK st.length rs k ∧ sws st (f0 f) l ≤ t ∧ 0 ≤ t ∧ t ≤ m ∧ t % 2 = neq (lastS st (f0 f) l) (f0 f) ∧ (lastS st (f0 f) l = 82 ∨ lastS st (f0 f) l = 66) ∧ ∀ j : Nat, j < st.length → (j : Int) ∉ l → t ≤ v j := by
    intro k
    induction k with
    | zero => exact fun _ => ⟨[], 0, by simp [rowsK], by simp [sws], by decide, m0, by simp [lastS, neq], hp.f2, fun j hj _ => nn j hj⟩
    | succ k ih =>
      intro hk
      obtain ⟨l, t, hl, hs, ht0, htm, htp, hl2, hmin⟩ := ih (by omega)
      have hlen := rowsK_len _ _ hl
      have hne : (upto st.length).filter (fun x => !decide (x ∈ l)) ≠ [] := by
        intro e
        have all : ∀ x, x ∈ upto st.length → x ∈ l := fun x hx => by
          have := List.filter_eq_nil_iff.mp e x hx
          simpa using this
        have h1 : (upto st.length).Nodup := List.pairwise_map.mpr (List.Pairwise.imp (fun h e => h (Int.ofNat.inj e)) (List.nodup_range (n := st.length)))
        have h2 := nodup_sub_len _ _ h1 all
        have h3 : (upto st.length).length = st.length := by simp [upto]
        omega
      obtain ⟨p, hpm, hpl⟩ := ex_least (fun a b : Int => v a.toNat < v b.toNat ∨ (v a.toNat = v b.toNat ∧ rk a ≤ rk b)) (fun a b => by omega) (fun a b c h1 h2 => by omega) _ hne
      obtain ⟨hpu, hpn⟩ := List.mem_filter.mp hpm
      have hpn' : p ∉ l := by simpa using hpn
      obtain ⟨p0, p1⟩ := upto_mem.mp hpu
      obtain ⟨i, rfl⟩ := Int.eq_ofNat_of_zero_le p0
      have hi : i < st.length := by omega
      have hti := hmin i hi hpn'
      have hok : okB rs l (i : Int) = true := okB_iff.mpr ⟨hpn', fun z hz e => by
        refine Decidable.byContradiction fun hzl => ?_
        obtain ⟨z0, z1⟩ := hp.r2 z hz
        have h1 := hpl z.1 (List.mem_filter.mpr ⟨upto_mem.mpr ⟨z0, z1⟩, by simpa using hzl⟩)
        have h2 := V.up z hz
        have h3 := hrk z hz
        rw [e] at h2 h3
        have h4 := neq01 (sg st z.1.toNat) (sg st (i : Int).toNat)
        have h5 : chOf st z.1.toNat (i : Int).toNat = neq (sg st z.1.toNat) (sg st (i : Int).toNat) := rfl
        omega⟩
      refine ⟨l ++ [(i : Int)], v i, rowsK_succ.mpr ⟨l, _, hl, rfl, hpu, hok⟩, ?_, nn i hi, M.2 i hi, ?_, ?_, fun j hj hjn => ?_⟩
      · rw [sws_app]
        have e : sws st (lastS st (f0 f) l) [(i : Int)] = neq (lastS st (f0 f) l) (sg st i) := by simp [sws]
        rw [e]
        have h1 := par i hi
        by_cases hv : v i = t
        · have : neq (lastS st (f0 f) l) (sg st i) = 0 := by
            rw [hv, htp] at h1
            rcases hl2 with e1 | e1 <;> rcases hp.sg2 hi with e2 | e2 <;> rcases hp.f2 with e3 | e3 <;> rw [e1, e2, e3] at h1 <;> rw [e1, e2] <;> revert h1 <;> decide
          omega
        · have := neq01 (lastS st (f0 f) l) (sg st i)
          omega
      · rw [lastS_snoc]
        exact par i hi
      · rw [lastS_snoc]
        exact hp.sg2 hi
      · have hjl : (j : Int) ∉ l := fun h => hjn (List.mem_append.mpr (.inl h))
        have := hpl (j : Int) (List.mem_filter.mpr ⟨upto_mem.mpr ⟨by omega, by omega⟩, by simpa using hjl⟩)
        simp only [Int.toNat_natCast] at this
        omega
  obtain ⟨l, t, hl, hs, _, htm, _⟩ := key st.length (Nat.le_refl _)
  exact ⟨l, hl, by omega⟩
end L3
namespace L3
open PySem PySem.Spec PyProof.Rows L2
def pilC (k : Nat) (f st : Str) : D := .tup [.str f, .str st, .ptr k]
theorem views_pilC {C : Store} {k : Nat} {f st : Str} {rs : List (Int × Int)} {ds : List D} (hk : C[k]? = some (.lst (rs.map pD))) : views [] C (pilC k f st :: ds) = pil true f st rs :: views [] C ds := by
  unfold views pilC
  simp only [mapWs, mapW, viewG, posOf, hk, mapWs_flat (flat_pairs rs)]
  rfl
def callTK (n : Nat) (kf : List D → List Nat) (P : PV) (ds : List D) (C1 : Store) (Q : D → Store → Prop) : Prop := (kf ds).length = n ∧ (kf ds).Nodup ∧ (∀ k, k ∈ kf ds → ∃ c, C1[k]? = some c ∧ c ≠ Cell.dead) ∧
  P (views (kf ds) C1 ds) (viewC (kf ds) C1) fun d Cc => ∃ x y xs, d = .tup [x, y, .lst false xs] ∧ flatDs [x, y] = true ∧ flatDs xs = true ∧ (∀ c, c ∈ Cc → c.okC (fun o => !o) = true) ∧
    (∀ (i : Nat) c, (putS (kf ds) (Cc.map (backs (kf ds))) C1)[i]? = some c → flatC c = true) ∧ Q (.tup [x, y, .ptr C1.length]) (putS (kf ds) (Cc.map (backs (kf ds))) C1 ++ [.lst xs])
theorem e_eCallT {n : Nat} {kf : List D → List Nat} {P : PV} {L : AV} {Γ : Slots} {C : Store} {Q : D → Store → Prop} : eCallT n kf P L Γ C Q = L Γ C fun ds C1 => callTK n kf P ds C1 Q := rfl
def Flat (C : Store) : Prop := ∀ (i : Nat) c, C[i]? = some c → flatC c = true
theorem Flat.set {C : Store} {k : Nat} {x : Cell} (h : Flat C) (hx : flatC x = true) : Flat (C.set k x) := fun i c e => by
  by_cases hk : k = i
  · subst hk
    have hl : k < C.length := by
      have := (List.getElem?_eq_some_iff.mp e).1
      simpa using this
    rw [List.getElem?_set_self hl] at e
    cases e
    exact hx
  · rw [List.getElem?_set_ne hk] at e
    exact h i c e
theorem Flat.snoc {C : Store} {x : Cell} (h : Flat C) (hx : flatC x = true) : Flat (C ++ [x]) := fun i c e => by
  by_cases hi : i < C.length
  · rw [List.getElem?_append_left hi] at e
    exact h i c e
  · have : i = C.length := by
      have := (List.getElem?_eq_some_iff.mp e).1
      simp at this
      omega
    subst this
    rw [get_last] at e
    cases e
    exact hx
theorem Flat.nil : Flat [] := fun i c e => by simp at e
theorem Jar.flat {c : Int} {x : Cell} (h : Jar c x) : flatC x = true := by
  obtain ⟨a, b, k, rfl, _⟩ := h
  rfl
theorem flat_rs (rs : List (Int × Int)) : flatC (.lst (rs.map pD)) = true := flat_pairs rs
theorem callJT {P : PV} {k : Nat} {es es' : List D} {C1 : Store} {c : Int} {x : Cell} {Q : D → Store → Prop} (hk : C1[k]? = some x) (hx : Jar c x) (fl : Flat C1) (he : mapWs (fun _ => true) (viewG [k] C1 2) es = es')
    (h : P (.ptr 0 :: es') [x] fun d Cc => ∃ y c' a b xs, Cc = [y] ∧ Jar c' y ∧ d = .tup [a, b, .lst false xs] ∧ flatDs [a, b] = true ∧ flatDs xs = true ∧ Q (.tup [a, b, .ptr C1.length]) (C1.set k y ++ [.lst xs])) (mono : ∀ (R R' : D → Store → Prop), (∀ d Cc, R d Cc → R' d Cc) → P (.ptr 0 :: es') [x] R → P (.ptr 0 :: es') [x] R') : callTK 1 kf1 P (.ptr k :: es) C1 Q := by
  have e1 : kf1 (.ptr k :: es) = [k] := rfl
  unfold callTK
  rw [e1]
  refine ⟨rfl, List.nodup_cons.mpr ⟨by simp, List.nodup_nil⟩, fun k' hk' => ⟨x, ?_, hx.alive⟩, ?_⟩
  · simp at hk'; subst hk'; exact hk
  · have e2 : views [k] C1 (.ptr k :: es) = .ptr 0 :: es' := by
      unfold views
      rw [mapWs, he]
      simp [mapW, viewG, posOf]
    have e3 : viewC [k] C1 = [x] := by
      unfold viewC
      simp only [List.map_cons, List.map_nil, hk, Option.getD_some]
      rw [hx.view]
    rw [e2, e3]
    refine mono _ _ (fun d Cc hd => ?_) h
    obtain ⟨y, c', a, b, xs, rfl, hy, rfl, f1, f2, hq⟩ := hd
    have e4 : putS [k] ([y].map (backs [k])) C1 = C1.set k y := by
      show C1.set k (y.mapC id (backG [k])) = _
      rw [hy.view]
    rw [e4]
    refine ⟨a, b, xs, rfl, f1, f2, fun c hc => ?_, fl.set hy.flat, hq⟩
    simp at hc; subst hc; exact hy.ok
theorem set_get {C : Store} {k : Nat} {x y : Cell} (hk : C[k]? = some x) : (C.set k y)[k]? = some y := by
  rw [List.getElem?_set_self]
  exact (List.getElem?_eq_some_iff.mp hk).1
theorem app_get {C : Store} {k : Nat} {x y : Cell} (hk : C[k]? = some x) : (C ++ [y])[k]? = some x := by
  rw [List.getElem?_append_left (List.getElem?_eq_some_iff.mp hk).1, hk]
theorem set_other {C : Store} {k j : Nat} {y : Cell} (h : k ≠ j) : (C.set k y)[j]? = C[j]? := List.getElem?_set_ne h
theorem Pil.out {f st : Str} {rs : List (Int × Int)} (h : Pil f st rs) (j : Nat) : Pil f st (rs.eraseIdx j) := by
  have hs : (rs.eraseIdx j).Sublist rs := List.eraseIdx_sublist ..
  obtain ⟨rk, hrk⟩ := h.acy
  refine ⟨h.fst, h.pos, h.top, h.sts, ⟨Nat.le_trans hs.length_le h.rul.few, fun z hz => h.rul.inn z (hs.subset hz), h.rul.srt.sublist hs⟩, rk, fun z hz => hrk z (hs.subset hz)⟩
end L3
namespace L3
open PySem PySem.Spec PyProof.Rows L2
def T_earliest (P_need_pile P_earliest_of : PV) : SV :=
  (sSeq (sDrop (eCall P_need_pile (aCons (eVar 0) aNil)))
  (sRet (eCall P_earliest_of (aCons (eVar 0) aNil))))
abbrev N_earliest : List Str := ["pile"]
def T_need_most (P_is_between P_earliest_of : PV) : SV :=
  (sSeq (sIf (bNot (bB (eCall P_is_between (aCons (eVar 1) (aCons (eC (.int 0)) (aCons (eC (.int 1000000000000000000000000000000)) aNil)))))) sNever sNext)
  (sSeq (sAsg (eCB oMaxL (aCons (eCall P_earliest_of (aCons (eVar 0) aNil)) aNil)) (gvName 2))
  (sIf (bB (eBin oLt (eVar 1) (eVar 2))) sNever sNext)))
abbrev N_need_most : List Str := ["pile", "most", "least"]
def T_to_come (P_in_order P_change : PV) : SV :=
  (sSeq (sAsg (eCell (fBin nRep (eFrz (fLst (aCons (eC (.int 0)) aNil))) (eCB oLenA (aCons (eBin oIxT (eVar 0) (eC (.int 1))) aNil)))) (gvName 1))
  (sSeq (sFor (iLst (eFrz (fRev (eCall P_in_order (aCons (eVar 0) aNil))))) (gvName 2) (sFor (iLst (eBin oIxT (eVar 0) (eC (.int 2)))) (gvTup 2 (gvCons (gvName 3) (gvCons (gvName 4) gvNil))) (sIf (bB (eBin (oEq false) (eVar 3) (eVar 2))) (sAsg (eCB oMax2 (aCons (eBin oIxL (eVar 1) (eVar 3)) (aCons (eBin oAdd (eBin oIxL (eVar 1) (eVar 4)) (eCall P_change (aCons (eVar 0) (aCons (eVar 3) (aCons (eVar 4) aNil))))) aNil))) (gvSubL (eVar 1) (eVar 3))) sNext)))
  (sRet (eVar 1))))
abbrev N_to_come : List Str := ["pile", "found", "paper", "one", "other"]
def T_latest_of (P_to_come P_earliest_of : PV) : SV :=
  (sSeq (sAsg (eCell (fLst aNil)) (gvName 2))
  (sSeq (sFor (iZipD (aCons (eCall P_earliest_of (aCons (eVar 0) aNil)) (aCons (eCall P_to_come (aCons (eVar 0) aNil)) aNil))) (gvTup 2 (gvCons (gvName 3) (gvCons (gvName 4) gvNil))) (sDrop (eMl mAppend (eVar 2) (aCons (eBin oSub (eBin oSub (eVar 1) (eVar 4)) (eBin oMod (eBin oSub (eBin oSub (eVar 1) (eVar 4)) (eVar 3)) (eC (.int 2)))) aNil))))
  (sRet (eVar 2))))
abbrev N_latest_of : List Str := ["pile", "most", "found", "block", "later"]
def T_latest (P_need_pile P_need_most P_latest_of : PV) : SV :=
  (sSeq (sDrop (eCall P_need_pile (aCons (eVar 0) aNil)))
  (sSeq (sDrop (eCall P_need_most (aCons (eVar 0) (aCons (eVar 1) aNil))))
  (sRet (eCall P_latest_of (aCons (eVar 0) (aCons (eVar 1) aNil))))))
abbrev N_latest : List Str := ["pile", "most"]
end L3
namespace L3
open PySem PySem.Spec PyProof.Rows L2
end L3
namespace L3
open PySem PySem.Spec PyProof.Rows L2
def rv (rs : List (Int × Int)) : List (Int × Int) := rs.map fun z => (z.2, z.1)
theorem rv_mem {rs : List (Int × Int)} {z : Int × Int} : z ∈ rv rs ↔ (z.2, z.1) ∈ rs := by
  unfold rv
  rw [List.mem_map]
  constructor
  · rintro ⟨y, hy, rfl⟩; exact hy
  · exact fun h => ⟨_, h, rfl⟩
abbrev OFix (st : Str) (rs : List (Int × Int)) (u : Nat → Int) : Prop := Fix st.length (fun _ => 0) (chOf st) (rv rs) u
theorem rv_inn {n : Nat} {rs : List (Int × Int)} (hr : Rul n rs) : ∀ z, z ∈ rv rs → 0 ≤ z.1 ∧ z.1 < n ∧ 0 ≤ z.2 ∧ z.2 < n ∧ z.1 ≠ z.2 := fun z hz => by
  obtain ⟨a, b, c, d, e⟩ := hr.inn _ (rv_mem.mp hz)
  exact ⟨c, d, a, b, fun h => e h.symm⟩
theorem rv_acy {n : Nat} {rs : List (Int × Int)} (hr : Rul n rs) (hk : ∃ rk : Int → Nat, ∀ z, z ∈ rs → rk z.1 < rk z.2) : ∃ rk : Int → Nat, ∀ z, z ∈ rv rs → rk z.1 < rk z.2 := by
  obtain ⟨r, h1, h2⟩ := ranks hr.inn hk
  refine ⟨fun x => n - r x.toNat, fun z hz => ?_⟩
  have hz' := rv_mem.mp hz
  have h3 := h2 _ hz'
  simp only at h3
  obtain ⟨a, b, c, d, e⟩ := hr.inn _ hz'
  have h4 := h1 z.1.toNat (by omega)
  show n - r z.1.toNat < n - r z.2.toNat
  omega
theorem ch_comm (st : Str) (a b : Nat) : chOf st a b = chOf st b a := neq_comm _ _
theorem Pil.ofix {f st : Str} {rs : List (Int × Int)} (hp : Pil f st rs) : ∃ u, OFix st rs u := fix_ex _ _ (rv_inn hp.rul) (rv_acy hp.rul hp.acy)
theorem Pil.pfix {f st : Str} {rs : List (Int × Int)} (hp : Pil f st rs) : ∃ v, PFix f st rs v := fix_ex _ _ hp.rul.inn hp.acy
theorem Pil.oeq {f st : Str} {rs : List (Int × Int)} (hp : Pil f st rs) {u w : Nat → Int} (U : OFix st rs u) (W : OFix st rs w) : ∀ j, j < st.length → u j = w j := Fix.eq (fun z hz => ⟨(rv_inn hp.rul z hz).1, (rv_inn hp.rul z hz).2.1⟩) (rv_acy hp.rul hp.acy) U W
theorem Pil.peq {f st : Str} {rs : List (Int × Int)} (hp : Pil f st rs) {u w : Nat → Int} (U : PFix f st rs u) (W : PFix f st rs w) : ∀ j, j < st.length → u j = w j := Fix.eq hp.r2 hp.acy U W
theorem wL_congr {n : Nat} {u w : Nat → Int} (h : ∀ j, j < n → u j = w j) : wL n u = wL n w := by
  unfold wL
  apply List.map_congr_left
  intro j hj
  rw [h j (by simpa using hj)]
theorem ofix_up {st : Str} {rs : List (Int × Int)} {u : Nat → Int} (U : OFix st rs u) {z : Int × Int} (hz : z ∈ rs) : u z.2.toNat + chOf st z.1.toNat z.2.toNat ≤ u z.1.toNat := by
  have := U.up (z.2, z.1) (rv_mem.mpr hz)
  rw [ch_comm]
  exact this
theorem ofix_by {st : Str} {rs : List (Int × Int)} {u : Nat → Int} (U : OFix st rs u) {j : Nat} (hj : j < st.length) : u j = 0 ∨ ∃ z, z ∈ rs ∧ z.1 = (j : Int) ∧ u j = u z.2.toNat + chOf st j z.2.toNat := by
  rcases U.by_ j hj with e | ⟨z, hz, e1, e2⟩
  · exact .inl e
  · exact .inr ⟨(z.2, z.1), rv_mem.mp hz, e1, by rw [ch_comm]; exact e2⟩
theorem ofix_nn {st : Str} {rs : List (Int × Int)} {u : Nat → Int} (U : OFix st rs u) {j : Nat} (hj : j < st.length) : 0 ≤ u j := U.low j hj
theorem topo_rev {n : Nat} {rs : List (Int × Int)} {ord pre post : List Int} {p : Int} (hr : Rul n rs) (h1 : ord.Perm (upto n)) (h2 : Topo rs ord) (e : ord.reverse = pre ++ p :: post) {z : Int × Int} (hz : z ∈ rs) (ez : z.1 = p) : z.2 ∈ pre := by
  have nd : ord.Nodup := h1.nodup_iff.mpr (List.pairwise_map.mpr (List.Pairwise.imp (fun h e => h (Int.ofNat.inj e)) (List.nodup_range (n := n))))
  have eo : ord = post.reverse ++ p :: pre.reverse := by
    have := congrArg List.reverse e
    rw [List.reverse_reverse] at this
    rw [this]
    simp
  obtain ⟨a0, a1, b0, b1, hne⟩ := hr.inn z hz
  have hm : z.2 ∈ ord := h1.mem_iff.mpr (upto_mem.mpr ⟨b0, b1⟩)
  rw [eo] at hm
  rcases List.mem_append.mp hm with hm | hm
  · obtain ⟨a, b, hab⟩ := List.append_of_mem hm
    have e3 : ord = a ++ z.2 :: (b ++ p :: pre.reverse) := by rw [eo, hab]; simp
    have h4 := h2 a z.2 _ e3 z hz rfl
    rw [ez] at h4
    rw [e3] at nd
    have h5 := (List.nodup_append.mp nd).2.2 p h4 p (by simp)
    exact absurd rfl h5
  · rcases List.mem_cons.mp hm with hm | hm
    · exact absurd (ez.trans hm.symm) hne
    · simpa using hm
def P_to_come : PV := fun ds C Q => ∃ (o : Bool) (f st : Str) (rs : List (Int × Int)), ds = [pil o f st rs] ∧ Pil f st rs ∧ ∀ u, OFix st rs u → Q (.lst false (wL st.length u)) C
theorem max_set {n : Nat} {v : Nat → Int} {j : Nat} {x : Int} (hj : j < n) : (wL n v).set j (.int (max (v j) x)) = wL n (fun k => if k = j then max (v k) x else v k) := by
  rw [wL_set hj]
  congr 1
  funext k
  by_cases e : k = j
  · subst e; simp
  · rw [if_neg e, if_neg e]
theorem v_to_come (ds : List D) (C : Store) (Q3 : D → Store → Prop) (h : P_to_come ds C Q3) (hC : C.length = 0) : T_to_come P_in_order P_change (enF 0 Q3) (start3 N_to_come ds) C := by
  obtain ⟨o, f, st, rs, rfl, hp, q⟩ := h
  rw [List.length_eq_zero_iff] at hC
  subst hC
  have hz := sizeL
  have h24 := hp.top
  have hr := hp.rul
  obtain ⟨U, hU⟩ := hp.ofix
  refine ⟨by rw [hz]; show 1 ≤ 16777216; decide, _, rfl, _, _, _, rfl, rfl, rfl, by omega, _, (st.length : Nat), rfl, rfl, by omega, by omega, by simp; omega, rfl, ?_⟩
  rw [rep0]
  refine ⟨_, rfl, true, f, st, rs, views_pil1, hp, fun ord h1 h2 => ⟨np_ints, _, rfl, _, rfl, rfl, ?_⟩⟩
  rw [← List.map_reverse]
  refine ⟨noptrs_ints _, ?_⟩
  have mem : ∀ x, x ∈ ord → ∃ i : Nat, i < st.length ∧ x = (i : Int) := fun x hx => by
    obtain ⟨i, hi, rfl⟩ := List.mem_map.mp (h1.mem_iff.mp hx)
    exact ⟨i, by simpa using hi, rfl⟩
  have nd : ord.reverse.Nodup := by
    exact ((List.reverse_perm ord).trans h1).nodup_iff.mpr (List.pairwise_map.mpr (List.Pairwise.imp (fun h e => h (Int.ofNat.inj e)) (List.nodup_range (n := st.length))))
  refine forW_run (fun ds Γ C => ∃ (pre post : List Int) (v : Nat → Int), ord.reverse = pre ++ post ∧ ds = post.map .int ∧ C = [.lst (wL st.length v)] ∧ (∀ j : Nat, j < st.length → ((j : Int) ∈ pre → v j = U j) ∧ ((j : Int) ∉ pre → v j = 0)) ∧ ∃ a b c, Γ = [some (pil o f st rs), some (.ptr 0), a, b, c]) ?step ?stop _ _ _ ⟨[], ord.reverse, fun _ => 0, rfl, rfl, rfl, fun j hj => ⟨fun h => by simp at h, fun _ => rfl⟩, _, _, _, rfl⟩
  case step =>
    rintro d ds Γ C ⟨pre, post, v, e1, e2, rfl, hI, a, b, c, rfl⟩ R hR
    cases post with
    | nil => cases e2
    | cons p post =>
    simp only [List.map_cons, List.cons.injEq] at e2
    obtain ⟨rfl, rfl⟩ := e2
    obtain ⟨pn, hpn, rfl⟩ := mem p (by rw [← List.mem_reverse, e1]; simp)
    have hpp : (pn : Int) ∉ pre := fun h => by
      rw [e1] at nd
      exact (List.nodup_append.mp nd).2.2 _ h _ (by simp) rfl
    have hUp := hU.low pn hpn
    refine ⟨_, rfl, _, _, _, rfl, rfl, rfl, _, rfl, rfl, np_pairs rs, ?_⟩
    refine forW_run (fun ds Γ C => ∃ (dn rest : List (Int × Int)) (v : Nat → Int), rs = dn ++ rest ∧ ds = rest.map pD ∧ C = [.lst (wL st.length v)] ∧ (∀ j : Nat, j < st.length → ((j : Int) ∈ pre → v j = U j) ∧ ((j : Int) ∉ pre → j ≠ pn → v j = 0)) ∧ (0 ≤ v pn ∧ v pn ≤ U pn ∧ ∀ z, z ∈ dn → z.1 = (pn : Int) → U z.2.toNat + chOf st pn z.2.toNat ≤ v pn) ∧ ∃ b c, Γ = [some (pil o f st rs), some (.ptr 0), some (.int (pn : Int)), b, c]) ?step2 ?stop2 _ _ _ ⟨[], rs, v, rfl, rfl, rfl, fun j hj => ⟨(hI j hj).1, fun h _ => (hI j hj).2 h⟩, ⟨by rw [(hI pn hpn).2 hpp]; exact Int.le_refl _, by rw [(hI pn hpn).2 hpp]; exact hUp, fun z h => by simp at h⟩, _, _, rfl⟩
    case step2 =>
      rintro d ds Γ C ⟨dn, rest, v, e3, e4, rfl, I, ⟨J0, J1, J2⟩, b, c, rfl⟩ R2 hR2
      cases rest with
      | nil => cases e4
      | cons z rest =>
      simp only [List.map_cons, List.cons.injEq] at e4
      obtain ⟨rfl, rfl⟩ := e4
      have hzm : z ∈ rs := by rw [e3]; simp
      obtain ⟨a1, a2, a3, a4, a5⟩ := hr.inn z hzm
      obtain ⟨i, hi⟩ := Int.eq_ofNat_of_zero_le a1
      obtain ⟨j, hj⟩ := Int.eq_ofNat_of_zero_le a3
      have hi' : i < st.length := by omega
      have hj' : j < st.length := by omega
      have hUz := ofix_up hU hzm
      have htop : z.1 = (pn : Int) → z.2 ∈ pre := fun h => topo_rev hr h1 h2 e1 hzm h
      obtain ⟨zi, zj⟩ := z
      simp only at hi hj
      subst hi hj
      refine ⟨_, rfl, rfl, _, _, rfl, _, _, rfl, rfl, ?_⟩
      refine ⟨_, rfl, _, rfl, _, rfl, ?_⟩
      by_cases he : (i : Int) = (pn : Int)
      · have ei : i = pn := by omega
        subst ei
        refine goT (by simp) ?_
        have hvj : v j = U j := (I j hj').1 (htop rfl)
        refine ⟨_, rfl, _, rfl, _, _, _, rfl, rfl, wL_at hi', ?_⟩
        refine ⟨_, rfl, _, rfl, _, _, _, rfl, rfl, wL_at hj', ?_⟩
        refine ⟨_, rfl, _, rfl, _, rfl, true, f, st, rs, i, j, by rw [views_pil, views_int, views_int, views_nil], hp, hi', hj', rfl, ?_⟩
        refine ⟨_, _, rfl, rfl, _, _, rfl, ?_⟩
        refine ⟨_, rfl, _, rfl, 0, wL st.length v, _, i, rfl, rfl, rfl, by rw [wL_len]; exact ix_nat hi', ?_⟩
        show R2 _ [Cell.lst ((wL st.length v).set i (.int (max (v i) (v j + chOf st i j))))]
        rw [max_set hi']
        simp only [Int.toNat_natCast] at hUz
        refine hR2 _ _ ⟨dn ++ [((i : Int), (j : Int))], rest, _, by rw [e3]; simp, rfl, rfl, fun k hk => ⟨fun h => ?_, fun h hne => ?_⟩, ⟨?_, ?_, fun y hy ey => ?_⟩, _, _, rfl⟩
        · have : k ≠ i := fun e => by subst e; exact hpp h
          simp only [if_neg this]
          exact (I k hk).1 h
        · simp only [if_neg hne]
          exact (I k hk).2 h hne
        · simp only [if_true]; omega
        · simp only [if_true]; omega
        · simp only [if_true]
          rcases List.mem_append.mp hy with h | h
          · have := J2 y h ey
            omega
          · simp at h
            subst h
            simp only [Int.toNat_natCast]
            omega
      · refine goF (by simp; omega) ?_
        refine hR2 _ _ ⟨dn ++ [((i : Int), (j : Int))], rest, v, by rw [e3]; simp, rfl, rfl, I, ⟨J0, J1, fun y hy ey => ?_⟩, _, _, rfl⟩
        rcases List.mem_append.mp hy with h | h
        · exact J2 y h ey
        · simp at h
          subst h
          exact absurd ey he
    case stop2 =>
      rintro Γ C ⟨dn, rest, v, e3, e4, rfl, I, ⟨J0, J1, J2⟩, b, c, rfl⟩
      cases rest with
      | cons z rest => cases e4
      | nil =>
      rw [List.append_nil] at e3
      subst e3
      have evp : v pn = U pn := by
        rcases ofix_by hU hpn with e | ⟨z, hz, e1, e2⟩
        · omega
        · have := J2 z hz e1
          omega
      refine hR _ _ ⟨pre ++ [(pn : Int)], post, v, by rw [e1]; simp, rfl, rfl, fun j hj => ⟨fun h => ?_, fun h => ?_⟩, _, _, _, rfl⟩
      · rcases List.mem_append.mp h with h | h
        · exact (I j hj).1 h
        · simp at h
          have : j = pn := by omega
          rw [this]; exact evp
      · exact (I j hj).2 (fun z => h (List.mem_append.mpr (.inl z))) fun e => h (by rw [e]; simp)
  case stop =>
    rintro Γ C ⟨pre, post, v, e1, e2, rfl, hI, a, b, c, rfl⟩
    cases post with
    | cons p post => cases e2
    | nil =>
    rw [List.append_nil] at e1
    refine ⟨_, rfl, ?_⟩
    show Q3 (fin 0 _ (.ptr 0)) (finS 0 _)
    rw [fin_wL rfl, finS0]
    have : wL st.length v = wL st.length U := wL_congr fun j hj => (hI j hj).1 (by
      rw [← e1, List.mem_reverse]
      exact h1.mem_iff.mpr (upto_mem.mpr ⟨by omega, by omega⟩))
    rw [this]
    exact q U hU
def P_earliest : PV := fun ds C Q => ∃ (o : Bool) (f st : Str) (rs : List (Int × Int)), ds = [pil o f st rs] ∧ Pil f st rs ∧ ∀ v, PFix f st rs v → Q (.lst false (wL st.length v)) C
theorem v_earliest (ds : List D) (C : Store) (Q3 : D → Store → Prop) (h : P_earliest ds C Q3) (hC : C.length = 0) : T_earliest P_need_pile P_earliest_of (enF 0 Q3) (start3 N_earliest ds) C := by
  obtain ⟨o, f, st, rs, rfl, hp, q⟩ := h
  rw [List.length_eq_zero_iff] at hC
  subst hC
  refine ⟨_, rfl, true, f, st, rs, views_pil1, hp, rfl, ?_⟩
  refine ⟨_, rfl, true, f, st, rs, views_pil1, hp, fun v hv => ⟨np_wL, ?_⟩⟩
  show Q3 (fin 0 [] _) (finS 0 [])
  rw [finS0]
  rw [wL_ints, fin_ints, ← wL_ints]
  exact q v hv
def Most (f st : Str) (rs : List (Int × Int)) (m : Int) : Prop := m ≤ 10 ^ 30 ∧ ∀ v k, PFix f st rs v → IsMax st.length v k → k ≤ m
theorem Most.nn {f st : Str} {rs : List (Int × Int)} {m : Int} (hp : Pil f st rs) (h : Most f st rs m) : 0 ≤ m := by
  obtain ⟨v, V⟩ := hp.pfix
  obtain ⟨k, hk, hm⟩ := ex_least (fun a b : Int => b ≤ a) (fun a b => by omega) (fun a b c h1 h2 => by omega) ((List.range st.length).map v) (by
    have := hp.pos
    intro e
    have := congrArg List.length e
    simp at this
    omega)
  have M := max_of hk hm
  have h1 := h.2 v k V M
  have h2 := M.2 0 hp.pos
  have h3 := V.low 0 hp.pos
  have h4 : bsOf f st 0 = neq (sg st 0) (f0 f) := rfl
  have h5 := neq01 (sg st 0) (f0 f)
  omega
def P_need_most : PV := fun ds C Q => ∃ (o : Bool) (f st : Str) (rs : List (Int × Int)) (m : Int), ds = [pil o f st rs, .int m] ∧ Pil f st rs ∧ Most f st rs m ∧ Q .non C
theorem v_need_most (ds : List D) (C : Store) (Q3 : D → Store → Prop) (h : P_need_most ds C Q3) (hC : C.length = 0) : T_need_most P_is_between P_earliest_of (enF 0 Q3) (start3 N_need_most ds) C := by
  obtain ⟨o, f, st, rs, m, rfl, hp, hm, q⟩ := h
  rw [List.length_eq_zero_iff] at hC
  subst hC
  have h0 := hm.nn hp
  refine ⟨_, rfl, m, 0, 1000000000000000000000000000000, by rw [views_int, views_int, views_int, views_nil], rfl, _, rfl, ?_⟩
  refine goF ?_ ?_
  · have := hm.1
    rw [decide_eq_true ⟨h0, by omega⟩]
    rfl
  refine ⟨_, rfl, true, f, st, rs, views_pil1, hp, fun v hv => ⟨np_wL, _, _, rfl, wl_lst, wl_pos hp.pos, fun k h1 h2 => ?_⟩⟩
  have hk := hm.2 v k hv (max_of h1 h2)
  refine ⟨_, rfl, _, rfl, _, _, rfl, rfl, _, rfl, ?_⟩
  exact goF (decide_eq_false (by omega)) q
def late (m : Int) (v u : Nat → Int) (j : Nat) : Int := m - u j - (m - u j - v j) % 2
def P_latest_of : PV := fun ds C Q => ∃ (o : Bool) (f st : Str) (rs : List (Int × Int)) (m : Int), ds = [pil o f st rs, .int m] ∧ Pil f st rs ∧ ∀ v u, PFix f st rs v → OFix st rs u → Q (.lst false (wL st.length (late m v u))) C
theorem zip_wL : ∀ (l : List Nat) (v u : Nat → Int), zipD (l.map fun j => .int (v j)) (l.map fun j => .int (u j)) = l.map fun j => .tup [.int (v j), .int (u j)]
  | [], _, _ => rfl
  | a :: l, v, u => by simp only [List.map_cons, zipD, zip_wL l v u]
theorem v_latest_of (ds : List D) (C : Store) (Q3 : D → Store → Prop) (h : P_latest_of ds C Q3) (hC : C.length = 0) : T_latest_of P_to_come P_earliest_of (enF 0 Q3) (start3 N_latest_of ds) C := by
  obtain ⟨o, f, st, rs, m, rfl, hp, q⟩ := h
  rw [List.length_eq_zero_iff] at hC
  subst hC
  have hz := sizeL
  have h24 := hp.top
  refine ⟨Nat.zero_le _, ?_⟩
  refine ⟨_, rfl, true, f, st, rs, views_pil1, hp, fun v hv => ⟨np_wL, ?_⟩⟩
  refine ⟨_, rfl, true, f, st, rs, views_pil1, hp, fun u hu => ⟨np_wL, ?_⟩⟩
  have npw : ∀ w, noptrs (wL st.length w) = true := fun w => by rw [wL_ints]; exact noptrs_ints _
  refine ⟨_, _, _, _, rfl, rfl, rfl, by rw [npw, npw]; rfl, rfl, ?_⟩
  rw [show zipD (wL st.length v) (wL st.length u) = (List.range st.length).map fun j => .tup [.int (v j), .int (u j)] from zip_wL _ v u]
  refine ⟨noptrs_map _ fun _ _ => rfl, ?_⟩
  refine forW_run (fun ds Γ C => ∃ (dn rest : List Nat), List.range st.length = dn ++ rest ∧ ds = rest.map (fun j => .tup [.int (v j), .int (u j)]) ∧ C = [.lst (dn.map fun j => .int (late m v u j))] ∧ ∃ a b, Γ = [some (pil o f st rs), some (.int m), some (.ptr 0), a, b]) ?step ?stop _ _ _ ⟨[], _, rfl, rfl, rfl, _, _, rfl⟩
  case step =>
    rintro d ds Γ C ⟨dn, rest, e1, e2, rfl, a, b, rfl⟩ R hR
    cases rest with
    | nil => cases e2
    | cons j rest =>
    simp only [List.map_cons, List.cons.injEq] at e2
    obtain ⟨rfl, rfl⟩ := e2
    have hl : dn.length ≤ 24 := by
      have := congrArg List.length e1
      simp at this
      omega
    refine ⟨_, rfl, rfl, _, _, rfl, _, _, rfl, rfl, ?_⟩
    refine ⟨_, rfl, _, rfl, _, rfl, _, rfl, _, _, rfl, rfl, _, rfl, _, rfl, _, _, rfl, rfl, _, rfl, _, _, rfl, rfl, _, _, rfl, rfl, (show (0 : Int) < 2 by decide), _, _, rfl, rfl, 0, _, _, rfl, rfl, rfl, by rw [List.length_map]; omega, ?_⟩
    have := hR [some (pil o f st rs), some (.int m), some (.ptr 0), some (.int (v j)), some (.int (u j))] [.lst ((dn ++ [j]).map fun j => .int (late m v u j))] ⟨dn ++ [j], rest, by rw [e1]; simp, rfl, rfl, _, _, rfl⟩
    rw [List.map_append] at this
    exact this
  case stop =>
    rintro Γ C ⟨dn, rest, e1, e2, rfl, a, b, rfl⟩
    cases rest with
    | cons p rest => cases e2
    | nil =>
    rw [List.append_nil] at e1
    subst e1
    refine ⟨_, rfl, ?_⟩
    show Q3 (fin 0 [.lst (wL st.length (late m v u))] (.ptr 0)) (finS 0 _)
    rw [fin_wL rfl, finS0]
    exact q v u hv hu
def P_latest : PV := fun ds C Q => ∃ (o : Bool) (f st : Str) (rs : List (Int × Int)) (m : Int), ds = [pil o f st rs, .int m] ∧ Pil f st rs ∧ Most f st rs m ∧ ∀ v u, PFix f st rs v → OFix st rs u → Q (.lst false (wL st.length (late m v u))) C
theorem v_latest (ds : List D) (C : Store) (Q3 : D → Store → Prop) (h : P_latest ds C Q3) (hC : C.length = 0) : T_latest P_need_pile P_need_most P_latest_of (enF 0 Q3) (start3 N_latest ds) C := by
  obtain ⟨o, f, st, rs, m, rfl, hp, hm, q⟩ := h
  rw [List.length_eq_zero_iff] at hC
  subst hC
  refine ⟨_, rfl, true, f, st, rs, views_pil1, hp, rfl, ?_⟩
  refine ⟨_, rfl, _, rfl, true, f, st, rs, m, by rw [views_pil, views_int, views_nil], hp, hm, rfl, ?_⟩
  refine ⟨_, rfl, _, rfl, true, f, st, rs, m, by rw [views_pil, views_int, views_nil], hp, fun v u hv hu => ⟨np_wL, ?_⟩⟩
  show Q3 (fin 0 [] _) (finS 0 [])
  rw [finS0]
  rw [wL_ints, fin_ints, ← wL_ints]
  exact q v u hv hu
end L3
namespace L3
open PySem PySem.Spec PyProof.Rows L2
structure Plan (f st : Str) (rs : List (Int × Int)) (top : Int) (w : Nat → Int) : Prop where
  blk : ∀ j, j < st.length → bsOf f st j ≤ w j ∧ w j ≤ top ∧ (w j - bsOf f st j) % 2 = 0
  led : ∀ z, z ∈ rs → w z.1.toNat ≤ w z.2.toNat
theorem bs_par {f st : Str} {rs : List (Int × Int)} (hp : Pil f st rs) {i j : Nat} (hi : i < st.length) (hj : j < st.length) : (bsOf f st i + chOf st i j) % 2 = bsOf f st j % 2 ∧ (bsOf f st i = 0 ∨ bsOf f st i = 1) ∧ (chOf st i j = 0 ∨ chOf st i j = 1) := by
  have h1 := neq_par (hp.sg2 hi) (hp.sg2 hj) hp.f2
  have h2 := neq01 (sg st i) (f0 f)
  have h3 := neq01 (sg st i) (sg st j)
  have h4 := neq01 (sg st j) (f0 f)
  have e1 : bsOf f st i = neq (sg st i) (f0 f) := rfl
  have e2 : bsOf f st j = neq (sg st j) (f0 f) := rfl
  have e3 : chOf st i j = neq (sg st i) (sg st j) := rfl
  rw [e1, e2, e3]
  omega
theorem Plan.step {f st : Str} {rs : List (Int × Int)} (hp : Pil f st rs) {top : Int} {w : Nat → Int} (P : Plan f st rs top w) {z : Int × Int} (hz : z ∈ rs) : w z.1.toNat + chOf st z.1.toNat z.2.toNat ≤ w z.2.toNat := by
  obtain ⟨a, b, c, d, e⟩ := hp.rul.inn z hz
  have h1 := P.led z hz
  obtain ⟨_, _, h2⟩ := P.blk z.1.toNat (by omega)
  obtain ⟨_, _, h3⟩ := P.blk z.2.toNat (by omega)
  obtain ⟨h4, h5, h6⟩ := bs_par hp (show z.1.toNat < st.length by omega) (show z.2.toNat < st.length by omega)
  omega
theorem plan_low {f st : Str} {rs : List (Int × Int)} (hp : Pil f st rs) {top : Int} {v w : Nat → Int} (V : PFix f st rs v) (P : Plan f st rs top w) : ∀ j, j < st.length → v j ≤ w j := by
  obtain ⟨rk, hrk⟩ := hp.acy
  have all : ∀ m : Nat, ∀ j : Nat, j < st.length → rk j < m → v j ≤ w j := by
    intro m
    induction m with
    | zero => intro j _ h; omega
    | succ m ih =>
      intro j hj hm
      rcases V.by_ j hj with e | ⟨z, hz, e1, e2⟩
      · rw [e]; exact (P.blk j hj).1
      · obtain ⟨h0, h1⟩ := hp.r2 z hz
        obtain ⟨i, hi⟩ := Int.eq_ofNat_of_zero_le h0
        have h2 := hrk z hz
        rw [e1, hi] at h2
        have h3 := ih i (by omega) (by omega)
        have h4 := P.step hp hz
        rw [e1] at h4
        rw [hi] at e2 h4
        simp only [Int.toNat_natCast] at e2 h4
        omega
  exact fun j hj => all (rk j + 1) j hj (by omega)
theorem to_top {f st : Str} {rs : List (Int × Int)} (hp : Pil f st rs) {top : Int} {u w : Nat → Int} (U : OFix st rs u) (ht : ∀ j, j < st.length → w j ≤ top) (hs : ∀ z, z ∈ rs → w z.1.toNat + chOf st z.1.toNat z.2.toNat ≤ w z.2.toNat) : ∀ j, j < st.length → w j + u j ≤ top := by
  obtain ⟨rk, hrk⟩ := rv_acy hp.rul hp.acy
  have all : ∀ m : Nat, ∀ j : Nat, j < st.length → rk j < m → w j + u j ≤ top := by
    intro m
    induction m with
    | zero => intro j _ h; omega
    | succ m ih =>
      intro j hj hm
      rcases ofix_by U hj with e | ⟨z, hz, e1, e2⟩
      · have := ht j hj
        omega
      · obtain ⟨a, b, c, d, _⟩ := hp.rul.inn z hz
        obtain ⟨i, hi⟩ := Int.eq_ofNat_of_zero_le c
        have h2 := hrk (z.2, z.1) (rv_mem.mpr hz)
        simp only at h2
        rw [e1, hi] at h2
        have h3 := ih i (by omega) (by omega)
        have h4 := hs z hz
        rw [e1] at h4
        rw [hi] at e2 h4
        simp only [Int.toNat_natCast] at e2 h4
        omega
  exact fun j hj => all (rk j + 1) j hj (by omega)
theorem fix_par' {f st : Str} {rs : List (Int × Int)} (hp : Pil f st rs) {v : Nat → Int} (V : PFix f st rs v) {j : Nat} (hj : j < st.length) : (v j - bsOf f st j) % 2 = 0 := by
  have h1 := fix_par hp V j hj
  have e1 : bsOf f st j = neq (sg st j) (f0 f) := rfl
  have h2 := neq01 (sg st j) (f0 f)
  rw [e1]
  omega
theorem plan_up {f st : Str} {rs : List (Int × Int)} (hp : Pil f st rs) {top : Int} {v u w : Nat → Int} (V : PFix f st rs v) (U : OFix st rs u) (P : Plan f st rs top w) : ∀ j, j < st.length → w j ≤ late top v u j := fun j hj => by
  have h1 := to_top hp U (fun j hj => (P.blk j hj).2.1) (fun z hz => P.step hp hz) j hj
  have h2 := (P.blk j hj).2.2
  have h3 := fix_par' hp V hj
  unfold late
  omega
theorem vu_top {f st : Str} {rs : List (Int × Int)} (hp : Pil f st rs) {v u : Nat → Int} {m : Int} (V : PFix f st rs v) (U : OFix st rs u) (M : IsMax st.length v m) : ∀ j, j < st.length → v j + u j ≤ m :=
  to_top hp U (fun j hj => M.2 j hj) (fun z hz => V.up z hz)
theorem plan_v {f st : Str} {rs : List (Int × Int)} (hp : Pil f st rs) {v : Nat → Int} {m top : Int} (V : PFix f st rs v) (M : IsMax st.length v m) (hm : m ≤ top) : Plan f st rs top v := by
  refine ⟨fun j hj => ⟨V.low j hj, by have := M.2 j hj; omega, fix_par' hp V hj⟩, fun z hz => ?_⟩
  have h1 := V.up z hz
  have h2 := neq01 (sg st z.1.toNat) (sg st z.2.toNat)
  have e : chOf st z.1.toNat z.2.toNat = neq (sg st z.1.toNat) (sg st z.2.toNat) := rfl
  omega
theorem plan_late {f st : Str} {rs : List (Int × Int)} (hp : Pil f st rs) {v u : Nat → Int} {m top : Int} (V : PFix f st rs v) (U : OFix st rs u) (M : IsMax st.length v m) (hm : m ≤ top) : Plan f st rs top (late top v u) := by
  refine ⟨fun j hj => ?_, fun z hz => ?_⟩
  · have h1 := vu_top hp V U M j hj
    have h2 := V.low j hj
    have h3 := fix_par' hp V hj
    have h4 := ofix_nn U hj
    unfold late
    omega
  · obtain ⟨a, b, c, d, e⟩ := hp.rul.inn z hz
    have h1 := ofix_up U hz
    obtain ⟨h4, h5, h6⟩ := bs_par hp (show z.1.toNat < st.length by omega) (show z.2.toNat < st.length by omega)
    have h7 := fix_par' hp V (show z.1.toNat < st.length by omega)
    have h8 := fix_par' hp V (show z.2.toNat < st.length by omega)
    unfold late
    omega
def blks (top b : Int) : List Int := (List.range ((top + 1 - b + 1) / 2).toNat).map fun i : Nat => b + (i : Nat) * 2
theorem blks_mem {top b x : Int} : x ∈ blks top b ↔ b ≤ x ∧ x ≤ top ∧ (x - b) % 2 = 0 := by
  unfold blks
  rw [List.mem_map]
  constructor
  · rintro ⟨i, hi, rfl⟩
    have : i < ((top + 1 - b + 1) / 2).toNat := by simpa using hi
    omega
  · rintro ⟨h1, h2, h3⟩
    exact ⟨((x - b) / 2).toNat, by simp; omega, by omega⟩
def stepP (f st : Str) (top : Int) (k : Nat) (line : List Int) : List (List Int) := (blks top (bsOf f st k)).map fun b => line ++ [b]
def plansK (f st : Str) (top : Int) : Nat → List (List Int)
  | 0 => [[]]
  | k + 1 => (plansK f st top k).flatMap (stepP f st top k)
theorem plansK_mem {f st : Str} {top : Int} : ∀ (k : Nat) (l : List Int), l ∈ plansK f st top k ↔ l.length = k ∧ ∀ j, j < k → l.getD j 0 ∈ blks top (bsOf f st j)
  | 0, l => by
    simp only [plansK, List.mem_singleton]
    exact ⟨fun h => by subst h; exact ⟨rfl, fun j hj => by omega⟩, fun h => List.length_eq_zero_iff.mp h.1⟩
  | k + 1, l => by
    rw [plansK, List.mem_flatMap]
    constructor
    · rintro ⟨l0, h0, h1⟩
      obtain ⟨b, hb, rfl⟩ := List.mem_map.mp h1
      obtain ⟨h2, h3⟩ := (plansK_mem k l0).mp h0
      refine ⟨by simp [h2], fun j hj => ?_⟩
      by_cases hjk : j < k
      · have := h3 j hjk
        rw [List.getD_eq_getElem?_getD, List.getElem?_append_left (by omega), ← List.getD_eq_getElem?_getD]
        exact this
      · have e : j = l0.length := by omega
        rw [List.getD_eq_getElem?_getD, e, get_last, h2]
        exact hb
    · rintro ⟨hl, h⟩
      have hne : l ≠ [] := fun e => by rw [e] at hl; simp at hl
      obtain ⟨l0, b, e⟩ := List.eq_nil_or_concat l |>.resolve_left hne
      rw [List.concat_eq_append] at e
      subst e
      have hl0 : l0.length = k := by simpa using hl
      refine ⟨l0, (plansK_mem k l0).mpr ⟨hl0, fun j hj => ?_⟩, List.mem_map.mpr ⟨b, ?_, rfl⟩⟩
      · have := h j (by omega)
        rw [List.getD_eq_getElem?_getD, List.getElem?_append_left (by omega), ← List.getD_eq_getElem?_getD] at this
        exact this
      · have := h k (by omega)
        rw [List.getD_eq_getElem?_getD, ← hl0, get_last] at this
        rw [← hl0]
        exact this
theorem blks_len {top b : Int} {m : Nat} (h0 : 0 ≤ b) (h : top + 2 ≤ 2 * m) : (blks top b).length ≤ m := by
  unfold blks
  simp
  omega
theorem flatP_len {f st : Str} {top : Int} {k m : Nat} (h : top + 2 ≤ 2 * m) : ∀ ls : List (List Int), (ls.flatMap (stepP f st top k)).length ≤ ls.length * m
  | [] => by simp
  | l :: ls => by
    have ih := flatP_len (f := f) (st := st) (k := k) h ls
    have h0 : 0 ≤ bsOf f st k := (neq01 _ _).1
    have h1 := blks_len (top := top) h0 h
    rw [List.flatMap_cons, List.length_append, List.length_cons, Nat.add_mul, Nat.one_mul]
    have : (stepP f st top k l).length = (blks top (bsOf f st k)).length := by simp [stepP]
    omega
theorem plansK_size {f st : Str} {top : Int} {m : Nat} (h : top + 2 ≤ 2 * m) : ∀ k, (plansK f st top k).length ≤ m ^ k
  | 0 => by simp [plansK]
  | k + 1 => by
    have ih := plansK_size (f := f) (st := st) h k
    have h2 := flatP_len (f := f) (st := st) (k := k) h (plansK f st top k)
    rw [plansK, Nat.pow_succ]
    exact Nat.le_trans h2 (Nat.mul_le_mul_right _ ih)
def ledB (rs : List (Int × Int)) (l : List Int) : Bool := decide (((rs.filter fun z => decide (l.getD z.1.toNat 0 > l.getD z.2.toNat 0)).map fun _ => (1 : Int)) = [])
theorem ledB_iff {rs : List (Int × Int)} {l : List Int} : ledB rs l = true ↔ ∀ z, z ∈ rs → l.getD z.1.toNat 0 ≤ l.getD z.2.toNat 0 := by
  unfold ledB
  rw [decide_eq_true_eq, List.map_eq_nil_iff, List.filter_eq_nil_iff]
  simp only [decide_eq_true_eq, Int.not_lt]
def allP (f st : Str) (rs : List (Int × Int)) (top : Int) : List (List Int) := (plansK f st top st.length).filter (ledB rs)
theorem allP_plan {f st : Str} {rs : List (Int × Int)} {top : Int} {l : List Int} : l ∈ allP f st rs top ↔ l.length = st.length ∧ Plan f st rs top fun j => l.getD j 0 := by
  unfold allP
  rw [List.mem_filter, plansK_mem, ledB_iff]
  constructor
  · rintro ⟨⟨h1, h2⟩, h3⟩
    exact ⟨h1, fun j hj => blks_mem.mp (h2 j hj), h3⟩
  · rintro ⟨h1, h2, h3⟩
    exact ⟨⟨h1, fun j hj => blks_mem.mpr (h2 j hj)⟩, h3⟩
def asL (n : Nat) (w : Nat → Int) : List Int := (List.range n).map w
theorem asL_get {n : Nat} {w : Nat → Int} {j : Nat} (h : j < n) : (asL n w).getD j 0 = w j := by
  unfold asL
  rw [List.getD_eq_getElem?_getD, List.getElem?_map, List.getElem?_range h]
  rfl
theorem asL_mem {f st : Str} {rs : List (Int × Int)} (hp : Pil f st rs) {top : Int} {w : Nat → Int} (P : Plan f st rs top w) : asL st.length w ∈ allP f st rs top := by
  refine allP_plan.mpr ⟨by simp [asL], fun j hj => ?_, fun z hz => ?_⟩
  · show _ ≤ (asL st.length w).getD j 0 ∧ _
    rw [asL_get hj]
    exact P.blk j hj
  · obtain ⟨a, b, c, d, e⟩ := hp.rul.inn z hz
    show (asL st.length w).getD z.1.toNat 0 ≤ (asL st.length w).getD z.2.toNat 0
    rw [asL_get (by omega), asL_get (by omega)]
    exact P.led z hz
end L3
namespace L3
open PySem PySem.Spec PyProof.Rows L2
theorem base_e {ip ii k : Nat} {o : Bool} {f st : Str} {rs : List (Int × Int)} {Γ : Slots} {C : Store} {R : D → Store → Prop} (h1 : Γ[ip]? = some (some (pil o f st rs))) (h2 : Γ[ii]? = some (some (.int (k : Nat)))) (hp : Pil f st rs) (hk : k < st.length) (q : R (.int (bsOf f st k)) C) :
    eCB oInt (aCons (eBin (oEq true) (eBin oIxS (eBin oIxT (eVar ip) (eC (.int 1))) (eVar ii)) (eBin oIxT (eVar ip) (eC (.int 0)))) aNil) Γ C R := by
  have hz := sizeL
  have h24 := hp.top
  refine ⟨_, h1, _, _, _, rfl, rfl, rfl, _, h2, st, (k : Nat), sg st k, rfl, rfl, by omega, sg_at hk, _, h1, _, _, _, rfl, rfl, rfl, ?_⟩
  show R (.int (if (true != decide ((⟨#[sg st k]⟩ : Str) = f)) = true then 1 else 0)) _
  rw [f_one hp.fst, one_ne]
  exact q
theorem getD_at {l : List Int} {i : Nat} (h : i < l.length) : atI (l.map D.int) (i : Int) = some (.int (l.getD i 0)) := by
  refine ints_at ?_
  rw [List.getD_eq_getElem?_getD, List.getElem?_eq_getElem h]
  rfl
theorem max_n {f st : Str} {rs : List (Int × Int)} (hp : Pil f st rs) {v : Nat → Int} {m : Int} (V : PFix f st rs v) (M : IsMax st.length v m) : 0 ≤ m ∧ m ≤ st.length := by
  obtain ⟨l, hl, hs⟩ := row_up hp V M
  have h1 := row_low hp V M hl
  have h2 := sws_nn (st := st) l (f0 f)
  have h3 := rowsK_len _ _ hl
  omega
def unI : D → List Int
  | .lst _ xs => xs.map fun d => match d with | .int i => i | _ => 0
  | _ => []
theorem unI_rD (l : List Int) : unI (rD l) = l := by
  show (l.map D.int).map _ = l
  rw [List.map_map]
  show l.map (fun i => i) = l
  simp
theorem fix_sub {f st : Str} {rs rs' : List (Int × Int)} (hp : Pil f st rs') {v v' : Nat → Int} (hs : ∀ z, z ∈ rs' → z ∈ rs) (V : PFix f st rs v) (V' : PFix f st rs' v') : ∀ j, j < st.length → v' j ≤ v j := by
  obtain ⟨rk, hrk⟩ := hp.acy
  have all : ∀ m : Nat, ∀ j : Nat, j < st.length → rk j < m → v' j ≤ v j := by
    intro m
    induction m with
    | zero => intro j _ h; omega
    | succ m ih =>
      intro j hj hm
      rcases V'.by_ j hj with e | ⟨z, hz, e1, e2⟩
      · rw [e]; exact V.low j hj
      · obtain ⟨h0, h1⟩ := hp.r2 z hz
        obtain ⟨i, hi⟩ := Int.eq_ofNat_of_zero_le h0
        have h2 := hrk z hz
        rw [e1, hi] at h2
        have h3 := ih i (by omega) (by omega)
        have h4 := V.up z (hs z hz)
        rw [e1] at h4
        rw [hi] at e2 h4
        simp only [Int.toNat_natCast] at e2 h4
        omega
  exact fun j hj => all (rk j + 1) j hj (by omega)
theorem Most.of {f st : Str} {rs : List (Int × Int)} (hp : Pil f st rs) {v : Nat → Int} {k m : Int} (V : PFix f st rs v) (M : IsMax st.length v k) (h : k ≤ m) (h30 : m ≤ 10 ^ 30) : Most f st rs m := ⟨h30, fun w l W L => by rw [pfix_max hp W V L M]; exact h⟩
theorem Most.sub {f st : Str} {rs rs' : List (Int × Int)} (hp : Pil f st rs) (hp' : Pil f st rs') (hs : ∀ z, z ∈ rs' → z ∈ rs) {m : Int} (h : Most f st rs m) : Most f st rs' m := by
  refine ⟨h.1, fun v' k' V' M' => ?_⟩
  obtain ⟨v, V⟩ := hp.pfix
  obtain ⟨⟨j, hj, ej⟩, _⟩ := M'
  have h1 := fix_sub hp' hs V V' j hj
  obtain ⟨k, hk, hm⟩ := ex_least (fun a b : Int => b ≤ a) (fun a b => by omega) (fun a b c h1 h2 => by omega) ((List.range st.length).map v) (by
    have := hp.pos
    intro e
    have := congrArg List.length e
    simp at this
    omega)
  have M := max_of hk hm
  have h2 := h.2 v k V M
  have h3 := M.2 j hj
  omega
theorem v_bound {f st : Str} {rs : List (Int × Int)} (hp : Pil f st rs) {v : Nat → Int} (V : PFix f st rs v) {j : Nat} (hj : j < st.length) : 0 ≤ v j ∧ v j ≤ 24 := by
  obtain ⟨k, hk, hmx⟩ := ex_least (fun a b : Int => b ≤ a) (fun a b => by omega) (fun a b c h1 h2 => by omega) ((List.range st.length).map v) (by
    have := hp.pos
    intro e
    have := congrArg List.length e
    simp at this
    omega)
  have M := max_of hk hmx
  have h1 := max_n hp V M
  have h2 := M.2 j hj
  have h3 := V.low j hj
  have h4 := hp.top
  have : 0 ≤ bsOf f st j := (neq01 _ _).1
  omega
def two (n : Nat) (v w : Nat → Int) : PyData := .list [.list (((List.range n).map v).map .int), .list (((List.range n).map w).map .int)]
theorem late_congr {f st : Str} {rs : List (Int × Int)} (hp : Pil f st rs) {v u v' u' : Nat → Int} {m : Int} (V : PFix f st rs v) (U : OFix st rs u) (V' : PFix f st rs v') (U' : OFix st rs u') : ∀ j, j < st.length → late m v u j = late m v' u' j := fun j hj => by
  unfold late
  rw [hp.peq V V' j hj, hp.oeq U U' j hj]
end L3
namespace L3
open PySem PySem.Spec PyProof.Rows L2
inductive Way (st : Str) (rs : List (Int × Int)) : Int → Int → Int → Prop
  | nil (p : Int) : Way st rs p p 0
  | snoc {p x y c : Int} : Way st rs p x c → (x, y) ∈ rs → Way st rs p y (c + chg st (x, y))
inductive WayIn (st : Str) (rs : List (Int × Int)) (A : List Int) : Int → Int → Int → Prop
  | nil (p : Int) : WayIn st rs A p p 0
  | snoc {p x y c : Int} : WayIn st rs A p x c → x ∈ A → (x, y) ∈ rs → WayIn st rs A p y (c + chg st (x, y))
inductive WayN (st : Str) (rs : List (Int × Int)) : Nat → Int → Int → Int → Prop
  | nil (k : Nat) (p : Int) : WayN st rs k p p 0
  | snoc {k : Nat} {p x y c : Int} : WayN st rs k p x c → (x, y) ∈ rs → WayN st rs (k + 1) p y (c + chg st (x, y))
section
variable {st : Str} {rs : List (Int × Int)}
theorem chg01 (st : Str) (z : Int × Int) : 0 ≤ chg st z ∧ chg st z ≤ 1 := neq01 _ _
theorem Way.nn {p q c : Int} (h : Way st rs p q c) : 0 ≤ c := by
  induction h with
  | nil => exact Int.le_refl _
  | @snoc x y c _ _ ih => have := chg01 st (x, y); omega
theorem WayIn.way {A : List Int} {p q c : Int} (h : WayIn st rs A p q c) : Way st rs p q c := by
  induction h with
  | nil => exact .nil _
  | snoc _ _ hz ih => exact .snoc ih hz
theorem Way.inn {p q c : Int} {A : List Int} (hA : ∀ z, z ∈ rs → z.1 ∈ A) (h : Way st rs p q c) : WayIn st rs A p q c := by
  induction h with
  | nil => exact .nil _
  | snoc _ hz ih => exact .snoc ih (hA _ hz) hz
theorem WayN.mono {k j : Nat} {p q c : Int} (h : WayN st rs k p q c) (hkj : k ≤ j) : WayN st rs j p q c := by
  induction h generalizing j with
  | nil => exact .nil _ _
  | snoc _ hz ih =>
    obtain ⟨j', rfl⟩ : ∃ j', j = j' + 1 := ⟨j - 1, by omega⟩
    exact .snoc (ih (by omega)) hz
theorem Way.few {p q c : Int} {r : Nat → Nat} (hr : ∀ z, z ∈ rs → r z.1.toNat < r z.2.toNat) (h : Way st rs p q c) : WayN st rs (r q.toNat) p q c := by
  induction h with
  | nil => exact .nil _ _
  | snoc _ hz ih => exact (WayN.snoc ih hz).mono (hr _ hz)
theorem Way.tgt {n : Nat} {p q c : Int} (hr : ∀ z, z ∈ rs → 0 ≤ z.1 ∧ z.1 < n ∧ 0 ≤ z.2 ∧ z.2 < n ∧ z.1 ≠ z.2) (h : Way st rs p q c) (hp : 0 ≤ p ∧ p < n) : 0 ≤ q ∧ q < n := by
  cases h with
  | nil => exact hp
  | snoc _ hz => have := hr _ hz; exact ⟨this.2.2.1, this.2.2.2.1⟩
end
def Bst (st : Str) (rs : List (Int × Int)) (p q : Int) : Option Int → Prop
  | some m => Way st rs p q m ∧ ∀ c, Way st rs p q c → c ≤ m
  | none => ∀ c, ¬ Way st rs p q c
theorem Bst.eq {st : Str} {rs : List (Int × Int)} {p q : Int} {a b : Option Int} (x : Bst st rs p q a) (y : Bst st rs p q b) : a = b := by
  cases a with
  | none => cases b with
    | none => rfl
    | some m => exact absurd y.1 (x m)
  | some m => cases b with
    | none => exact absurd x.1 (y m)
    | some k => have h1 := x.2 k y.1; have h2 := y.2 m x.1; rw [show m = k by omega]
def Snd (st : Str) (rs : List (Int × Int)) (p : Int) (u : Int → Option Int) : Prop := ∀ q m, u q = some m → Way st rs p q m
theorem bst_of {st : Str} {rs : List (Int × Int)} {p : Int} {u : Int → Option Int} (s : Snd st rs p u) (c : ∀ q x, Way st rs p q x → ∃ m, u q = some m ∧ x ≤ m) (q : Int) : Bst st rs p q (u q) := by
  cases h : u q with
  | none => exact fun x w => by obtain ⟨m, e, _⟩ := c q x w; rw [h] at e; cases e
  | some m => exact ⟨s q m h, fun x w => by obtain ⟨m', e, hm⟩ := c q x w; rw [h] at e; cases e; exact hm⟩
def Grow (u u' : Int → Option Int) : Prop := ∀ q m, u q = some m → ∃ m', u' q = some m' ∧ m ≤ m'
theorem Grow.refl {u : Int → Option Int} : Grow u u := fun q m h => ⟨m, h, Int.le_refl _⟩
theorem Grow.trans {u v w : Int → Option Int} (a : Grow u v) (b : Grow v w) : Grow u w := fun q m h => by
  obtain ⟨m1, e1, h1⟩ := a q m h
  obtain ⟨m2, e2, h2⟩ := b q m1 e1
  exact ⟨m2, e2, by omega⟩
structure Dic (ks : List Key) (xs : List D) (u : Int → Option Int) (m : Nat) : Prop where
  at_ : ∀ q : Int, dAt (.inl q) ks xs = (u q).map .int
  len : ks.length = xs.length
  few : ks.length ≤ m
  flat : flatDs xs = true
theorem dAt_put {k q : Key} {y : D} : ∀ {ks : List Key} {xs : List D}, ks.length = xs.length → dAt q (kPut k ks) (xPut k y ks xs) = if k = q then some y else dAt q ks xs := by
  have snoc : ∀ (ks : List Key) (xs : List D), ks.length = xs.length → hasK k ks = false → dAt q (ks ++ [k]) (xs ++ [y]) = if k = q then some y else dAt q ks xs := by
    intro ks
    induction ks with
    | nil => intro xs h _; cases xs with
      | nil => rfl
      | cons _ _ => simp at h
    | cons p ks ih =>
      intro xs h hk
      cases xs with
      | nil => simp at h
      | cons x xs =>
        simp only [hasK, List.any_cons, Bool.or_eq_false_iff, decide_eq_false_iff_not] at hk
        simp only [List.cons_append, dAt]
        by_cases e : p = q
        · rw [if_pos e, if_pos e, if_neg fun z => hk.1 (e.trans z.symm)]
        · rw [if_neg e, if_neg e, ih xs (by simpa using h) hk.2]
  have mid : ∀ (ks : List Key) (xs : List D), ks.length = xs.length → hasK k ks = true → dAt q ks ((ks.zip xs).map fun z => if z.1 = k then y else z.2) = if k = q then some y else dAt q ks xs := by
    intro ks
    induction ks with
    | nil => intro xs h hk; cases hk
    | cons p ks ih =>
      intro xs h hk
      cases xs with
      | nil => simp at h
      | cons x xs =>
        simp only [List.zip_cons_cons, List.map_cons, dAt]
        by_cases e : p = q
        · subst e
          rw [if_pos rfl]
          by_cases e2 : p = k
          · rw [if_pos e2, if_pos e2.symm]
          · rw [if_neg e2, if_neg fun z => e2 z.symm, if_pos rfl]
        · rw [if_neg e, if_neg e]
          by_cases hk2 : hasK k ks = true
          · exact ih xs (by simpa using h) hk2
          · have hpk : p = k := by
              simp only [hasK, List.any_cons, Bool.or_eq_true, decide_eq_true_eq] at hk hk2
              exact hk.resolve_right hk2
            subst hpk
            rw [if_neg e]
            have : (ks.zip xs).map (fun z => if z.1 = p then y else z.2) = xs := by
              have hx : ks.length = xs.length := by simpa using h
              clear ih h hk
              induction ks generalizing xs with
              | nil => cases xs with
                | nil => rfl
                | cons _ _ => simp at hx
              | cons r ks ih2 =>
                cases xs with
                | nil => simp at hx
                | cons x' xs =>
                  simp only [hasK, List.any_cons, Bool.or_eq_true, decide_eq_true_eq, not_or] at hk2
                  simp only [List.zip_cons_cons, List.map_cons]
                  rw [if_neg hk2.1, ih2 xs hk2.2 (by simpa using hx)]
            rw [this]
  intro ks xs h
  unfold kPut xPut
  cases hk : hasK k ks with
  | true => rw [if_pos rfl, if_pos rfl]; exact mid ks xs h hk
  | false => rw [if_neg (by decide), if_neg (by decide)]; exact snoc ks xs h hk
theorem Dic.put {ks : List Key} {xs : List D} {u : Int → Option Int} {m : Nat} (d : Dic ks xs u m) (b y : Int) : Dic (kPut (.inl b) ks) (xPut (.inl b) (.int y) ks xs) (fun q => if q = b then some y else u q) (m + 1) := by
  refine ⟨fun q => ?_, ?_, ?_, ?_⟩
  · rw [dAt_put d.len, d.at_ q]
    by_cases e : q = b
    · subst e; rw [if_pos rfl, if_pos rfl]; rfl
    · rw [if_neg e, if_neg fun z => e (Sum.inl.inj z).symm]
  · unfold kPut xPut
    have := d.len
    split
    · simp; omega
    · simp; omega
  · have := d.few
    unfold kPut
    split
    · omega
    · simp; omega
  · have hf := d.flat
    have app : ∀ xs : List D, flatDs xs = true → flatDs (xs ++ [.int y]) = true := by
      intro xs
      induction xs with
      | nil => intro _; rfl
      | cons x xs ih => intro h; simp only [flatDs, Bool.and_eq_true] at h; simp only [List.cons_append, flatDs, h.1, ih h.2, Bool.and_self]
    have mp : ∀ (ks : List Key) (xs : List D), flatDs xs = true → flatDs ((ks.zip xs).map fun z => if z.1 = .inl b then .int y else z.2) = true := by
      intro ks
      induction ks with
      | nil => intro xs _; rfl
      | cons k ks ih =>
        intro xs h
        cases xs with
        | nil => rfl
        | cons x xs =>
          simp only [flatDs, Bool.and_eq_true] at h
          simp only [List.zip_cons_cons, List.map_cons, flatDs, ih xs h.2, Bool.and_true]
          split
          · rfl
          · exact h.1
    unfold xPut
    split
    · exact mp ks xs hf
    · exact app xs hf
theorem Dic.one (b y : Int) : Dic [.inl b] [.int y] (fun q => if q = b then some y else none) 1 := by
  refine ⟨fun q => ?_, rfl, Nat.le_refl _, rfl⟩
  simp only [dAt]
  by_cases e : q = b
  · subst e; rw [if_pos rfl, if_pos rfl]; rfl
  · rw [if_neg e, if_neg fun z => e (Sum.inl.inj z).symm]; rfl
theorem Dic.mono {ks : List Key} {xs : List D} {u : Int → Option Int} {m k : Nat} (d : Dic ks xs u m) (h : m ≤ k) : Dic ks xs u k := ⟨d.at_, d.len, Nat.le_trans d.few h, d.flat⟩
theorem Dic.some {ks : List Key} {xs : List D} {u : Int → Option Int} {m : Nat} (d : Dic ks xs u m) (q : Int) : (dAt (.inl q) ks xs).isSome = (u q).isSome := by
  rw [d.at_ q]
  cases u q <;> rfl
theorem fin_dk {C : Store} {k : Nat} {ks : List Key} {xs : List D} (h : C[k]? = some (.dk ks xs)) (f : flatDs xs = true) : fin 0 C (.ptr k) = .dk false ks xs := by
  unfold fin
  simp only [mapW, finG, h, Nat.not_lt_zero, if_false]
  rw [mapWs_flat f]
theorem np_dk {ks : List Key} {xs : List D} (f : flatDs xs = true) : (noold (.dk false ks xs) && noptr (.dk false ks xs)) = true := by
  have := flats_np f
  simp only [noold, okW, noptr, this.1, this.2]
  rfl
end L3
namespace L3
open PySem PySem.Spec PyProof.Rows L2
end L3
namespace L3
open PySem PySem.Spec PyProof.Rows L2
end L3
namespace L3
namespace PN
open PySem PySem.Spec PyProof.Rows L2
def T_Lw_pile (P_Lw_draw : PV) : SV :=
  (sSeq (sAsg (eBin oAdd (eC (.int 1)) (eCallK 1 kf1 P_Lw_draw (aCons (eVar 0) (aCons (eVar 1) aNil)))) (gvName 3))
  (sSeq (sAsg (eM1 oJoin (eC (.str "")) (eFrz (fLc [5] (iRange1 (aCons (eVar 3) aNil)) (gvName 5) bYes (eBin oIxS (eC (.str "RB")) (eCallK 1 kf1 P_Lw_draw (aCons (eVar 0) (aCons (eC (.int 2)) aNil))))))) (gvName 4))
  (sSeq (sAsg (eCell (fListRange (eVar 3))) (gvName 6))
  (sSeq (sAsg (eFrz (fLc [8] (iRange1 (aCons (eVar 3) aNil)) (gvName 8) bYes (eMl mPopAt (eVar 6) (aCons (eCallK 1 kf1 P_Lw_draw (aCons (eVar 0) (aCons (eCB oLenA (aCons (eVar 6) aNil)) aNil))) aNil)))) (gvName 7))
  (sSeq (sAsg (eCell fDt0) (gvName 9))
  (sSeq (sFor (iRange1 (aCons (eCallK 1 kf1 P_Lw_draw (aCons (eVar 0) (aCons (eBin oAdd (eVar 2) (eC (.int 1))) aNil))) aNil)) (gvName 8) (sSeq (sPar 10 11 (aCons (eCallK 1 kf1 P_Lw_draw (aCons (eVar 0) (aCons (eVar 3) aNil))) (aCons (eCallK 1 kf1 P_Lw_draw (aCons (eVar 0) (aCons (eVar 3) aNil))) aNil)))
  (sIf (bB (eBin (oEq true) (eVar 10) (eVar 11))) (sAsg (eC (.bl true)) (gvSubT (eVar 9) (eTup (aCons (eBin oIxL (eVar 7) (eCB oMin2 (aCons (eVar 10) (aCons (eVar 11) aNil)))) (aCons (eBin oIxL (eVar 7) (eCB oMax2 (aCons (eVar 10) (aCons (eVar 11) aNil)))) aNil))))) sNext)))
  (sRet (eTup (aCons (eBin oIxS (eC (.str "RB")) (eCallK 1 kf1 P_Lw_draw (aCons (eVar 0) (aCons (eC (.int 2)) aNil)))) (aCons (eVar 4) (aCons (eFrz (fCB nSortT (aCons (eVar 9) aNil))) aNil)))))))))))
abbrev N_Lw_pile : List Str := ["_law_bag_here", "_law_top", "_law_rules", "_law_many", "_law_stamps", "_law_paper", "_law_left", "_law_row", "_law_bout", "_law_found", "_law_one", "_law_two"]
def T_Lw_plan (P_Lw_draw P_Lw_early P_Lw_late P_Lw_led : PV) : SV :=
  (sSeq (sAsg (eCallK 1 kf1 P_Lw_draw (aCons (eVar 0) (aCons (eC (.int 4)) aNil))) (gvName 3))
  (sSeq (sIf (bB (eBin (oEq false) (eVar 3) (eC (.int 0)))) (sRet (eCall P_Lw_early (aCons (eVar 1) aNil))) sNext)
  (sSeq (sIf (bB (eBin (oEq false) (eVar 3) (eC (.int 1)))) (sRet (eCall P_Lw_late (aCons (eVar 1) (aCons (eVar 2) aNil)))) sNext)
  (sSeq (sPar 4 5 (aCons (eCall P_Lw_early (aCons (eVar 1) aNil)) (aCons (eCall P_Lw_late (aCons (eVar 1) (aCons (eVar 2) aNil))) aNil)))
  (sRet (eCall P_Lw_led (aCons (eVar 1) (aCons (eFrz (fLc [6, 7] (iZipD (aCons (eVar 4) (aCons (eVar 5) aNil))) (gvTup 2 (gvCons (gvName 6) (gvCons (gvName 7) gvNil))) bYes (eBin oAdd (eVar 6) (eCallK 1 kf1 P_Lw_draw (aCons (eVar 0) (aCons (eBin oAdd (eBin oSub (eVar 7) (eVar 6)) (eC (.int 1))) aNil)))))) (aCons (eVar 2) aNil)))))))))
abbrev N_Lw_plan : List Str := ["_law_bag_here", "_law_heap", "_law_top", "_law_kind", "_law_early_here", "_law_late_here", "_law_one", "_law_two"]
def T_Lw_most (P_Lw_fewest P_Lw_draw : PV) : SV :=
  (sSeq (sAsg (eCall P_Lw_fewest (aCons (eVar 1) aNil)) (gvName 2))
  (sRet (eBin oAdd (eVar 2) (eBin oIxL (eFrz (fLst (aCons (eC (.int 0)) (aCons (eC (.int 1)) (aCons (eC (.int 2)) (aCons (eCallK 1 kf1 P_Lw_draw (aCons (eVar 0) (aCons (eC (.int 7)) aNil))) (aCons (eCallK 1 kf1 P_Lw_draw (aCons (eVar 0) (aCons (eBin oPowW (eC (.int 10)) (eC (.int 29))) aNil))) aNil))))))) (eCallK 1 kf1 P_Lw_draw (aCons (eVar 0) (aCons (eC (.int 5)) aNil)))))))
abbrev N_Lw_most : List Str := ["_law_bag_here", "_law_heap", "_law_few"]
def T_Lw_same (P_Lw_same : PV) : SV :=
  (sSeq (sIf (bB (eIsi2 .list .tuple (eVar 1))) (sSeq (sIf (bOr (bNot (bB (eIsi2 .list .tuple (eVar 0)))) (bB (eBin (oEq true) (eIsi .list (eVar 0)) (eIsi .list (eVar 1))))) (sRet (eC (.bl false))) sNext)
  (sRet (eAnd (eBin (oEq false) (eCB oLenA (aCons (eVar 0) aNil)) (eCB oLenA (aCons (eVar 1) aNil))) (eCB oAll (aCons (eFrz (fLc [2] (iRange1 (aCons (eCB oLenA (aCons (eVar 1) aNil)) aNil)) (gvName 2) bYes (eCall P_Lw_same (aCons (eBin oIxA (eVar 0) (eVar 2)) (aCons (eBin oIxA (eVar 1) (eVar 2)) aNil))))) aNil))))) sNext)
  (sSeq (sIf (bB (eIsi .int (eVar 1))) (sRet (eAnd (eIsi .int (eVar 0)) (eAnd (eBin (oEq false) (eIsi .bool (eVar 0)) (eIsi .bool (eVar 1))) (eBin (oEq false) (eVar 0) (eVar 1))))) sNext)
  (sRet (eBin (oEq false) (eVar 0) (eVar 1)))))
abbrev N_Lw_same : List Str := ["_law_found", "_law_due", "_law_k"]
def T_law (P_Lw_cells P_Lw_right P_Lw_bag : PV) : SV :=
  (sSeq (sFor (iEnumD (aCons (eCall P_Lw_cells (aCons (eVar 0) aNil)) aNil)) (gvTup 2 (gvCons (gvName 1) (gvCons (gvName 2) gvNil))) (sIf (bNot (bB (eCallK 1 kf2 P_Lw_right (aCons (eVar 0) (aCons (eCell (fCall P_Lw_bag (aCons (eVar 2) (aCons (eVar 1) aNil)))) aNil))))) (sRet (eC (.bl false))) sNext))
  (sRet (eC (.bl true))))
abbrev N_law : List Str := ["_law_script", "_law_k", "_law_cell"]
def T_Lw_far : SV :=
  (sRet (eBin oDiv (eCB oSum (aCons (eFrz (fLc [2, 3] (iZipD (aCons (eVar 0) (aCons (eVar 1) aNil))) (gvTup 2 (gvCons (gvName 2) (gvCons (gvName 3) gvNil))) bYes (eCB oAbs (aCons (eBin oSub (eVar 2) (eVar 3)) aNil)))) aNil)) (eC (.int 2))))
abbrev N_Lw_far : List Str := ["_law_one", "_law_two", "_law_block", "_law_later"]
def T_far_between : SV :=
  (sRet (eBin oDiv (eCB oSum (aCons (eFrz (fLc [2, 3] (iZipD (aCons (eVar 0) (aCons (eVar 1) aNil))) (gvTup 2 (gvCons (gvName 2) (gvCons (gvName 3) gvNil))) bYes (eCB oAbs (aCons (eBin oSub (eVar 2) (eVar 3)) aNil)))) aNil)) (eC (.int 2))))
abbrev N_far_between : List Str := ["plan", "other", "one", "two"]
end PN
end L3
namespace L3
namespace PN
open PySem PySem.Spec PyProof.Rows L2
def Bag (c : Int) (x : Cell) : Prop := ∃ a b k : Int, x = .lst [.int a, .int b, .int k] ∧ 0 ≤ a ∧ 0 ≤ b ∧ b < 10 ^ 42 ∧ 0 ≤ k ∧ k ≤ c
theorem Bag.view {c : Int} {x : Cell} (h : Bag c x) {f : Bool → Bool} {g : Nat → D} : x.mapC f g = x := by
  obtain ⟨a, b, k, rfl, _⟩ := h
  rfl
theorem Bag.alive {c : Int} {x : Cell} (h : Bag c x) : x ≠ .dead := by
  obtain ⟨a, b, k, rfl, _⟩ := h
  simp
theorem Bag.ok {c : Int} {x : Cell} (h : Bag c x) : x.okC (fun o => !o) = true := by
  obtain ⟨a, b, k, rfl, _⟩ := h
  rfl
theorem Bag.finS {c : Int} {x : Cell} (h : Bag c x) {C : Store} : finS 1 (x :: C) = [x] := by
  obtain ⟨a, b, k, rfl, _⟩ := h
  rfl
theorem Bag.le {c c' : Int} {x : Cell} (h : Bag c x) (hc : c ≤ c') : Bag c' x := by
  obtain ⟨a, b, k, e, h1, h2, h3, h4, h5⟩ := h
  exact ⟨a, b, k, e, h1, h2, h3, h4, by omega⟩
def P_Lw_bag : PV := fun ds C Q => ∃ c k : Int, ds = [.int c, .int k] ∧ 0 ≤ k ∧ k < 1000 ∧ ∀ xs, Bag 0 (.lst xs) → flatDs xs = true → Q (.lst false xs) C
def P_Lw_draw : PV := fun ds C Q => ∃ (m c : Int) (x : Cell), ds = [.ptr 0, .int m] ∧ C = [x] ∧ Bag c x ∧ 0 < m ∧ m < 10 ^ 32 ∧ c < 10 ^ 6 ∧ ∀ r y, 0 ≤ r → r < m → Bag (c + 1) y → Q (.int r) [y]
theorem callB {kf : List D → List Nat} {P : PV} {k : Nat} {ds ds' : List D} {C1 : Store} {c : Int} {x : Cell} {Q : D → Store → Prop} (hkf : kf ds = [k]) (hk : C1[k]? = some x) (hx : Bag c x) (he : views [k] C1 ds = ds')
    (h : P ds' [x] fun d Cc => ∃ y c', Cc = [y] ∧ Bag c' y ∧ (noold d && noptr d) = true ∧ Q d (C1.set k y)) (mono : ∀ (R R' : D → Store → Prop), (∀ d Cc, R d Cc → R' d Cc) → P ds' [x] R → P ds' [x] R') : callK 1 kf P ds C1 Q := by
  unfold callK
  rw [hkf]
  refine ⟨rfl, List.nodup_cons.mpr ⟨by simp, List.nodup_nil⟩, fun k' hk' => ⟨x, ?_, hx.alive⟩, ?_⟩
  · simp at hk'; subst hk'; exact hk
  · have e3 : viewC [k] C1 = [x] := by
      unfold viewC
      simp only [List.map_cons, List.map_nil, hk, Option.getD_some]
      rw [hx.view]
    rw [he, e3]
    refine mono _ _ (fun d Cc hd => ?_) h
    obtain ⟨y, c', rfl, hy, hn, hq⟩ := hd
    simp only [Bool.and_eq_true] at hn
    refine ⟨hn.1, fun c hc => ?_, ?_⟩
    · simp at hc; subst hc; exact hy.ok
    · rw [mapW_np.1 d hn.2]
      show Q d ((C1.set k (y.mapC id (backG [k]))))
      rw [hy.view]
      exact hq
theorem views_p1 {k : Nat} {C1 : Store} {es : List D} : views [k] C1 (.ptr k :: es) = .ptr 0 :: mapWs (fun _ => true) (viewG [k] C1 2) es := by
  unfold views
  rw [mapWs]
  simp [mapW, viewG, posOf]
theorem mono_draw {ds : List D} {C : Store} (R R' : D → Store → Prop) (h : ∀ d Cc, R d Cc → R' d Cc) : P_Lw_draw ds C R → P_Lw_draw ds C R' := fun ⟨m, c, x, e1, e2, e3, e4, e5, e6, q⟩ => ⟨m, c, x, e1, e2, e3, e4, e5, e6, fun r y a b d => h _ _ (q r y a b d)⟩
theorem draw_k {m c : Int} {x : Cell} {k : Nat} {C1 : Store} {Q : D → Store → Prop} (hk : C1[k]? = some x) (hx : Bag c x) (hm : 0 < m) (hm2 : m < 10 ^ 32) (hc : c < 10 ^ 6) (q : ∀ r y, 0 ≤ r → r < m → Bag (c + 1) y → Q (.int r) (C1.set k y)) :
    callK 1 kf1 P_Lw_draw [.ptr k, .int m] C1 Q :=
  callB (k := k) (ds' := [.ptr 0, .int m]) rfl hk hx (by rw [views_p1]; rfl) ⟨m, c, x, rfl, rfl, hx, hm, hm2, hc, fun r y h0 h1 hy => ⟨y, _, rfl, hy, rfl, q r y h0 h1 hy⟩⟩ mono_draw
theorem draw_e {i k : Nat} {m c : Int} {x : Cell} {C1 : Store} {Γ : Slots} {E : EV} {Q : D → Store → Prop} (hk : C1[k]? = some x) (hx : Bag c x) (hv : Γ[i]? = some (some (.ptr k))) (hE : ∀ R : D → Store → Prop, R (.int m) C1 → E Γ C1 R) (hm : 0 < m) (hm2 : m < 10 ^ 32) (hc : c < 10 ^ 6)
    (q : ∀ r y, 0 ≤ r → r < m → Bag (c + 1) y → Q (.int r) (C1.set k y)) : eCallK 1 kf1 P_Lw_draw (aCons (eVar i) (aCons E aNil)) Γ C1 Q := by
  rw [u_eCallK]
  simp only [u_aCons, u_aNil, u_eVar]
  exact ⟨_, hv, hE _ (draw_k hk hx hm hm2 hc q)⟩
theorem kP_inj {z w : Int × Int} (h : kP z = kP w) : z = w := by
  simp only [kP, List.cons.injEq, Sum.inl.injEq] at h
  exact Prod.ext h.1 h.2.1
theorem hasT_pairs {z : Int × Int} {ps : List (Int × Int)} : hasT (kP z) (ps.map kP) = decide (z ∈ ps) := by
  unfold hasT
  rw [List.any_map]
  by_cases h : z ∈ ps
  · rw [decide_eq_true h]
    exact List.any_eq_true.mpr ⟨z, h, by simp⟩
  · rw [decide_eq_false h]
    refine Bool.eq_false_iff.mpr fun e => ?_
    obtain ⟨w, hw, e⟩ := List.any_eq_true.mp e
    have : w = z := kP_inj (by simpa using e)
    exact h (this ▸ hw)
def addP (z : Int × Int) (ps : List (Int × Int)) : List (Int × Int) := if z ∈ ps then ps else ps ++ [z]
theorem tPut_pairs {z : Int × Int} {ps : List (Int × Int)} : tPut (kP z) (ps.map kP) = (addP z ps).map kP := by
  unfold tPut addP
  rw [hasT_pairs]
  by_cases h : z ∈ ps
  · simp [h]
  · simp [h]
theorem yPut_pairs {z : Int × Int} {ps : List (Int × Int)} : yPut (kP z) (.bl true) (ps.map kP) (ps.map fun _ => .bl true) = (addP z ps).map fun _ => .bl true := by
  unfold yPut addP
  rw [hasT_pairs]
  by_cases h : z ∈ ps
  · have : ∀ (ps : List (Int × Int)), ((ps.map kP).zip (ps.map fun _ => D.bl true)).map (fun w => if w.1 = kP z then D.bl true else w.2) = ps.map fun _ => .bl true := by
      intro ps
      induction ps with
      | nil => rfl
      | cons a ps ih => simp only [List.map_cons, List.zip_cons_cons, ih, ite_self]
    simp only [h, decide_true, if_true]
    exact this ps
  · simp [h]
theorem sum_one : ∀ l : List Str, (∀ y, y ∈ l → y = cR ∨ y = cB) → (l.map (·.length)).sum = l.length
  | [], _ => rfl
  | y :: l, h => by
    have e : y.length = 1 := by rcases h y (List.mem_cons_self ..) with rfl | rfl <;> rfl
    rw [List.map_cons, List.sum_cons, e, sum_one l fun z hz => h z (List.mem_cons_of_mem _ hz), List.length_cons]
    omega
theorem signs_e {i v w : Nat} {n k : Nat} {c : Int} {x : Cell} {C1 : Store} {Γ : Slots} {Q : D → Store → Prop} (hk : C1[k]? = some x) (hx : Bag c x) (hv : (wipe3 Γ [w])[i]? = some (some (.ptr k))) (hiw : i ≠ w) (hn : Γ[v]? = some (some (.int (n : Nat)))) (hn24 : n ≤ 24) (hc : c < 10 ^ 5)
    (q : ∀ (st : Str) (y : Cell), st.length = n → (∀ c, c ∈ st.cps.toList → c = 82 ∨ c = 66) → Bag (c + n) y → Q (.str st) (C1.set k y)) :
    eM1 oJoin (eC (.str "")) (eFrz (fLc [w] (iRange1 (aCons (eVar v) aNil)) (gvName w) bYes (eBin oIxS (eC (.str "RB")) (eCallK 1 kf1 P_Lw_draw (aCons (eVar i) (aCons (eC (.int 2)) aNil)))))) Γ C1 Q := by
  have hz := sizeL
  refine ⟨⟨_, rfl⟩, _, hn, n, rfl, by omega, by omega, ?_⟩
  have hset : ∀ (y z : Cell), (C1.set k y).set k z = C1.set k z := fun y z => by rw [List.set_set]
  have hkl : k < C1.length := (List.getElem?_eq_some_iff.mp hk).1
  have hself : C1.set k x = C1 := by
    obtain ⟨_, e⟩ := List.getElem?_eq_some_iff.mp hk
    rw [← e]
    exact List.set_getElem_self hkl
  refine lcW_run (fun ds acc C => ∃ (ss : List Str) (y : Cell), ss.length + ds.length = n ∧ acc = ss.map .str ∧ C = C1.set k y ∧ Bag (c + ss.length) y ∧ ∀ s, s ∈ ss → s = cR ∨ s = cB) ?step ?stop _ _ _ ⟨[], x, by rw [rg_upto]; simp [upto], rfl, hself.symm, by simpa using hx, fun s hs => by simp at hs⟩
  case step =>
    rintro d ds acc C ⟨ss, y, hl, rfl, rfl, hy, hs⟩ R hR
    simp only [List.length_cons] at hl
    rw [u_gvName, u_bYes, if_pos rfl, u_eBin, u_eC]
    refine draw_e (k := k) (m := 2) (x := y) (by rw [List.getElem?_set_self hkl]) hy (by rw [List.getElem?_set_ne (Ne.symm hiw)]; exact hv) (fun R h => h) (by decide) (by decide) (by omega) fun r y2 h0 h1 hy2 => ?_
    obtain ⟨cc, hcc, hcs⟩ := RB_at h0 h1
    refine ⟨_, _, cc, rfl, rfl, by rw [RB_len, hz]; decide, hcc, ?_⟩
    rw [hset]
    refine ⟨by rw [hz, List.length_map]; omega, fun k hk => by simp at hk, hR _ _ ⟨ss ++ [⟨#[cc]⟩], y2, by simp; omega, by simp, rfl, by simp only [List.length_append, List.length_singleton]; exact hy2.le (by omega), fun s hs' => ?_⟩⟩
    rcases List.mem_append.mp hs' with h | h
    · exact hs s h
    · rw [List.mem_singleton.mp h]; exact hcs
  case stop =>
    rintro acc C ⟨ss, y, hl, rfl, rfl, hy, hs⟩
    simp only [List.length_nil, Nat.add_zero] at hl
    obtain ⟨jl, jc⟩ := join_signs ss hs
    refine ⟨Str.ofString "", _, ss, rfl, rfl, rfl, ?_, q _ _ (by rw [jl, hl]) jc (by rw [← hl]; exact hy)⟩
    rw [sum_one ss hs]
    have e0 : (Str.ofString "").length = 0 := by decide +kernel
    rw [e0]
    omega
end PN
end L3
namespace L3
namespace PN
open PySem PySem.Spec PyProof.Rows L2
theorem oIn_le {n : Nat} : n ≤ 24 → n ≤ sizeLine := fun h => by rw [sizeL]; omega
theorem fin_pil' {n : Nat} {C : Store} {f st : Str} {rs : List (Int × Int)} : fin n C (pil false f st rs) = pil false f st rs := by
  have h := np_pil (f := f) (st := st) (rs := rs)
  simp only [Bool.and_eq_true] at h
  exact mapW_np.1 _ h.2
theorem pil_of {n : Nat} {f st : Str} {qs : List (Int × Int)} {ord : List Int} {ps : List (Int × Int)} (hf : f = cR ∨ f = cB) (h1 : 1 ≤ n) (hn : n ≤ 24) (hl : st.length = n) (hs : ∀ c, c ∈ st.cps.toList → c = 82 ∨ c = 66) (ho : ord.Perm (upto n)) (nd : ps.Nodup) (hps : ps.length ≤ 60) (ha : Along ord ps)
    (hp : qs.Perm ps) (hsr : qs.Pairwise fun x y => SrtO.lexB y x = false) : Pil f st qs := by
  obtain ⟨r1, r2⟩ := along_ok (n := n) ho (hp.nodup_iff.mpr nd) (by rw [hp.length_eq]; exact hps) (fun z hz => ha z (hp.mem_iff.mp hz)) hsr
  rw [← hl] at r1
  exact ⟨hf, by omega, by omega, hs, r1, r2⟩
def P_Lw_pile : PV := fun ds C Q => ∃ (t r c : Int) (x : Cell), ds = [.ptr 0, .int t, .int r] ∧ C = [x] ∧ Bag c x ∧ c < 10 ^ 4 ∧ 1 ≤ t ∧ t ≤ 24 ∧ 0 ≤ r ∧ r ≤ 60 ∧
  ∀ f st rs c' y, Pil f st rs → (st.length : Int) ≤ t → Bag c' y → c' ≤ c + 200 → Q (pil false f st rs) [y]
theorem v_Lw_pile (ds : List D) (C : Store) (Q3 : D → Store → Prop) (h : P_Lw_pile ds C Q3) (hC : C.length = 1) : T_Lw_pile P_Lw_draw (enF 1 Q3) (start3 N_Lw_pile ds) C := by
  obtain ⟨t, r, c, x, rfl, rfl, hx, hc, ht0, ht1, hr0, hr1, q⟩ := h
  have hz := sizeL
  show sSeq (sAsg (eBin oAdd (eC (.int 1)) (eCallK 1 kf1 P_Lw_draw (aCons (eVar 0) (aCons (eVar 1) aNil)))) (gvName 3)) _ _ _ _
  rw [u_sSeq, u_sAsg, u_eBin, u_eC]
  refine draw_e (k := 0) (m := t) rfl hx rfl (fun R h => ⟨_, rfl, h⟩) (by omega) (by omega) (by omega) fun m1 y1 hm0 hm1 hy1 => ?_
  obtain ⟨m, rfl⟩ := Int.eq_ofNat_of_zero_le hm0
  refine ⟨_, _, rfl, rfl, ?_⟩
  obtain ⟨n, en⟩ : ∃ n : Nat, n = m + 1 := ⟨_, rfl⟩
  show gvName 3 (D.int ((1 : Int) + (m : Nat))) _ _ _
  rw [show (1 : Int) + (m : Nat) = (n : Nat) by omega]
  have hn1 : 1 ≤ n := by omega
  have hn24 : n ≤ 24 := by omega
  rw [u_gvName]
  dsimp only
  rw [u_sSeq, u_sAsg]
  refine signs_e (k := 0) (i := 0) (v := 3) (n := n) (x := y1) rfl hy1 rfl (by decide) rfl hn24 (by omega) fun st y2 hst hsg hy2 => ?_
  refine ⟨_, rfl, n, rfl, by omega, by omega, ?_⟩
  rw [rg_upto]
  refine ⟨_, rfl, n, rfl, by omega, by omega, ?_⟩
  refine lcW_run (fun ds acc C => ∃ (as L : List Int) (y : Cell) (c' : Int), ds.length = L.length ∧ acc = as.map .int ∧ C = [y, .lst (L.map .int)] ∧ (as ++ L).Perm (upto n) ∧ Bag c' y ∧ c' = c + 1 + n + as.length) ?step ?stop _ _ _ ⟨[], upto n, y2, c + 1 + n, by rw [rg_upto]; simp, rfl, rfl, List.Perm.refl _, hy2, by simp⟩
  case step =>
    rintro d ds acc C ⟨as, L, y, c', hl, rfl, rfl, hp, hy, hc'⟩ R hR
    have hpl := hp.length_eq
    simp [upto] at hpl
    simp only [List.length_cons] at hl
    rw [u_gvName, u_bYes, if_pos rfl, u_eMl]
    refine ⟨_, rfl, L.map .int, rfl, ?_⟩
    rw [u_aCons]
    refine draw_e (k := 0) (m := (L.length : Nat)) (x := y) rfl hy rfl (fun R h => ⟨_, rfl, _, _, rfl, rfl, by rw [List.length_map]; exact h⟩) (by omega) (by omega) (by omega) fun r y2 h0 h1 hy2 => ?_
    obtain ⟨j, rfl⟩ := Int.eq_ofNat_of_zero_le h0
    have hj : j < L.length := by omega
    refine ⟨1, L.map .int, (j : Nat), j, .int L[j], rfl, rfl, rfl, by omega, by omega, by rw [List.length_map]; exact seq_ix h0 h1, by rw [List.getElem?_map, List.getElem?_eq_getElem hj]; rfl, by simp; omega, fun k hk => by simp at hk, ?_⟩
    refine hR _ _ ⟨as ++ [L[j]], L.eraseIdx j, y2, c' + 1, by rw [List.length_eraseIdx_of_lt hj]; omega, by simp, ?_, ?_, hy2, by simp; omega⟩
    · show [y2, Cell.lst ((L.map D.int).eraseIdx j)] = _
      rw [er_map]
    · refine List.Perm.trans ?_ hp
      rw [List.append_assoc]
      refine List.Perm.append_left as ?_
      rw [List.eraseIdx_eq_take_drop_succ]
      show (L[j] :: (L.take j ++ L.drop (j + 1))).Perm L
      refine List.perm_middle.symm.trans ?_
      rw [← List.drop_eq_getElem_cons hj, List.take_append_drop]
  case stop =>
    rintro acc C ⟨as, L, y, c', hl, rfl, rfl, hp, hy, hc'⟩
    have hL : L = [] := List.length_eq_zero_iff.mp hl.symm
    subst hL
    rw [List.append_nil] at hp
    have al : as.length = n := by rw [hp.length_eq]; simp [upto]
    have aml : (as.map D.int).length = n := by rw [List.length_map, al]
    have at_get : ∀ j : Nat, j < n → ∃ v : Int, as[j]? = some v ∧ atI (as.map D.int) (j : Int) = some (.int v) := fun j hj => by
      refine ⟨as[j]'(by omega), List.getElem?_eq_getElem _, ?_⟩
      unfold atI
      rw [aml, ix_nat hj]
      show (as.map D.int)[j]? = _
      rw [List.getElem?_map, List.getElem?_eq_getElem (by omega)]
      rfl
    show sSeq (sAsg (eCell fDt0) (gvName 9)) (sSeq (sFor (iRange1 (aCons (eCallK 1 kf1 P_Lw_draw (aCons (eVar 0) (aCons (eBin oAdd (eVar 2) (eC (.int 1))) aNil))) aNil)) _ _) _) _ _ _
    rw [u_sSeq, u_sAsg]
    show sSeq (sFor (iRange1 (aCons (eCallK 1 kf1 P_Lw_draw (aCons (eVar 0) (aCons (eBin oAdd (eVar 2) (eC (.int 1))) aNil))) aNil)) _ _) _ _ _ _
    rw [u_sSeq]
    unfold sFor iRange1
    rw [u_aCons]
    refine draw_e (k := 0) (m := r + 1) (x := y) rfl hy rfl (fun R h => ⟨_, rfl, _, _, rfl, rfl, h⟩) (by omega) (by omega) (by omega) fun cnt y3 hc0 hc1 hy3 => ?_
    refine ⟨cnt, rfl, by omega, by omega, rfl, np_rg' 0 _, ?_⟩
    refine forW_run (fun ds Γ C => ∃ (k : Nat) (ps : List (Int × Int)) (y : Cell) (c2 : Int), k + ds.length = cnt.toNat ∧ C = [y, .lst [], .dt (ps.map kP) (ps.map fun _ => .bl true)] ∧ Bag c2 y ∧ c2 ≤ c' + 1 + 2 * k ∧ ps.Nodup ∧ ps.length ≤ k ∧ Along as ps ∧
      ∃ a b e g, Γ = [some (.ptr 0), some (.int t), some (.int r), some (.int (n : Nat)), some (.str st), a, some (.ptr 1), some (.lst false (as.map .int)), b, some (.ptr 2), e, g]) ?step2 ?stop2 _ _ _ ⟨0, [], y3, c' + 1, by rw [rg_len']; simp, rfl, hy3, by omega, List.nodup_nil, by simp, fun z h => by simp at h, _, _, _, _, rfl⟩
    case step2 =>
      rintro d ds Γ C ⟨k, ps, y, c2, hk, rfl, hy, hc2, nd, hpl, hal, a, b, e, g, rfl⟩ R hR
      simp only [List.length_cons] at hk
      rw [u_gvName, u_sSeq, u_sPar, u_aCons]
      refine draw_e (k := 0) (m := (n : Nat)) (x := y) rfl hy rfl (fun R h => ⟨_, rfl, h⟩) (by omega) (by omega) (by omega) fun r1 y4 ha0 ha1 hy4 => ?_
      rw [u_aCons]
      refine draw_e (k := 0) (m := (n : Nat)) (x := y4) rfl hy4 rfl (fun R h => ⟨_, rfl, h⟩) (by omega) (by omega) (by omega) fun r2 y5 hb0 hb1 hy5 => ?_
      refine ⟨_, _, rfl, ?_⟩
      obtain ⟨an, rfl⟩ := Int.eq_ofNat_of_zero_le ha0
      obtain ⟨bn, rfl⟩ := Int.eq_ofNat_of_zero_le hb0
      refine ⟨_, rfl, _, rfl, _, rfl, ?_⟩
      by_cases hab : an = bn
      · refine goF (by simp [hab]) ?_
        exact hR _ _ ⟨k + 1, ps, y5, _, by omega, rfl, hy5, by omega, nd, by omega, hal, _, _, _, _, rfl⟩
      · refine goT (by simp; omega) ?_
        obtain ⟨v1, e1, e2⟩ := at_get (min an bn) (by omega)
        obtain ⟨v2, e3, e4⟩ := at_get (max an bn) (by omega)
        have em : min (an : Int) (bn : Int) = ((min an bn : Nat) : Int) := by omega
        have eM : max (an : Int) (bn : Int) = ((max an bn : Nat) : Int) := by omega
        refine ⟨_, rfl, _, rfl, _, rfl, _, rfl, _, _, rfl, _, _, _, rfl, rfl, (by rw [em]; exact e2), _, rfl, _, rfl, _, rfl, _, _, rfl, _, _, _, rfl, rfl, (by rw [eM]; exact e4), by rw [hz]; show 2 ≤ 16777216; decide, ?_⟩
        refine ⟨2, ps.map kP, ps.map fun _ => .bl true, kP (v1, v2), rfl, rfl, rfl, by rw [List.length_map, hz]; omega, ?_⟩
        rw [tPut_pairs, yPut_pairs]
        refine hR _ _ ⟨k + 1, addP (v1, v2) ps, y5, _, by omega, rfl, hy5, by omega, ?_, ?_, ?_, _, _, _, _, rfl⟩
        · unfold addP
          by_cases hm : (v1, v2) ∈ ps
          · rw [if_pos hm]; exact nd
          · rw [if_neg hm]
            refine List.nodup_append.mpr ⟨nd, by simp, fun a ha b hb e => ?_⟩
            simp at hb
            subst e hb
            exact hm ha
        · unfold addP
          split
          · omega
          · rw [List.length_append, List.length_singleton]
            omega
        · intro z hz'
          unfold addP at hz'
          split at hz'
          · exact hal z hz'
          · rcases List.mem_append.mp hz' with h | h
            · exact hal z h
            · simp at h
              subst h
              exact ⟨min an bn, max an bn, by omega, e1, e3⟩
    case stop2 =>
      rintro Γ C ⟨k, ps, y, c2, hk, rfl, hy, hc2, nd, hpl, hal, a, b, e, g, rfl⟩
      simp only [List.length_nil, Nat.add_zero] at hk
      show sRet (eTup (aCons (eBin oIxS (eC (.str "RB")) (eCallK 1 kf1 P_Lw_draw (aCons (eVar 0) (aCons (eC (.int 2)) aNil)))) (aCons (eVar 4) (aCons (eFrz (fCB nSortT (aCons (eVar 9) aNil))) aNil)))) _ _ _
      rw [u_sRet, u_eTup, u_aCons, u_eBin, u_eC]
      refine draw_e (k := 0) (m := 2) (x := y) rfl hy rfl (fun R h => h) (by decide) (by decide) (by omega) fun rf y6 hf0 hf1 hy6 => ?_
      obtain ⟨cc, hcc, hcs⟩ := RB_at hf0 hf1
      refine ⟨_, _, cc, rfl, rfl, by rw [RB_len, hz]; decide, hcc, ?_⟩
      refine ⟨_, rfl, _, rfl, _, ps, _, rfl, rfl, fun qs hq hs => ⟨by rw [hz]; show 3 ≤ 16777216; decide, ?_⟩⟩
      have hp' := pil_of hcs hn1 hn24 hst hsg hp nd (by omega) hal hq hs
      obtain ⟨ja, jb, jk, rfl, hj⟩ := hy6
      show Q3 (fin 1 _ (pil false ⟨#[cc]⟩ st qs)) [Cell.lst [.int ja, .int jb, .int jk]]
      rw [fin_pil']
      exact q _ _ _ (c2 + 1) _ hp' (by omega) ⟨ja, jb, jk, rfl, hj⟩ (by omega)
end PN
end L3
namespace L3
namespace PN
open PySem PySem.Spec PyProof.Rows L2
def P_Lw_base : PV := P_base_of
end PN
end L3
namespace L3
namespace PN
open PySem PySem.Spec PyProof.Rows L2
theorem range_drop {n k : Nat} {it : Nat → D} (h : k < n) : ((List.range n).drop k).map it = it k :: ((List.range n).drop (k + 1)).map it := by
  rw [List.drop_eq_getElem_cons (by simpa using h)]
  simp
theorem lc_go {G : GV} {B : BV} {E : EV} {Γ : Slots} {ok : Store → Prop} {Q : Cell → Store → Prop} {C : Store} {n : Nat} (it : Nat → D) (I : Nat → List D → Store → Prop) (h0 : I 0 [] C)
    (step : ∀ k acc C, k < n → I k acc C → ∀ R : List D → Store → Prop, (∀ acc' C', I (k + 1) acc' C' → R acc' C') →
      G (it k) Γ C fun Γ1 C1 => B Γ1 C1 fun b C2 => if b = true then E Γ1 C2 fun y C3 => acc.length < sizeLine ∧ ok C3 ∧ R (acc ++ [y]) C3 else ok C2 ∧ R acc C2)
    (stop : ∀ acc C, I n acc C → Q (.lst acc) C) : lcW G B E Γ ok Q ((List.range n).map it) [] C := by
  refine lcW_run (fun ds acc C => ∃ k, k ≤ n ∧ ds = ((List.range n).drop k).map it ∧ I k acc C) (fun d ds acc C h R hR => ?_) (fun acc C h => ?_) _ _ _ ⟨0, Nat.zero_le _, by simp, h0⟩
  · obtain ⟨k, hk, e, i⟩ := h
    by_cases hkn : k < n
    · rw [range_drop hkn, List.cons.injEq] at e
      obtain ⟨rfl, rfl⟩ := e
      exact step k acc C hkn i R fun acc' C' i' => hR _ _ ⟨k + 1, hkn, rfl, i'⟩
    · have : k = n := by omega
      subst this
      rw [List.drop_eq_nil_of_le (by simp)] at e
      cases e
  · obtain ⟨k, hk, e, i⟩ := h
    by_cases hkn : k < n
    · rw [range_drop hkn] at e
      cases e
    · have : k = n := by omega
      subst this
      exact stop acc C i
theorem lc_rowsF {G : GV} {B : BV} {E : EV} {Γ : Slots} {ok : Store → Prop} {Q : Cell → Store → Prop} {C : Store} {n : Nat} (it out : Nat → D) (t : Nat → Bool) (hok : ok C) (hn : n ≤ sizeLine)
    (h : ∀ j, j < n → ∀ R : D → Store → Prop, ∀ R' : Store → Prop, (t j = true → R (out j) C) → (t j = false → R' C) → G (it j) Γ C fun Γ1 C1 => B Γ1 C1 fun b C2 => if b = true then E Γ1 C2 R else R' C2) (q : Q (.lst (((List.range n).filter t).map out)) C) : lcW G B E Γ ok Q ((List.range n).map it) [] C := by
  refine lc_go it (fun k acc C' => C' = C ∧ acc = ((List.range k).filter t).map out) ⟨rfl, rfl⟩ (fun k acc C' hk ⟨e1, e2⟩ R hR => ?_) (fun acc C' ⟨e1, e2⟩ => ?_)
  · subst e1 e2
    refine h k hk _ _ (fun ht => ⟨?_, hok, hR _ _ ⟨rfl, ?_⟩⟩) fun ht => ⟨hok, hR _ _ ⟨rfl, ?_⟩⟩
    · have := List.length_filter_le t (List.range k)
      simp at this ⊢
      omega
    · rw [List.range_succ, List.filter_append, List.map_append]
      simp [ht]
    · rw [List.range_succ, List.filter_append, List.map_append]
      simp [ht]
  · subst e1 e2
    exact q
theorem rgI_range (n : Nat) : rgI 0 ((n : Int)).toNat = (List.range n).map fun j : Nat => D.int (j : Nat) := by
  rw [rg_upto]
  unfold upto
  rw [List.map_map]
  rfl
theorem zip2_wL (n : Nat) (v u : Nat → Int) : zipD (wL n v) (wL n u) = (List.range n).map fun j => .tup [.int (v j), .int (u j)] := zip_wL _ v u
theorem b01 (f st : Str) (j : Nat) : bsOf f st j = 0 ∨ bsOf f st j = 1 := by
  have := neq01 (sg st j) (f0 f)
  have e : bsOf f st j = neq (sg st j) (f0 f) := rfl
  omega
theorem base_e {f st : Str} {rs : List (Int × Int)} {o : Bool} {C : Store} {Γ : Slots} {a b j : Nat} {Q : D → Store → Prop} (hp : Pil f st rs) (h0 : Γ[a]? = some (some (pil o f st rs))) (h1 : Γ[b]? = some (some (.int (j : Nat)))) (hj : j < st.length) (q : Q (.int (bsOf f st j)) C) :
    eCall P_Lw_base (aCons (eVar a) (aCons (eVar b) aNil)) Γ C Q :=
  ⟨_, h0, _, h1, true, f, st, rs, j, by rw [views_pil, views_int, views_nil], hp, hj, rfl, q⟩
def P_Lw_early : PV := fun ds C Q => ∃ (o : Bool) (f st : Str) (rs : List (Int × Int)), ds = [pil o f st rs] ∧ Pil f st rs ∧ ∀ v, PFix f st rs v → Q (.lst false (wL st.length v)) C
def P_Lw_late : PV := fun ds C Q => ∃ (o : Bool) (f st : Str) (rs : List (Int × Int)) (t : Int), ds = [pil o f st rs, .int t] ∧ Pil f st rs ∧ ∀ v u, PFix f st rs v → OFix st rs u → Q (.lst false (wL st.length (late t v u))) C
def P_Lw_fewest : PV := P_fewest
def P_Lw_most : PV := fun ds C Q => ∃ (o : Bool) (f st : Str) (rs : List (Int × Int)) (c : Int) (x : Cell), ds = [.ptr 0, pil o f st rs] ∧ C = [x] ∧ Bag c x ∧ c < 10 ^ 5 ∧ Pil f st rs ∧ ∀ t y, Most f st rs t → (∃ v m, PFix f st rs v ∧ IsMax st.length v m ∧ m ≤ t) → Bag (c + 3) y → Q (.int t) [y]
theorem most_of {f st : Str} {rs : List (Int × Int)} (hp : Pil f st rs) {a : Int} (h0 : 0 ≤ a) (h1 : a ≤ 10 ^ 29) {v : Nat → Int} {m : Int} (V : PFix f st rs v) (M : IsMax st.length v m) : Most f st rs (m + a) := by
  obtain ⟨m0, mn⟩ := max_n hp V M
  have := hp.top
  exact Most.of hp V M (by omega) (by omega)
theorem finI {C : Store} {r : Int} : fin 1 C (.int r) = .int r := rfl
theorem v_Lw_most (ds : List D) (C : Store) (Q3 : D → Store → Prop) (h : P_Lw_most ds C Q3) (hC : C.length = 1) : T_Lw_most P_Lw_fewest P_Lw_draw (enF 1 Q3) (start3 N_Lw_most ds) C := by
  obtain ⟨o, f, st, rs, c, x, rfl, rfl, hx, hc, hp, q⟩ := h
  have hz := sizeL
  refine ⟨_, rfl, true, f, st, rs, views_pil1, hp, fun v m V M => ⟨rfl, ?_⟩⟩
  dsimp only
  rw [u_gvName]
  rw [u_sRet, u_eBin]
  refine ⟨_, rfl, ?_⟩
  dsimp only
  rw [u_eBin, u_eFrz, u_fLst, u_aCons, u_eC, u_aCons, u_eC, u_aCons, u_eC, u_aCons]
  refine draw_e (k := 0) (m := 7) rfl hx rfl (fun R h => h) (by decide) (by decide) (by omega) fun r7 y1 h70 h71 hy1 => ?_
  rw [u_aCons]
  refine draw_e (k := 0) (m := 10 ^ (29 : Int).toNat) (x := y1) rfl hy1 rfl (fun R h => ⟨_, _, rfl, rfl, cpow10 29 (by decide), h⟩) (by decide) (by decide) (by omega) fun r29 y2 h90 h91 hy2 => ?_
  have e29 : (10 : Int) ^ (29 : Int).toNat = 10 ^ 29 := by decide
  rw [e29] at h91
  refine ⟨by rw [hz]; show 5 ≤ 16777216; decide, ?_⟩
  refine draw_e (k := 0) (m := 5) (x := y2) rfl hy2 rfl (fun R h => h) (by decide) (by decide) (by omega) fun r5 y3 h50 h51 hy3 => ?_
  obtain ⟨w, hw, hw0, hw1⟩ : ∃ w : Int, atI [D.int 0, D.int 1, D.int 2, D.int r7, D.int r29] r5 = some (.int w) ∧ 0 ≤ w ∧ w ≤ 10 ^ 29 := by
    have : r5 = 0 ∨ r5 = 1 ∨ r5 = 2 ∨ r5 = 3 ∨ r5 = 4 := by omega
    rcases this with rfl | rfl | rfl | rfl | rfl
    · exact ⟨0, rfl, by omega, by omega⟩
    · exact ⟨1, rfl, by omega, by omega⟩
    · exact ⟨2, rfl, by omega, by omega⟩
    · exact ⟨r7, rfl, by omega, by omega⟩
    · exact ⟨r29, rfl, by omega, by omega⟩
  refine ⟨_, _, _, rfl, rfl, hw, _, _, rfl, rfl, ?_⟩
  show Q3 (fin 1 _ (.int (m + w))) (finS 1 [y3])
  rw [finI, hy3.finS]
  exact q _ _ (most_of hp hw0 hw1 V M) ⟨v, m, V, M, by omega⟩ (hy3.le (by omega))
end PN
end L3
namespace L3
namespace PN
open PySem PySem.Spec PyProof.Rows L2
section
variable {α : Type} {G : GV} {B : BV} {E : EV} {Γ : Slots} {ok : Store → Prop} {Q : Cell → Store → Prop} {C : Store}
theorem lc_of (l : List α) (it out : α → D) (hok : ok C) (hn : l.length ≤ sizeLine)
    (h : ∀ a, a ∈ l → ∀ R : D → Store → Prop, R (out a) C → G (it a) Γ C fun Γ1 C1 => E Γ1 C1 R) (q : Q (.lst (l.map out)) C) : lcW G bYes E Γ ok Q (l.map it) [] C := by
  refine lcW_run (fun ds acc C' => C' = C ∧ ∃ p r, l = p ++ r ∧ ds = r.map it ∧ acc = p.map out) (fun d ds acc C' ⟨e, p, r, e1, e2, e3⟩ R hR => ?_) (fun acc C' ⟨e, p, r, e1, e2, e3⟩ => ?_) _ _ _ ⟨rfl, [], l, rfl, rfl, rfl⟩
  · subst e e3
    cases r with
    | nil => cases e2
    | cons a r =>
      rw [List.map_cons, List.cons.injEq] at e2
      obtain ⟨rfl, rfl⟩ := e2
      refine h a (by rw [e1]; simp) _ ⟨?_, hok, hR _ _ ⟨rfl, p ++ [a], r, by rw [e1]; simp, rfl, by simp⟩⟩
      rw [e1] at hn
      simp at hn ⊢
      omega
  · subst e e3
    cases r with
    | nil =>
      rw [List.append_nil] at e1
      subst e1
      exact q
    | cons a r => cases e2
theorem lc_ofF (l : List α) (it out : α → D) (t : α → Bool) (hok : ok C) (hn : l.length ≤ sizeLine)
    (h : ∀ a, a ∈ l → ∀ R : D → Store → Prop, ∀ R' : Store → Prop, (t a = true → R (out a) C) → (t a = false → R' C) → G (it a) Γ C fun Γ1 C1 => B Γ1 C1 fun b C2 => if b = true then E Γ1 C2 R else R' C2) (q : Q (.lst ((l.filter t).map out)) C) : lcW G B E Γ ok Q (l.map it) [] C := by
  refine lcW_run (fun ds acc C' => C' = C ∧ ∃ p r, l = p ++ r ∧ ds = r.map it ∧ acc = (p.filter t).map out) (fun d ds acc C' ⟨e, p, r, e1, e2, e3⟩ R hR => ?_) (fun acc C' ⟨e, p, r, e1, e2, e3⟩ => ?_) _ _ _ ⟨rfl, [], l, rfl, rfl, rfl⟩
  · subst e e3
    cases r with
    | nil => cases e2
    | cons a r =>
      rw [List.map_cons, List.cons.injEq] at e2
      obtain ⟨rfl, rfl⟩ := e2
      refine h a (by rw [e1]; simp) _ _ (fun ht => ⟨?_, hok, hR _ _ ⟨rfl, p ++ [a], r, by rw [e1]; simp, rfl, by simp [List.filter_append, ht]⟩⟩) fun ht => ⟨hok, hR _ _ ⟨rfl, p ++ [a], r, by rw [e1]; simp, rfl, by simp [List.filter_append, ht]⟩⟩
      have := List.length_filter_le t p
      rw [e1] at hn
      simp at hn ⊢
      omega
  · subst e e3
    cases r with
    | nil =>
      rw [List.append_nil] at e1
      subst e1
      exact q
    | cons a r => cases e2
end
structure PlanU (f st : Str) (rs : List (Int × Int)) (w : Nat → Int) : Prop where
  blk : ∀ j, j < st.length → 0 ≤ w j ∧ w j % 2 = bsOf f st j
  led : ∀ z, z ∈ rs → w z.1.toNat ≤ w z.2.toNat
theorem Plan.u {f st : Str} {rs : List (Int × Int)} {t : Int} {w : Nat → Int} (P : Plan f st rs t w) : PlanU f st rs w :=
  ⟨fun j hj => by have := P.blk j hj; have := b01 f st j; omega, P.led⟩
theorem PlanU.plan {f st : Str} {rs : List (Int × Int)} {t : Int} {w : Nat → Int} (P : PlanU f st rs w) (h : ∀ j, j < st.length → w j ≤ t) : Plan f st rs t w :=
  ⟨fun j hj => by have := P.blk j hj; have := h j hj; have := b01 f st j; omega, P.led⟩
theorem views_wL {C : Store} {o : Bool} {n : Nat} {w : Nat → Int} {ds : List D} : views [] C (.lst o (wL n w) :: ds) = .lst true (wL n w) :: views [] C ds := by
  rw [wL_ints, views_ints]
end PN
end L3
namespace L3
namespace PN
open PySem PySem.Spec PyProof.Rows L2
theorem np_w1 {n : Nat} {w : Nat → Int} : noptrs (wL n w) = true := by rw [wL_ints, noptrs_ints]
theorem np_w2 {n : Nat} {a b : Nat → Int} : (noptrs (wL n a) && noptrs (wL n b)) = true := by rw [np_w1, np_w1]; rfl
theorem fin_w {o : Bool} {n : Nat} {w : Nat → Int} {C : Store} {k : Nat} : fin k C (.lst o (wL n w)) = .lst o (wL n w) := by
  rw [wL_ints, fin_ints]
def dist (x y : Int) : Int := if x - y < 0 then - (x - y) else x - y
def dsum (n : Nat) (a b : Nat → Int) : Int := ((List.range n).map fun j => dist (a j) (b j)).sum
def far (n : Nat) (a b : Nat → Int) : Int := dsum n a b / 2
def P_far_between : PV := fun ds C Q => ∃ (o1 o2 : Bool) (n : Nat) (a b : Nat → Int), ds = [.lst o1 (wL n a), .lst o2 (wL n b)] ∧ n ≤ 24 ∧ Q (.int (far n a b)) C
theorem v_far_between (ds : List D) (C : Store) (Q3 : D → Store → Prop) (h : P_far_between ds C Q3) (hC : C.length = 0) : T_far_between (enF 0 Q3) (start3 N_far_between ds) C := by
  obtain ⟨o1, o2, n, a, b, rfl, hn, q⟩ := h
  rw [List.length_eq_zero_iff] at hC
  subst hC
  have hz := sizeL
  refine ⟨_, rfl, _, rfl, _, _, _, _, rfl, rfl, rfl, np_w2, ?_⟩
  rw [zip2_wL]
  refine lc_of (List.range n) _ (fun j => .int (dist (a j) (b j))) (fun _ h => by simp [srcOf] at h) (by simp; omega) (fun j hj R hR => ?_) ?_
  · exact ⟨_, rfl, rfl, _, _, rfl, _, _, rfl, rfl, _, rfl, _, rfl, _, _, rfl, rfl, _, rfl, hR⟩
  refine ⟨_, (List.range n).map fun j => dist (a j) (b j), rfl, by simp [lstOf, Cell.frz], _, _, rfl, rfl, ⟨by decide, by decide⟩, ?_⟩
  exact q
def P_Lw_far : PV := P_far_between
theorem v_Lw_far (ds : List D) (C : Store) (Q3 : D → Store → Prop) (h : P_Lw_far ds C Q3) (hC : C.length = 0) : T_Lw_far (enF 0 Q3) (start3 N_Lw_far ds) C := v_far_between ds C Q3 h hC
end PN
end L3
namespace L3
namespace PN
open PySem PySem.Spec PyProof.Rows L2
def P_Lw_cells : PV := fun ds C Q => ∃ (o : Bool) (ns : List Int), ds = [.lst o (ns.map .int)] ∧ ns.length ≤ 63 ∧ ∀ ms : List Int, ms.length ≤ 64 → Q (.lst false (ms.map .int)) C
theorem mono_pile {ds : List D} {C : Store} (R R' : D → Store → Prop) (h : ∀ d Cc, R d Cc → R' d Cc) : P_Lw_pile ds C R → P_Lw_pile ds C R' := fun ⟨t, r, c, x, e1, e2, e3, e4, e5, e6, e7, e8, q⟩ => ⟨t, r, c, x, e1, e2, e3, e4, e5, e6, e7, e8, fun f st rs c' y a b d e => h _ _ (q f st rs c' y a b d e)⟩
end PN
end L3
namespace L3
namespace PN
open PySem PySem.Spec PyProof.Rows L2
def P_Lw_led : PV := fun ds C Q => ∃ (o o' : Bool) (f st : Str) (rs : List (Int × Int)) (b : Nat → Int) (t : Int), ds = [pil o f st rs, .lst o' (wL st.length b), .int t] ∧ Pil f st rs ∧ (∃ v m, PFix f st rs v ∧ IsMax st.length v m ∧ m ≤ t) ∧ ∀ w, Plan f st rs t w → Q (.lst false (wL st.length w)) C
def P_Lw_plan : PV := fun ds C Q => ∃ (o : Bool) (f st : Str) (rs : List (Int × Int)) (t c : Int) (x : Cell), ds = [.ptr 0, pil o f st rs, .int t] ∧ C = [x] ∧ Bag c x ∧ c < 10 ^ 5 ∧ Pil f st rs ∧ t ≤ 10 ^ 30 ∧ (∃ v m, PFix f st rs v ∧ IsMax st.length v m ∧ m ≤ t) ∧
  ∀ w y, Plan f st rs t w → Bag (c + 25) y → Q (.lst false (wL st.length w)) [y]
theorem v_Lw_plan (ds : List D) (C : Store) (Q3 : D → Store → Prop) (h : P_Lw_plan ds C Q3) (hC : C.length = 1) : T_Lw_plan P_Lw_draw P_Lw_early P_Lw_late P_Lw_led (enF 1 Q3) (start3 N_Lw_plan ds) C := by
  obtain ⟨o, f, st, rs, t, c, x, rfl, rfl, hx, hc, hp, ht30, ⟨v0, m, hv0, M, hm⟩, q⟩ := h
  have hz := sizeL
  have h24 := hp.top
  have mx : ∀ v, PFix f st rs v → IsMax st.length v m := fun v hv => by
    have e := hp.peq hv0 hv
    obtain ⟨⟨i, hi, ei⟩, hle⟩ := M
    exact ⟨⟨i, hi, by rw [← e i hi]; exact ei⟩, fun j hj => by rw [← e j hj]; exact hle j hj⟩
  have ret : ∀ w y c', Plan f st rs t w → Bag c' y → c' ≤ c + 25 → (enF 1 Q3).rt (.lst false (wL st.length w)) [y] := fun w y c' P hy hc' => by
    show Q3 (fin 1 _ (.lst false (wL st.length w))) (finS 1 [y])
    rw [fin_w, hy.finS]
    exact q w y P (hy.le hc')
  show sSeq (sAsg (eCallK 1 kf1 P_Lw_draw (aCons (eVar 0) (aCons (eC (.int 4)) aNil))) (gvName 3)) _ _ _ _
  rw [u_sSeq, u_sAsg]
  refine draw_e (k := 0) (m := 4) rfl hx rfl (fun R h => h) (by decide) (by decide) (by omega) fun kind y1 h10 h11 hy1 => ?_
  dsimp only
  rw [u_gvName]
  refine ⟨_, rfl, _, rfl, ?_⟩
  by_cases hk0 : kind = 0
  · refine goT (by rw [eqN, decide_eq_true hk0]) ?_
    refine ⟨_, rfl, true, f, st, rs, views_pil1, hp, fun v hv => ⟨np_wL, ?_⟩⟩
    exact ret v y1 _ (plan_v hp hv (mx v hv) hm) hy1 (by omega)
  refine goF (by rw [eqN, decide_eq_false hk0]) ?_
  refine ⟨_, rfl, _, rfl, ?_⟩
  by_cases hk1 : kind = 1
  · refine goT (by rw [eqN, decide_eq_true hk1]) ?_
    refine ⟨_, rfl, _, rfl, true, f, st, rs, t, by rw [views_pil, views_int, views_nil], hp, fun v u hv hu => ⟨np_wL, ?_⟩⟩
    exact ret _ y1 _ (plan_late hp hv hu (mx v hv) hm) hy1 (by omega)
  refine goF (by rw [eqN, decide_eq_false hk1]) ?_
  refine ⟨_, rfl, true, f, st, rs, views_pil1, hp, fun v hv => ⟨np_wL, ?_⟩⟩
  refine ⟨_, rfl, _, rfl, true, f, st, rs, t, by rw [views_pil, views_int, views_nil], hp, fun v1 u hv1 hu => ⟨np_wL, _, _, rfl, ?_⟩⟩
  dsimp only
  rw [u_sRet, u_eCall, u_aCons]
  refine ⟨_, rfl, ?_⟩
  dsimp only
  rw [u_aCons, u_eFrz]
  refine ⟨_, rfl, _, rfl, _, _, wL st.length v, wL st.length (late t v1 u), rfl, rfl, rfl, np_w2, ?_⟩
  rw [zip2_wL]
  refine lc_go (n := st.length) _ (fun k acc C' => ∃ (b : Nat → Int) (y : Cell), acc = wL k b ∧ C' = [y] ∧ Bag (c + 1 + k) y) ⟨v, y1, rfl, rfl, by simpa using hy1⟩ (fun k acc C' hk ⟨b, y, e1, e2, hy⟩ R hR => ?_) (fun acc C' ⟨b, y, e1, e2, hy⟩ => ?_)
  · subst e1 e2
    refine ⟨_, rfl, rfl, _, _, rfl, _, _, rfl, rfl, ?_⟩
    dsimp only
    rw [u_bYes, if_pos rfl, u_eBin]
    refine ⟨_, rfl, ?_⟩
    have hle : v k ≤ late t v1 u k := by
      have e := hp.peq hv hv1 k hk
      have h1 := plan_up hp hv1 hu (plan_v hp hv1 (mx v1 hv1) hm) k hk
      omega
    have hlt : late t v1 u k ≤ t := ((plan_late hp hv1 hu (mx v1 hv1) hm).blk k hk).2.1
    have hv0' : 0 ≤ v k := by
      have := hv.low k hk
      have := b01 f st k
      omega
    refine draw_e (k := 0) (m := late t v1 u k - v k + 1) (x := y) rfl hy rfl (fun R h => ⟨_, rfl, _, rfl, _, _, rfl, rfl, _, _, rfl, rfl, h⟩) (by omega) (by omega) (by omega) fun r y2 h20 h21 hy2 => ?_
    refine ⟨_, _, rfl, rfl, by rw [wL_len]; omega, fun k hk => by simp [srcOf] at hk, hR _ _ ⟨fun j => if j = k then v k + r else b j, y2, ?_, rfl, hy2.le (by omega)⟩⟩
    unfold wL
    rw [List.range_succ, List.map_append]
    refine congr (congrArg _ (List.map_congr_left fun j hj => ?_)) ?_
    · have hjk : j < k := by simpa using hj
      show D.int (b j) = D.int (if j = k then v k + r else b j)
      rw [if_neg (by omega)]
    · simp
  · subst e1 e2
    refine ⟨_, rfl, true, true, f, st, rs, b, t, by rw [views_pil, Cell.frz, views_wL, views_int, views_nil], hp, ⟨v0, m, hv0, M, hm⟩, fun w P => ⟨np_wL, ?_⟩⟩
    exact ret w y _ P hy (by omega)
inductive Sm : Nat → D → D → Prop
  | int {k : Nat} {n : Int} : Sm k (.int n) (.int n)
  | lst {k : Nat} {o o' : Bool} {xs ys : List D} : xs.length = ys.length → ys.length ≤ 10000 → (∀ (i : Nat) (x y : D), xs[i]? = some x → ys[i]? = some y → Sm k x y) → Sm (k + 1) (.lst o xs) (.lst o' ys)
  | tup {k : Nat} {xs ys : List D} : xs.length = ys.length → ys.length ≤ 10000 → (∀ (i : Nat) (x y : D), xs[i]? = some x → ys[i]? = some y → Sm k x y) → Sm (k + 1) (.tup xs) (.tup ys)
theorem mapWs_get {h : Bool → Bool} {g : Nat → D} : ∀ {xs : List D} {i : Nat} {x : D}, (mapWs h g xs)[i]? = some x → ∃ y, xs[i]? = some y ∧ x = mapW h g y
  | [], _, _, e => by simp [mapWs] at e
  | a :: l, 0, x, e => by simp [mapWs] at e; exact ⟨a, rfl, e.symm⟩
  | a :: l, i + 1, x, e => by
    have e' : (mapWs h g l)[i]? = some x := by simpa [mapWs] using e
    simpa using mapWs_get e'
theorem mapWs_len {h : Bool → Bool} {g : Nat → D} : ∀ xs : List D, (mapWs h g xs).length = xs.length
  | [] => rfl
  | _ :: l => by simp only [mapWs, List.length_cons, mapWs_len l]
theorem Sm.view {k : Nat} {x y : D} (s : Sm k x y) {h h' : Bool → Bool} {g g' : Nat → D} : Sm k (mapW h g x) (mapW h' g' y) := by
  induction s with
  | int => exact .int
  | lst e hl _ ih =>
    refine .lst (by rw [mapWs_len, mapWs_len, e]) (by rw [mapWs_len]; exact hl) fun i x y e1 e2 => ?_
    obtain ⟨x', f1, rfl⟩ := mapWs_get e1
    obtain ⟨y', f2, rfl⟩ := mapWs_get e2
    exact ih i x' y' f1 f2
  | tup e hl _ ih =>
    refine .tup (by rw [mapWs_len, mapWs_len, e]) (by rw [mapWs_len]; exact hl) fun i x y e1 e2 => ?_
    obtain ⟨x', f1, rfl⟩ := mapWs_get e1
    obtain ⟨y', f2, rfl⟩ := mapWs_get e2
    exact ih i x' y' f1 f2
theorem Sm.up {k : Nat} {x y : D} (s : Sm k x y) : Sm (k + 1) x y := by
  induction s with
  | int => exact .int
  | lst e hl _ ih => exact .lst e hl ih
  | tup e hl _ ih => exact .tup e hl ih
theorem Sm.ints {k : Nat} {o o' : Bool} {l : List Int} (h : l.length ≤ 10000) : Sm (k + 1) (.lst o (l.map .int)) (.lst o' (l.map .int)) := .lst rfl (by simpa using h) fun i x y e1 e2 => by
  rw [e1] at e2
  cases e2
  rw [List.getElem?_map] at e1
  cases hl : l[i]? with
  | none => rw [hl] at e1; cases e1
  | some n => rw [hl] at e1; cases e1; exact .int
theorem Sm.wL {k n : Nat} {o o' : Bool} {a b : Nat → Int} (h : n ≤ 24) (e : ∀ j, j < n → a j = b j) : Sm (k + 1) (.lst o (wL n a)) (.lst o' (wL n b)) := by
  rw [wL_congr e, wL_ints]
  exact .ints (by simp; omega)
def P_sm (k : Nat) : PV := fun ds C Q => ∃ x y, ds = [x, y] ∧ Sm k x y ∧ Q (.bl true) C
end PN
end L3
namespace L3
namespace PN
open PySem PySem.Spec PyProof.Rows L2
theorem mono_most {ds : List D} {C : Store} (R R' : D → Store → Prop) (h : ∀ d Cc, R d Cc → R' d Cc) : P_Lw_most ds C R → P_Lw_most ds C R' := fun ⟨o, f, st, rs, c, x, e1, e2, e3, e4, e5, q⟩ => ⟨o, f, st, rs, c, x, e1, e2, e3, e4, e5, fun t y a b d => h _ _ (q t y a b d)⟩
theorem mono_plan {ds : List D} {C : Store} (R R' : D → Store → Prop) (h : ∀ d Cc, R d Cc → R' d Cc) : P_Lw_plan ds C R → P_Lw_plan ds C R' := fun ⟨o, f, st, rs, t, c, x, e1, e2, e3, e4, e5, e6, e7, q⟩ => ⟨o, f, st, rs, t, c, x, e1, e2, e3, e4, e5, e6, e7, fun w y a b => h _ _ (q w y a b)⟩
theorem PlanU.nn {f st : Str} {rs : List (Int × Int)} {w : Nat → Int} (P : PlanU f st rs w) {j : Nat} (hj : j < st.length) : 0 ≤ w j := (P.blk j hj).1
def P_Lw_right : PV := fun ds C Q => ∃ (ns : List Int) (x : Cell), ds = [.lst true (ns.map .int), .ptr 0] ∧ C = [x] ∧ Bag 0 x ∧ ns.length ≤ 63 ∧ ∀ y c', Bag c' y → Q (.bl true) [y]
theorem mono_right {ds : List D} {C : Store} (R R' : D → Store → Prop) (h : ∀ d Cc, R d Cc → R' d Cc) : P_Lw_right ds C R → P_Lw_right ds C R' := fun ⟨ns, x, e1, e2, e3, e4, q⟩ => ⟨ns, x, e1, e2, e3, e4, fun y c' a => h _ _ (q y c' a)⟩
theorem enum_ints (ms : List Int) : enumD 0 (ms.map .int) = (List.range ms.length).map fun i : Nat => .tup [.int (i : Nat), .int (ms.getD i 0)] := by
  apply List.ext_getElem?
  intro i
  by_cases h : i < ms.length
  · have e : (ms.map D.int)[i]? = some (.int (ms.getD i 0)) := by
      rw [List.getElem?_map, List.getElem?_eq_getElem h, List.getD_eq_getElem?_getD, List.getElem?_eq_getElem h]
      rfl
    rw [enumD_get _ 0 i e, List.getElem?_map, List.getElem?_range h, Nat.zero_add]
    rfl
  · rw [List.getElem?_eq_none (by rw [enumD_len, List.length_map]; omega), List.getElem?_eq_none (by simp; omega)]
def P_law : PV := fun ds C Q => ∃ ns : List Int, ds = [.lst true (ns.map .int)] ∧ C = [] ∧ ns.length ≤ 63 ∧ Q (.bl true) []
theorem v_law (ds : List D) (C : Store) (Q3 : D → Store → Prop) (h : P_law ds C Q3) (hC : C.length = 0) : T_law P_Lw_cells P_Lw_right P_Lw_bag (enF 0 Q3) (start3 N_law ds) C := by
  obtain ⟨ns, rfl, rfl, hl, q⟩ := h
  have hz := sizeL
  refine ⟨_, rfl, true, ns, by rw [views_ints, views_nil], hl, fun ms hm => ⟨np_ints, _, _, rfl, rfl, ?_⟩⟩
  rw [enum_ints]
  refine ⟨rfl, noptrs_map _ fun _ _ => rfl, ?_⟩
  refine forW_run (fun ds Γ C => ∃ (k : Nat), k ≤ ms.length ∧ ds = ((List.range ms.length).drop k).map (fun i : Nat => D.tup [.int (i : Nat), .int (ms.getD i 0)]) ∧ ∃ a b, Γ = [some (.lst true (ns.map .int)), a, b]) ?step ?stop _ _ _ ⟨0, Nat.zero_le _, by rw [List.drop_zero], _, _, rfl⟩
  case step =>
    rintro d ds Γ C0 ⟨k, hk, eds, a, b, rfl⟩ R hR
    by_cases hkn : k < ms.length
    · rw [range_drop hkn, List.cons.injEq] at eds
      obtain ⟨rfl, rfl⟩ := eds
      refine ⟨_, rfl, rfl, _, _, rfl, _, _, rfl, rfl, ?_⟩
      dsimp only
      rw [u_sIf, u_bNot, u_bB, u_eCallK, u_aCons]
      refine ⟨_, rfl, ?_⟩
      dsimp only
      rw [u_aCons, u_eCell]
      refine ⟨_, rfl, _, rfl, ms.getD k 0, (k : Nat), by rw [views_int, views_int, views_nil], by omega, by omega, fun xs hx hf => ⟨xs, rfl, hf, ?_⟩⟩
      have hkk : (C0 ++ [Cell.lst xs])[C0.length]? = some (.lst xs) := by simp
      dsimp only
      rw [u_aNil]
      refine callB (k := C0.length) (ds' := [.lst true (ns.map .int), .ptr 0]) rfl hkk hx (by rw [views_ints, views_p1]; rfl) ⟨ns, .lst xs, rfl, rfl, hx, hl, fun y c' hy => ⟨y, c', rfl, hy, rfl, true, rfl, goF rfl ?_⟩⟩ mono_right
      exact hR _ _ ⟨k + 1, hkn, rfl, _, _, rfl⟩
    · rw [List.drop_eq_nil_of_le (by simp; omega)] at eds
      cases eds
  case stop =>
    rintro Γ C0 ⟨k, hk, eds, a, b, rfl⟩
    show Q3 (fin 0 C0 (.bl true)) (finS 0 C0)
    rw [finS0]
    exact q
end PN
end L3
namespace L3
namespace PN
open PySem PySem.Spec PyProof.Rows L2
theorem PlanU.lo {f st : Str} {rs : List (Int × Int)} {a b : Nat → Int} (A : PlanU f st rs a) (B : PlanU f st rs b) : PlanU f st rs fun j => min (a j) (b j) :=
  ⟨fun j hj => by have := A.blk j hj; have := B.blk j hj; show 0 ≤ min (a j) (b j) ∧ min (a j) (b j) % 2 = _; omega, fun z hz => by have := A.led z hz; have := B.led z hz; show min (a z.1.toNat) (b z.1.toNat) ≤ min (a z.2.toNat) (b z.2.toNat); omega⟩
theorem PlanU.hi {f st : Str} {rs : List (Int × Int)} {a b : Nat → Int} (A : PlanU f st rs a) (B : PlanU f st rs b) : PlanU f st rs fun j => max (a j) (b j) :=
  ⟨fun j hj => by have := A.blk j hj; have := B.blk j hj; show 0 ≤ max (a j) (b j) ∧ max (a j) (b j) % 2 = _; omega, fun z hz => by have := A.led z hz; have := B.led z hz; show max (a z.1.toNat) (b z.1.toNat) ≤ max (a z.2.toNat) (b z.2.toNat); omega⟩
theorem PlanU.far {f st : Str} {rs : List (Int × Int)} {b : Nat → Int} (B : PlanU f st rs b) : PlanU f st rs fun j => b j + 10 ^ 30 :=
  ⟨fun j hj => by have := B.blk j hj; show 0 ≤ b j + 10 ^ 30 ∧ (b j + 10 ^ 30) % 2 = _; omega, fun z hz => by have := B.led z hz; show b z.1.toNat + 10 ^ 30 ≤ b z.2.toNat + 10 ^ 30; omega⟩
theorem Sm.w {n : Nat} (hn : n ≤ 24) (h h' : Bool → Bool) (g g' : Nat → D) (o o' : Bool) {w w' : Nat → Int} (e : ∀ j, j < n → w j = w' j) : Sm 1 (mapW h g (.lst o (L3.wL n w))) (mapW h' g' (.lst o' (L3.wL n w'))) := (Sm.wL hn e).view
theorem view_w {h : Bool → Bool} {C : Store} {k n : Nat} {w : Nat → Int} (hk : C[k]? = some (.lst (L3.wL n w))) : mapW h (viewG [] C 2) (.ptr k) = .lst true (L3.wL n w) := by
  rw [mapW, viewG]
  simp only [posOf, hk, L3.wL_ints, mapWs_ints]
theorem Sm.ptr {n k : Nat} {C : Store} (hn : n ≤ 24) (h h' : Bool → Bool) (g' : Nat → D) (o' : Bool) {w w' : Nat → Int} (hk : C[k]? = some (.lst (L3.wL n w))) (e : ∀ j, j < n → w j = w' j) : Sm 1 (mapW h (viewG [] C 2) (.ptr k)) (mapW h' g' (.lst o' (L3.wL n w'))) := by
  rw [view_w hk]
  exact (Sm.w hn id h' (fun _ => .bad) g' true o' e : Sm 1 (mapW id (fun _ => .bad) (.lst true (L3.wL n w))) _) |> fun s => by
    have : mapW id (fun _ => D.bad) (.lst true (L3.wL n w)) = .lst true (L3.wL n w) := by rw [L3.wL_ints, mapW, mapWs_ints]; rfl
    rwa [this] at s
theorem Sm.two {o o' : Bool} {p1 p2 q1 q2 : D} (s1 : Sm 1 p1 q1) (s2 : Sm 1 p2 q2) : Sm 2 (.lst o [p1, p2]) (.lst o' [q1, q2]) := .lst rfl (by simp) fun i x y e1 e2 => by
  have : i = 0 ∨ i = 1 := by
    have := (List.getElem?_eq_some_iff.mp e1).1
    simp at this
    omega
  rcases this with rfl | rfl
  · cases e1; cases e2; exact s1
  · cases e1; cases e2; exact s2
end PN
end L3
namespace L3
namespace PN
open PySem PySem.Spec PyProof.Rows L2
def S (n : Nat) (g : Nat → Int) : Int := ((List.range n).map g).sum
theorem S_succ {n : Nat} {g : Nat → Int} : S (n + 1) g = S n g + g n := by
  unfold S
  rw [List.range_succ, List.map_append, List.sum_append]
  simp
theorem S_congr {n : Nat} {g h : Nat → Int} (e : ∀ j, j < n → g j = h j) : S n g = S n h := by
  induction n with
  | zero => rfl
  | succ n ih => rw [S_succ, S_succ, ih fun j hj => e j (by omega), e n (by omega)]
theorem S_even {n : Nat} {g : Nat → Int} (e : ∀ j, j < n → g j % 2 = 0) : S n g % 2 = 0 := by
  induction n with
  | zero => rfl
  | succ n ih =>
    have := ih fun j hj => e j (by omega)
    have := e n (by omega)
    rw [S_succ]
    omega
theorem dist_self (x : Int) : dist x x = 0 := by unfold dist; split <;> omega
theorem far_S {n : Nat} {a b : Nat → Int} : far n a b = S n (fun j => dist (a j) (b j)) / 2 := rfl
theorem far_congr {n : Nat} {a b a' b' : Nat → Int} (h : ∀ j, j < n → a j = a' j) (h' : ∀ j, j < n → b j = b' j) : far n a b = far n a' b' := by
  rw [far_S, far_S, S_congr fun j hj => by rw [h j hj, h' j hj]]
theorem far_self {n : Nat} (a : Nat → Int) : far n a a = 0 := by
  rw [far_S, S_congr (h := fun _ => 0) fun j _ => dist_self (a j)]
  have : S n (fun _ => 0) = 0 := by
    induction n with
    | zero => rfl
    | succ n ih => rw [S_succ, ih]; rfl
  rw [this]
  rfl
theorem dist_even {f st : Str} {rs : List (Int × Int)} {a b : Nat → Int} (A : PlanU f st rs a) (B : PlanU f st rs b) : ∀ j, j < st.length → dist (a j) (b j) % 2 = 0 := fun j hj => by
  have := A.blk j hj
  have := B.blk j hj
  unfold dist
  split <;> omega
theorem far_two {f st : Str} {rs : List (Int × Int)} {a b : Nat → Int} (A : PlanU f st rs a) (B : PlanU f st rs b) : S st.length (fun j => dist (a j) (b j)) = 2 * far st.length a b := by
  have := S_even (dist_even A B)
  rw [far_S]
  omega
theorem le5 : ∀ l : List D, l.length ≤ 5 → l.length ≤ sizeLine := fun l h => by rw [sizeL]; omega
end PN
end L3
namespace L3
namespace PN
open PySem PySem.Spec PyProof.Rows L2
def mv (w : Nat → Int) (p : Nat) (b : Int) : Nat → Int := fun j => if j = p then w j + b else w j
def okz (w : Nat → Int) (p : Nat) (x : Int) (z : Int × Int) : Bool := !((decide (z.1 = (p : Int)) && decide (w z.2.toNat < x)) || (decide (z.2 = (p : Int)) && decide (x < w z.1.toNat)))
def okB (rs : List (Int × Int)) (t : Int) (w : Nat → Int) (p : Nat) (b : Int) : Bool := decide (0 ≤ w p + b) && decide (w p + b ≤ t) && rs.all (okz w p (w p + b))
theorem okB_iff {f st : Str} {rs : List (Int × Int)} (hp : Pil f st rs) {t : Int} {w : Nat → Int} (P : Plan f st rs t w) {p : Nat} (hpn : p < st.length) {b : Int} (hb : b = 2 ∨ b = -2) : okB rs t w p b = true ↔ Plan f st rs t (mv w p b) := by
  unfold okB
  simp only [Bool.and_eq_true, decide_eq_true_eq, List.all_eq_true]
  have self : mv w p b p = w p + b := if_pos rfl
  have oth : ∀ j, j ≠ p → mv w p b j = w j := fun j h => if_neg h
  constructor
  · rintro ⟨⟨h1, h2⟩, h3⟩
    refine ⟨fun j hj => ?_, fun z hz => ?_⟩
    · have hB := P.blk j hj
      by_cases e : j = p
      · subst e
        rw [self]
        have := b01 f st j
        omega
      · rw [oth j e]
        exact hB
    · obtain ⟨a1, a2, a3, a4, a5⟩ := hp.rul.inn z hz
      have h4 := h3 z hz
      have h5 := P.led z hz
      simp only [okz, Bool.not_eq_true', Bool.or_eq_false_iff, Bool.and_eq_false_iff, decide_eq_false_iff_not] at h4
      by_cases e1 : z.1.toNat = p
      · have e1' : z.1 = (p : Int) := by omega
        have e2 : z.2.toNat ≠ p := by omega
        rw [e1, self, oth _ e2]
        have := h4.1
        omega
      · by_cases e2 : z.2.toNat = p
        · have e2' : z.2 = (p : Int) := by omega
          rw [e2, self, oth _ e1]
          have := h4.2
          omega
        · rw [oth _ e1, oth _ e2]
          exact h5
  · intro M
    have hB := M.blk p hpn
    rw [self] at hB
    have := b01 f st p
    refine ⟨⟨by omega, by omega⟩, fun z hz => ?_⟩
    obtain ⟨a1, a2, a3, a4, a5⟩ := hp.rul.inn z hz
    have h5 := M.led z hz
    simp only [okz, Bool.not_eq_true', Bool.or_eq_false_iff, Bool.and_eq_false_iff, decide_eq_false_iff_not]
    constructor
    · by_cases e1 : z.1 = (p : Int)
      · right
        have e1' : z.1.toNat = p := by omega
        have e2 : z.2.toNat ≠ p := by omega
        rw [e1', self, oth _ e2] at h5
        omega
      · exact .inl e1
    · by_cases e2 : z.2 = (p : Int)
      · right
        have e2' : z.2.toNat = p := by omega
        have e1 : z.1.toNat ≠ p := by omega
        rw [e2', self, oth _ e1] at h5
        omega
      · exact .inl e2
end PN
end L3
namespace L3
namespace PN
open PySem PySem.Spec PyProof.Rows L2
def two (p : Nat) : List (Int × Int) := [((p : Int), -2), ((p : Int), 2)]
end PN
end L3
namespace L3
namespace PN
open PySem PySem.Spec PyProof.Rows L2
theorem top_of {f st : Str} {rs : List (Int × Int)} (hp : Pil f st rs) {p : Nat → Prop} (h : ∃ j, j < st.length ∧ p j) : ∃ j, j < st.length ∧ p j ∧ ∀ z, z ∈ rs → z.1 = (j : Int) → ¬ p z.2.toNat := by
  obtain ⟨r, h1, h2⟩ := ranks hp.rul.inn hp.acy
  have main : ∀ m j, st.length - r j ≤ m → j < st.length → p j → ∃ j, j < st.length ∧ p j ∧ ∀ z, z ∈ rs → z.1 = (j : Int) → ¬ p z.2.toNat := by
    intro m
    induction m with
    | zero => intro j hm hj _; have := h1 j hj; omega
    | succ m ih =>
      intro j hm hj hpj
      by_cases q : ∃ z, z ∈ rs ∧ z.1 = (j : Int) ∧ p z.2.toNat
      · obtain ⟨z, hz, e, hz2⟩ := q
        have h3 := h2 z hz
        rw [e, Int.toNat_natCast] at h3
        obtain ⟨a1, a2, a3, a4, a5⟩ := hp.rul.inn z hz
        exact ih z.2.toNat (by omega) (by omega) hz2
      · exact ⟨j, hj, hpj, fun z hz e hz2 => q ⟨z, hz, e, hz2⟩⟩
  obtain ⟨j, hj, hpj⟩ := h
  exact main _ j (Nat.le_refl _) hj hpj
theorem bot_of {f st : Str} {rs : List (Int × Int)} (hp : Pil f st rs) {p : Nat → Prop} (h : ∃ j, j < st.length ∧ p j) : ∃ j, j < st.length ∧ p j ∧ ∀ z, z ∈ rs → z.2 = (j : Int) → ¬ p z.1.toNat := by
  obtain ⟨r, h1, h2⟩ := ranks hp.rul.inn hp.acy
  have main : ∀ m j, r j < m → j < st.length → p j → ∃ j, j < st.length ∧ p j ∧ ∀ z, z ∈ rs → z.2 = (j : Int) → ¬ p z.1.toNat := by
    intro m
    induction m with
    | zero => intro j hm; omega
    | succ m ih =>
      intro j hm hj hpj
      by_cases q : ∃ z, z ∈ rs ∧ z.2 = (j : Int) ∧ p z.1.toNat
      · obtain ⟨z, hz, e, hz2⟩ := q
        have h3 := h2 z hz
        rw [e, Int.toNat_natCast] at h3
        obtain ⟨a1, a2, a3, a4, a5⟩ := hp.rul.inn z hz
        exact ih z.1.toNat (by omega) (by omega) hz2
      · exact ⟨j, hj, hpj, fun z hz e hz2 => q ⟨z, hz, e, hz2⟩⟩
  obtain ⟨j, hj, hpj⟩ := h
  exact main _ j (Nat.lt_succ_self _) hj hpj
theorem mv_self {w : Nat → Int} {p : Nat} {b : Int} : mv w p b p = w p + b := if_pos rfl
theorem mv_ne {w : Nat → Int} {p j : Nat} {b : Int} (h : j ≠ p) : mv w p b j = w j := if_neg h
theorem up_mv {f st : Str} {rs : List (Int × Int)} (hp : Pil f st rs) {t : Int} {a b : Nat → Int} (A : Plan f st rs t a) (B : Plan f st rs t b) (h : ∃ j, j < st.length ∧ a j < b j) : ∃ j, j < st.length ∧ a j < b j ∧ Plan f st rs t (mv a j 2) := by
  obtain ⟨j, hj, hlt, ht⟩ := top_of hp (p := fun j => a j < b j) h
  refine ⟨j, hj, hlt, ⟨fun i hi => ?_, fun z hz => ?_⟩⟩
  · have hA := A.blk i hi
    by_cases e : i = j
    · subst e
      have hB := B.blk i hi
      rw [mv_self]
      omega
    · rw [mv_ne e]
      exact hA
  · obtain ⟨a1, a2, a3, a4, a5⟩ := hp.rul.inn z hz
    have hA := A.led z hz
    by_cases e1 : z.1.toNat = j
    · have e1' : z.1 = (j : Int) := by omega
      have e2 : z.2.toNat ≠ j := by omega
      have h1 := ht z hz e1'
      have hB := B.led z hz
      have pa := A.blk j hj
      have pb := B.blk j hj
      rw [e1, mv_self, mv_ne e2]
      rw [e1] at hB
      omega
    · by_cases e2 : z.2.toNat = j
      · rw [e2] at hA ⊢
        rw [mv_ne e1, mv_self]
        omega
      · rw [mv_ne e1, mv_ne e2]
        exact hA
theorem dn_mv {f st : Str} {rs : List (Int × Int)} (hp : Pil f st rs) {t : Int} {a b : Nat → Int} (A : Plan f st rs t a) (B : Plan f st rs t b) (h : ∃ j, j < st.length ∧ b j < a j) : ∃ j, j < st.length ∧ b j < a j ∧ Plan f st rs t (mv a j (-2)) := by
  obtain ⟨j, hj, hlt, ht⟩ := bot_of hp (p := fun j => b j < a j) h
  refine ⟨j, hj, hlt, ⟨fun i hi => ?_, fun z hz => ?_⟩⟩
  · have hA := A.blk i hi
    by_cases e : i = j
    · subst e
      have hB := B.blk i hi
      rw [mv_self]
      omega
    · rw [mv_ne e]
      exact hA
  · obtain ⟨a1, a2, a3, a4, a5⟩ := hp.rul.inn z hz
    have hA := A.led z hz
    by_cases e1 : z.2.toNat = j
    · have e1' : z.2 = (j : Int) := by omega
      have e2 : z.1.toNat ≠ j := by omega
      have h1 := ht z hz e1'
      have hB := B.led z hz
      have pa := A.blk j hj
      have pb := B.blk j hj
      rw [e1, mv_self, mv_ne e2]
      rw [e1] at hB
      omega
    · by_cases e2 : z.1.toNat = j
      · rw [e2] at hA ⊢
        rw [mv_ne e1, mv_self]
        omega
      · rw [mv_ne e1, mv_ne e2]
        exact hA
end PN
end L3
namespace L3
namespace ST
open PySem PySem.Spec PyProof.Rows L2
def T_Lw_jar : SV :=
  (sSeq (sAsg (eC (.int 0)) (gvName 2))
  (sSeq (sIf (bB (eBin oLt (eVar 1) (eCB oLenA (aCons (eVar 0) aNil)))) (sAsg (eBin oIxL (eVar 0) (eVar 1)) (gvName 2)) sNext)
  (sRet (eFrz (fLst (aCons (eCB oMax2 (aCons (eC (.int 0)) (aCons (eBin oSub (eVar 2) (eBin oPowW (eC (.int 10)) (eC (.int 18)))) aNil))) (aCons (eBin oAdd (eBin oMulW (eBin oMod (eVar 2) (eBin oAdd (eBin oPowW (eC (.int 10)) (eC (.int 60))) (eC (.int 7)))) (eC (.int 64))) (eBin oMod (eVar 1) (eC (.int 64)))) (aCons (eC (.int 0)) aNil))))))))
abbrev N_Lw_jar : List Str := ["_law_script", "_law_k", "_law_cell"]
def T_Lw_dip : SV :=
  (sSeq (sIf (bB (eBin oGt (eBin oIxL (eVar 0) (eC (.int 0))) (eC (.int 0)))) (sSeq (sAsg (eBin oMod (eBin oIxL (eVar 0) (eC (.int 0))) (eVar 1)) (gvName 2))
  (sSeq (sAsg (eBin oDivW (eBin oIxL (eVar 0) (eC (.int 0))) (eVar 1)) (gvSubL (eVar 0) (eC (.int 0))))
  (sRet (eVar 2)))) sNext)
  (sSeq (sAsg (eBin oAdd (eBin oIxL (eVar 0) (eC (.int 2))) (eC (.int 1))) (gvSubL (eVar 0) (eC (.int 2))))
  (sSeq (sAsg (eBin oMod (eBin oPowW (eBin oAdd (eBin oAdd (eBin oIxL (eVar 0) (eC (.int 1))) (eBin oMulW (eBin oMulW (eC (.int 40503)) (eBin oIxL (eVar 0) (eC (.int 2)))) (eBin oIxL (eVar 0) (eC (.int 2))))) (eC (.int 11))) (eC (.int 3))) (eC (.int 2305843009213693951))) (gvName 3))
  (sSeq (sAsg (eBin oMod (eBin oPowW (eBin oAdd (eVar 3) (eBin oMulW (eC (.int 69621)) (eBin oIxL (eVar 0) (eC (.int 2))))) (eC (.int 3))) (eC (.int 2305843009213693921))) (gvName 3))
  (sRet (eBin oMod (eBin oDivW (eVar 3) (eC (.int 65537))) (eVar 1)))))))
abbrev N_Lw_dip : List Str := ["_law_jar_here", "_law_below", "_law_found", "_law_mixed"]
def T_Lw_pile (P_Lw_dip : PV) : SV :=
  (sSeq (sAsg (eCallK 1 kf1 P_Lw_dip (aCons (eVar 0) (aCons (eC (.int 3)) aNil))) (gvName 2))
  (sSeq (sAsg (eFrz (fLc [4] (iRange1 (aCons (eVar 1) aNil)) (gvName 4) bYes (eBin oIxL (eFrz (fLst (aCons (eCallK 1 kf1 P_Lw_dip (aCons (eVar 0) (aCons (eC (.int 2)) aNil))) (aCons (eBin oMod (eVar 4) (eC (.int 2))) (aCons (eCB oInt (aCons (eBin (oEq false) (eCallK 1 kf1 P_Lw_dip (aCons (eVar 0) (aCons (eC (.int 4)) aNil))) (eC (.int 0))) aNil)) aNil))))) (eVar 2)))) (gvName 3))
  (sSeq (sAsg (eCell (fListRange (eVar 1))) (gvName 5))
  (sSeq (sAsg (eFrz (fLc [4] (iRange1 (aCons (eVar 1) aNil)) (gvName 4) bYes (eMl mPopAt (eVar 5) (aCons (eCallK 1 kf1 P_Lw_dip (aCons (eVar 0) (aCons (eCB oLenA (aCons (eVar 5) aNil)) aNil))) aNil)))) (gvName 6))
  (sSeq (sPar 7 8 (aCons (eBin oIxL (eFrz (fLst (aCons (eC (.int 1)) (aCons (eC (.int 2)) (aCons (eC (.int 4)) (aCons (eC (.int 7)) aNil)))))) (eCallK 1 kf1 P_Lw_dip (aCons (eVar 0) (aCons (eC (.int 4)) aNil)))) (aCons (eBin oIxL (eFrz (fLst (aCons (eVar 1) (aCons (eC (.int 4)) (aCons (eC (.int 2)) aNil))))) (eCallK 1 kf1 P_Lw_dip (aCons (eVar 0) (aCons (eC (.int 3)) aNil)))) aNil)))
  (sSeq (sAsg (eCell (fLst aNil)) (gvName 9))
  (sSeq (sFor (iRange1 (aCons (eVar 1) aNil)) (gvName 4) (sFor (iRange2 (aCons (eBin oAdd (eVar 4) (eC (.int 1))) (aCons (eCB oMin2 (aCons (eVar 1) (aCons (eBin oAdd (eVar 4) (eVar 8)) aNil))) aNil))) (gvName 10) (sIf (bAnd (bB (eBin oLt (eCallK 1 kf1 P_Lw_dip (aCons (eVar 0) (aCons (eC (.int 8)) aNil))) (eVar 7))) (bB (eBin oLt (eCB oLenA (aCons (eVar 9) aNil)) (eC (.int 60))))) (sDrop (eMl mAppend (eVar 9) (aCons (eTup (aCons (eBin oIxL (eVar 6) (eVar 4)) (aCons (eBin oIxL (eVar 6) (eVar 10)) aNil))) aNil))) sNext)))
  (sRet (eTup (aCons (eBin oIxS (eC (.str "RB")) (eCallK 1 kf1 P_Lw_dip (aCons (eVar 0) (aCons (eC (.int 2)) aNil)))) (aCons (eM1 oJoin (eC (.str "")) (eFrz (fLc [11] (iLst (eVar 3)) (gvName 11) bYes (eBin oIxS (eC (.str "RB")) (eVar 11))))) (aCons (eFrz (fCB nSortP (aCons (eVar 9) aNil))) aNil))))))))))))
abbrev N_Lw_pile : List Str := ["_law_jar_here", "_law_papers", "_law_style", "_law_some", "_law_k", "_law_left", "_law_row", "_law_share", "_law_near", "_law_found", "_law_j", "_law_one"]
def T_Lw_low : SV :=
  (sSeq (sAsg (eCell (fLc [2] (iSigns (eBin oIxT (eVar 0) (eC (.int 1)))) (gvName 2) bYes (eCB oInt (aCons (eBin (oEq true) (eVar 2) (eBin oIxT (eVar 0) (eC (.int 0)))) aNil)))) (gvName 1))
  (sSeq (sFor (iRange1 (aCons (eCB oLenA (aCons (eVar 1) aNil)) aNil)) (gvName 3) (sFor (iLst (eBin oIxT (eVar 0) (eC (.int 2)))) (gvTup 2 (gvCons (gvName 4) (gvCons (gvName 5) gvNil))) (sAsg (eCB oMax2 (aCons (eBin oIxL (eVar 1) (eVar 5)) (aCons (eBin oAdd (eBin oIxL (eVar 1) (eVar 4)) (eCB oInt (aCons (eBin (oEq true) (eBin oIxS (eBin oIxT (eVar 0) (eC (.int 1))) (eVar 4)) (eBin oIxS (eBin oIxT (eVar 0) (eC (.int 1))) (eVar 5))) aNil))) aNil))) (gvSubL (eVar 1) (eVar 5)))))
  (sRet (eVar 1))))
abbrev N_Lw_low : List Str := ["_law_heap", "_law_found", "_law_sign", "_law_spin", "_law_one", "_law_other"]
def T_Lw_most (P_Lw_low P_Lw_dip : PV) : SV :=
  (sSeq (sAsg (eCB oMaxL (aCons (eCall P_Lw_low (aCons (eVar 2) aNil)) aNil)) (gvName 4))
  (sRet (eIf (bB (eBin (oEq false) (eVar 1) (eFrz (fLst aNil)))) (eBin oAdd (eBin oAdd (eVar 4) (eC (.int 1))) (eCallK 1 kf1 P_Lw_dip (aCons (eVar 0) (aCons (eC (.int 3)) aNil)))) (eCB oMin2 (aCons (eBin oPowW (eC (.int 10)) (eC (.int 30))) (aCons (eBin oAdd (eVar 4) (eBin oIxL (eVar 3) (eCallK 1 kf1 P_Lw_dip (aCons (eVar 0) (aCons (eCB oLenA (aCons (eVar 3) aNil)) aNil))))) aNil))))))
abbrev N_Lw_most : List Str := ["_law_jar_here", "_law_script", "_law_heap", "_law_some", "_law_few"]
def T_Lw_size (P_Lw_dip : PV) : SV :=
  (sRet (eIf (bB (eBin (oEq false) (eVar 1) (eFrz (fLst aNil)))) (eBin oAdd (eC (.int 2)) (eCallK 1 kf1 P_Lw_dip (aCons (eVar 0) (aCons (eC (.int 2)) aNil)))) (eBin oAdd (eC (.int 1)) (eCallK 1 kf1 P_Lw_dip (aCons (eVar 0) (aCons (eVar 2) aNil))))))
abbrev N_Lw_size : List Str := ["_law_jar_here", "_law_script", "_law_top"]
def T_Lw_plans : SV :=
  (sSeq (sAsg (eFrz (fLst (aCons (eFrz (fLst aNil)) aNil))) (gvName 2))
  (sSeq (sFor (iRange1 (aCons (eCB oLenA (aCons (eBin oIxT (eVar 0) (eC (.int 1))) aNil)) aNil)) (gvName 3) (sSeq (sAsg (eCB oInt (aCons (eBin (oEq true) (eBin oIxS (eBin oIxT (eVar 0) (eC (.int 1))) (eVar 3)) (eBin oIxT (eVar 0) (eC (.int 0)))) aNil)) (gvName 4))
  (sSeq (sAsg (eCell (fLst aNil)) (gvName 5))
  (sSeq (sForC (iLst (eVar 2)) (gvName 6) (sDrop (eMl mExtend (eVar 5) (aCons (eFrz (fLc [7] (iRangeTwo (aCons (eVar 4) (aCons (eBin oAdd (eVar 1) (eC (.int 1))) (aCons (eC (.int 2)) aNil)))) (gvName 7) bYes (eFrz (fBin nCat (eVar 6) (eFrz (fLst (aCons (eVar 7) aNil))))))) aNil))))
  (sAsg (eVar 5) (gvName 2))))))
  (sRet (eFrz (fLc [6] (iLst (eVar 2)) (gvName 6) (bB (eBin (oEq false) (eFrz (fLc [8, 9] (iLst (eBin oIxT (eVar 0) (eC (.int 2)))) (gvTup 2 (gvCons (gvName 8) (gvCons (gvName 9) gvNil))) (bB (eBin oLt (eBin oIxL (eVar 6) (eVar 9)) (eBin oIxL (eVar 6) (eVar 8)))) (eC (.int 1)))) (eFrz (fLst aNil)))) (eVar 6))))))
abbrev N_Lw_plans : List Str := ["_law_heap", "_law_top", "_law_found", "_law_k", "_law_least", "_law_longer", "_law_some", "_law_block", "_law_one", "_law_other"]
def T_Lw_same (P_Lw_same : PV) : SV :=
  (sSeq (sIf (bB (eIsi2 .list .tuple (eVar 1))) (sSeq (sIf (bOr (bB (eBin (oEq true) (eIsi .list (eVar 0)) (eIsi .list (eVar 1)))) (bB (eBin (oEq true) (eIsi .tuple (eVar 0)) (eIsi .tuple (eVar 1))))) (sRet (eC (.bl false))) sNext)
  (sRet (eAnd (eBin (oEq false) (eCB oLenA (aCons (eVar 0) aNil)) (eCB oLenA (aCons (eVar 1) aNil))) (eCB oAll (aCons (eFrz (fLc [2, 3] (iZipS (aCons (eVar 0) (aCons (eVar 1) aNil))) (gvTup 2 (gvCons (gvName 2) (gvCons (gvName 3) gvNil))) bYes (eCall P_Lw_same (aCons (eVar 2) (aCons (eVar 3) aNil))))) aNil))))) sNext)
  (sSeq (sIf (bOr (bB (eBin (oIsN false) (eVar 1) (eC .non))) (bB (eBin (oIsN false) (eVar 0) (eC .non)))) (sRet (eAnd (eBin (oIsN false) (eVar 1) (eC .non)) (eBin (oIsN false) (eVar 0) (eC .non)))) sNext)
  (sSeq (sIf (bOr (bB (eIsi .bool (eVar 1))) (bB (eIsi .bool (eVar 0)))) (sRet (eAnd (eIsi .bool (eVar 1)) (eAnd (eIsi .bool (eVar 0)) (eBin (oEq false) (eVar 0) (eVar 1))))) sNext)
  (sRet (eAnd (eBin (oEq false) (eIsi .str (eVar 0)) (eIsi .str (eVar 1))) (eBin (oEq false) (eVar 0) (eVar 1)))))))
abbrev N_Lw_same : List Str := ["_law_found", "_law_due", "_law_mine", "_law_theirs"]
def T_spans_from : SV :=
  (sSeq (sAsg (eVar 0) (gvTup 3 (gvCons (gvName 2) (gvCons (gvName 3) (gvCons (gvName 4) gvNil)))))
  (sSeq (sAsg (eCell (fDisp1 (eVar 1) (eC (.int 0)))) (gvName 5))
  (sSeq (sAsg (eCell (fLst (aCons (eVar 1) aNil))) (gvName 6))
  (sSeq (sWhile (bB (eBin (oEq true) (eVar 6) (eFrz (fLst aNil)))) (sSeq (sAsg (eMl mPop (eVar 6) aNil) (gvName 7))
  (sFor (iLst (eVar 4)) (gvTup 2 (gvCons (gvName 8) (gvCons (gvName 9) gvNil))) (sIf (bAnd (bB (eBin (oEq false) (eVar 8) (eVar 7))) (bB (eBin oLt (eDGet2 (eVar 5) (eVar 9) (eUn oNeg (eC (.int 1)))) (eBin oAdd (eDGet (eVar 5) (eVar 7)) (eCB oInt (aCons (eBin (oEq true) (eBin oIxS (eVar 3) (eVar 8)) (eBin oIxS (eVar 3) (eVar 9))) aNil)))))) (sSeq (sAsg (eBin oAdd (eDGet (eVar 5) (eVar 7)) (eCB oInt (aCons (eBin (oEq true) (eBin oIxS (eVar 3) (eVar 8)) (eBin oIxS (eVar 3) (eVar 9))) aNil))) (gvSubD (eVar 5) (eVar 9)))
  (sDrop (eMl mAppend (eVar 6) (aCons (eVar 9) aNil)))) sNext))))
  (sRet (eVar 5))))))
abbrev N_spans_from : List Str := ["pile", "paper", "first", "stamps", "rules", "found", "waiting", "here", "one", "other"]
def T_is_whole : SV :=
  (sRet (eAnd (eIsi .int (eVar 0)) (eAnd (eNot (eIsi .bool (eVar 0))) (eChain oLe oLe (eC (.int 0)) (eVar 0) (eVar 1)))))
abbrev N_is_whole : List Str := ["thing", "most"]
end ST
end L3
namespace L3
namespace ST
open PySem PySem.Spec PyProof.Rows L2
theorem le5 : ∀ l : List D, l.length ≤ 5 → l.length ≤ sizeLine := fun l h => by rw [sizeL]; omega
def P_Lw_jar : PV := fun ds C Q => ∃ (o : Bool) (ns : List Int) (k : Nat), ds = [.lst o (ns.map .int), .int (k : Nat)] ∧ ns.length ≤ 100 ∧ k < 1000 ∧ ∀ xs, Jar 0 (.lst xs) → flatDs xs = true → Q (.lst false xs) C
theorem v_Lw_jar (ds : List D) (C : Store) (Q3 : D → Store → Prop) (h : P_Lw_jar ds C Q3) (hC : C.length = 0) : T_Lw_jar (enF 0 Q3) (start3 N_Lw_jar ds) C := by
  obtain ⟨o, ns, k, rfl, hn, hk, q⟩ := h
  rw [List.length_eq_zero_iff] at hC
  subst hC
  have hz := sizeL
  have fin' : ∀ (c : Int), (sRet (eFrz (fLst (aCons (eCB oMax2 (aCons (eC (.int 0)) (aCons (eBin oSub (eVar 2) (eBin oPowW (eC (.int 10)) (eC (.int 18)))) aNil))) (aCons (eBin oAdd (eBin oMulW (eBin oMod (eVar 2) (eBin oAdd (eBin oPowW (eC (.int 10)) (eC (.int 60))) (eC (.int 7)))) (eC (.int 64))) (eBin oMod (eVar 1) (eC (.int 64)))) (aCons (eC (.int 0)) aNil)))))) (enF 0 Q3) [some (.lst o (ns.map .int)), some (.int (k : Nat)), some (.int c)] [] := fun c => by
    simp [oMax2]
    have hb0 := Int.emod_nonneg c (b := 1000000000000000000000000000000000000000000000000000000000007) (by decide)
    have hb1 := Int.emod_lt_of_pos c (b := 1000000000000000000000000000000000000000000000000000000000007) (by decide)
    have hc0 := Int.emod_nonneg (k : Int) (b := 64) (by decide)
    have hc1 := Int.emod_lt_of_pos (k : Int) (b := 64) (by decide)
    refine ⟨cpow10 18 (by decide), _, _, ⟨rfl, rfl⟩, cpow10 60 (by decide), ?_⟩
    generalize c % 1000000000000000000000000000000000000000000000000000000000007 = m at *
    generalize (k : Int) % 64 = t at *
    have e : ([D.int (max 0 (c - 1000000000000000000)), D.int (m * 64 + t), D.int 0] : List D) = [max 0 (c - 1000000000000000000), m * 64 + t, 0].map .int := rfl
    refine ⟨cmul_of (a := 220) (b := 10) (by omega) (by decide) (by decide) (by decide) (by decide), by omega, ?_⟩
    rw [finS0, e, fin_ints, ← e]
    exact q _ ⟨_, _, _, rfl, by omega, by omega, by omega, by omega, by omega⟩ rfl
  unfold T_Lw_jar
  rw [u_sSeq, u_sAsg, u_eC]
  try dsimp only
  rw [u_gvName, u_sSeq, u_sIf]
  refine ⟨_, rfl, _, rfl, _, _, rfl, rfl, _, _, rfl, rfl, _, rfl, ?_⟩
  by_cases h : k < ns.length
  · refine goT (by simp; omega) ?_
    exact ⟨_, rfl, _, rfl, _, _, _, rfl, rfl, ints_at (List.getElem?_eq_getElem h), fin' _⟩
  · exact goF (by simp; omega) (fin' 0)
def P_Lw_dip : PV := fun ds C Q => ∃ (m c : Int) (x : Cell), ds = [.ptr 0, .int m] ∧ C = [x] ∧ Jar c x ∧ 0 < m ∧ m < 10 ^ 31 ∧ c < 10 ^ 6 ∧ ∀ r y, 0 ≤ r → r < m → Jar (c + 1) y → Q (.int r) [y]
theorem mono_dip {ds : List D} {C : Store} (R R' : D → Store → Prop) (h : ∀ d Cc, R d Cc → R' d Cc) : P_Lw_dip ds C R → P_Lw_dip ds C R' := fun ⟨m, c, x, e1, e2, e3, e4, e5, e6, q⟩ => ⟨m, c, x, e1, e2, e3, e4, e5, e6, fun r y a b d => h _ _ (q r y a b d)⟩
theorem pull_k {m c : Int} {x : Cell} {k : Nat} {C1 : Store} {Q : D → Store → Prop} (hk : C1[k]? = some x) (hx : Jar c x) (hm : 0 < m) (hm2 : m < 10 ^ 31) (hc : c < 10 ^ 6) (q : ∀ r y, 0 ≤ r → r < m → Jar (c + 1) y → Q (.int r) (C1.set k y)) :
    callK 1 kf1 P_Lw_dip [.ptr k, .int m] C1 Q :=
  callJ (es' := [.int m]) hk hx rfl ⟨m, c, x, rfl, rfl, hx, hm, hm2, hc, fun r y h0 h1 hy => ⟨y, _, rfl, hy, rfl, q r y h0 h1 hy⟩⟩ mono_dip
theorem pull_e {i k : Nat} {m c : Int} {x : Cell} {C1 : Store} {Γ : Slots} {E : EV} {Q : D → Store → Prop} (hk : C1[k]? = some x) (hx : Jar c x) (hv : Γ[i]? = some (some (.ptr k))) (hE : ∀ R : D → Store → Prop, R (.int m) C1 → E Γ C1 R) (hm : 0 < m) (hm2 : m < 10 ^ 31) (hc : c < 10 ^ 6)
    (q : ∀ r y, 0 ≤ r → r < m → Jar (c + 1) y → Q (.int r) (C1.set k y)) : eCallK 1 kf1 P_Lw_dip (aCons (eVar i) (aCons E aNil)) Γ C1 Q := by
  rw [u_eCallK]
  simp only [u_aCons, u_aNil, u_eVar]
  exact ⟨_, hv, hE _ (pull_k hk hx hm hm2 hc q)⟩
theorem v_Lw_dip (ds : List D) (C : Store) (Q3 : D → Store → Prop) (h : P_Lw_dip ds C Q3) (hC : C.length = 1) : T_Lw_dip (enF 1 Q3) (start3 N_Lw_dip ds) C := by
  obtain ⟨m, c, x, rfl, rfl, ⟨a, b, k, rfl, ha, hb, hb2, hk, hkc⟩, hm, hm2, hc, q⟩ := h
  have hz := sizeL
  have eΓ : start3 N_Lw_dip [D.ptr 0, D.int m] = [some (.ptr 0), some (.int m), none, none] := rfl
  rw [eΓ]
  have fi : ∀ (C : Store) (r : Int), fin 1 C (.int r) = .int r := fun C r => rfl
  have fs : ∀ a b k : Int, finS 1 [.lst [.int a, .int b, .int k]] = [.lst [.int a, .int b, .int k]] := fun a b k => rfl
  simp [T_Lw_dip, oIxL, lstOf, atI, ixN, gvSubL, fi, fs]
  by_cases h : 0 < a
  · refine .inr ⟨h, hm, cdiv_of hm (by omega), q _ _ (Int.emod_nonneg _ (by omega)) (Int.emod_lt_of_pos _ hm) ⟨_, _, _, rfl, Int.ediv_nonneg ha (by omega), hb, hb2, hk, by omega⟩⟩
  · refine .inl ⟨by omega, ?_⟩
    have p0 : 0 ≤ 40503 * (k + 1) * (k + 1) := Int.mul_nonneg (by omega) (by omega)
    have p1 : 40503 * (k + 1) * (k + 1) ≤ (40503 * 10000000) * 10000000 := Int.mul_le_mul (by omega) (by omega) (by omega) (by omega)
    refine ⟨cmul_of (a := 20) (b := 30) (by decide) (by omega) (by decide) (by decide) (by decide), cmul_of (a := 60) (b := 30) (by omega) (by omega) (by decide) (by decide) (by decide), ?_⟩
    generalize 40503 * (k + 1) * (k + 1) = p at *
    refine ⟨cpow_of (n := 420) (by decide) (by omega) (by decide), cmul_of (a := 20) (b := 30) (by decide) (by omega) (by decide) (by decide) (by decide), ?_⟩
    have q0 := Int.emod_nonneg ((b + p + 11) ^ 3) (b := 2305843009213693951) (by decide)
    have q1 := Int.emod_lt_of_pos ((b + p + 11) ^ 3) (b := 2305843009213693951) (by decide)
    generalize (b + p + 11) ^ 3 % 2305843009213693951 = u at *
    refine ⟨cpow_of (n := 200) (by decide) (by omega) (by decide), cdiv_of (by decide) (by decide), hm, ?_⟩
    exact q _ _ (Int.emod_nonneg _ (by omega)) (Int.emod_lt_of_pos _ hm) ⟨_, _, _, rfl, ha, hb, hb2, by omega, by omega⟩
end ST
end L3
namespace L3
namespace PN
open PySem PySem.Spec PyProof.Rows L2
def dirn (a b : Nat → Int) (p : Nat) : Int := if a p < b p then 2 else -2
theorem dirn_two {a b : Nat → Int} {p : Nat} : dirn a b p = 2 ∨ dirn a b p = -2 := by
  unfold dirn
  split
  · exact .inl rfl
  · exact .inr rfl
def gd (rs : List (Int × Int)) (t : Int) (a b : Nat → Int) (p : Nat) : Bool := decide (a p ≠ b p) && okB rs t a p (dirn a b p)
def nx (n : Nat) (rs : List (Int × Int)) (t : Int) (a b : Nat → Int) : Nat := ((List.range n).find? (gd rs t a b)).getD 0
theorem nx_of {n : Nat} {rs : List (Int × Int)} {t : Int} {a b : Nat → Int} {p : Nat} (hp : p < n) (h : gd rs t a b p = true) (hl : ∀ q, q < p → gd rs t a b q = false) : nx n rs t a b = p := by
  unfold nx
  have e : (List.range n).find? (gd rs t a b) = some p := by
    rw [List.find?_range_eq_some]
    exact ⟨h, List.mem_range.mpr hp, fun j hj => by rw [hl j hj]; rfl⟩
  rw [e]
  rfl
theorem nx_ex {n : Nat} {rs : List (Int × Int)} {t : Int} {a b : Nat → Int} (h : ∃ p, p < n ∧ gd rs t a b p = true) : nx n rs t a b < n ∧ gd rs t a b (nx n rs t a b) = true ∧ ∀ q, q < nx n rs t a b → gd rs t a b q = false := by
  have main : ∀ k, (∃ p, p < n ∧ gd rs t a b p = true ∧ ∀ q, q < p → gd rs t a b q = false) ∨ ∀ q, q < k → q < n → gd rs t a b q = false := by
    intro k
    induction k with
    | zero => exact .inr fun q hq => by omega
    | succ k ih =>
      rcases ih with h | h
      · exact .inl h
      · by_cases hk : k < n
        · cases e : gd rs t a b k with
          | true => exact .inl ⟨k, hk, e, fun q hq => h q hq (by omega)⟩
          | false =>
            refine .inr fun q hq hn => ?_
            by_cases e2 : q = k
            · rw [e2]; exact e
            · exact h q (by omega) hn
        · exact .inr fun q hq hn => h q (by omega) hn
  rcases main n with ⟨p, hp, h1, h2⟩ | h2
  · rw [nx_of hp h1 h2]
    exact ⟨hp, h1, h2⟩
  · obtain ⟨p, hp, h1⟩ := h
    rw [h2 p hp hp] at h1
    cases h1
theorem gd_ex {f st : Str} {rs : List (Int × Int)} (hp : Pil f st rs) {t : Int} {a b : Nat → Int} (A : Plan f st rs t a) (B : Plan f st rs t b) (h : ∃ j, j < st.length ∧ a j ≠ b j) : ∃ p, p < st.length ∧ gd rs t a b p = true := by
  by_cases hu : ∃ j, j < st.length ∧ a j < b j
  · obtain ⟨j, hj, hlt, M⟩ := up_mv hp A B hu
    refine ⟨j, hj, ?_⟩
    unfold gd
    rw [decide_eq_true (by omega), Bool.true_and]
    have e : dirn a b j = 2 := if_pos hlt
    rw [e]
    exact (okB_iff hp A hj (.inl rfl)).mpr M
  · obtain ⟨j, hj, hne⟩ := h
    have hle : ∀ j, j < st.length → b j ≤ a j := fun j hj => by
      by_cases e : a j < b j
      · exact absurd ⟨j, hj, e⟩ hu
      · omega
    obtain ⟨j, hj, hlt, M⟩ := dn_mv hp A B ⟨j, hj, by have := hle j hj; omega⟩
    refine ⟨j, hj, ?_⟩
    unfold gd
    rw [decide_eq_true (by omega), Bool.true_and]
    have e : dirn a b j = -2 := if_neg (by omega)
    rw [e]
    exact (okB_iff hp A hj (.inr rfl)).mpr M
theorem gd_plan {f st : Str} {rs : List (Int × Int)} (hp : Pil f st rs) {t : Int} {a b : Nat → Int} (A : Plan f st rs t a) {p : Nat} (hpn : p < st.length) (h : gd rs t a b p = true) : a p ≠ b p ∧ Plan f st rs t (mv a p (dirn a b p)) := by
  unfold gd at h
  rw [Bool.and_eq_true, decide_eq_true_eq] at h
  exact ⟨h.1, (okB_iff hp A hpn dirn_two).mp h.2⟩
theorem S_upd {g h : Nat → Int} {x : Int} {p : Nat} : ∀ {n : Nat}, p < n → h p = g p + x → (∀ j, j < n → j ≠ p → h j = g j) → S n h = S n g + x
  | n + 1, hpn, e, ho => by
    rw [S_succ, S_succ]
    by_cases hp : p = n
    · subst hp
      rw [e, S_congr (n := p) (g := h) (h := g) fun j hj => ho j (by omega) (by omega)]
      omega
    · rw [S_upd (n := n) (by omega) e fun j hj hne => ho j (by omega) hne, ho n (by omega) (fun z => hp z.symm)]
      omega
theorem far_mv {f st : Str} {rs : List (Int × Int)} {a b : Nat → Int} (A : PlanU f st rs a) (B : PlanU f st rs b) {p : Nat} (hpn : p < st.length) (hne : a p ≠ b p) (M : PlanU f st rs (mv a p (dirn a b p))) : far st.length (mv a p (dirn a b p)) b = far st.length a b - 1 := by
  have h1 := far_two A B
  have h2 := far_two M B
  have e1 := A.blk p hpn
  have e2 := B.blk p hpn
  have hS : S st.length (fun j => dist (mv a p (dirn a b p) j) (b j)) = S st.length (fun j => dist (a j) (b j)) + (-2) := by
    refine S_upd hpn ?_ fun j hj hne => ?_
    · rw [mv_self]
      unfold dirn dist
      split <;> split <;> split <;> omega
    · rw [mv_ne hne]
  omega
theorem far_pos {f st : Str} {rs : List (Int × Int)} {a b : Nat → Int} (h : 0 < far st.length a b) : ∃ j, j < st.length ∧ a j ≠ b j := by
  refine Classical.byContradiction fun hn => ?_
  have : far st.length a b = far st.length b b := far_congr (fun j hj => Classical.byContradiction fun h => hn ⟨j, hj, h⟩) fun _ _ => rfl
  rw [far_self] at this
  omega
theorem way_step {f st : Str} {rs : List (Int × Int)} (hp : Pil f st rs) {t : Int} {a b : Nat → Int} (A : Plan f st rs t a) (B : Plan f st rs t b) (h : 0 < far st.length a b) :
    nx st.length rs t a b < st.length ∧ gd rs t a b (nx st.length rs t a b) = true ∧ (∀ q, q < nx st.length rs t a b → gd rs t a b q = false) ∧ Plan f st rs t (mv a (nx st.length rs t a b) (dirn a b (nx st.length rs t a b))) ∧ far st.length (mv a (nx st.length rs t a b) (dirn a b (nx st.length rs t a b))) b = far st.length a b - 1 := by
  obtain ⟨h1, h2, h3⟩ := nx_ex (gd_ex hp A B (far_pos (f := f) (st := st) (rs := rs) h))
  obtain ⟨h4, h5⟩ := gd_plan hp A h1 h2
  exact ⟨h1, h2, h3, h5, far_mv (Plan.u A) (Plan.u B) h1 h4 (Plan.u h5)⟩
end PN
end L3
namespace L3
namespace PN
open PySem PySem.Spec PyProof.Rows L2
end PN
end L3
namespace L3
namespace PN
open PySem PySem.Spec PyProof.Rows L2
theorem rg_drop {m k : Nat} {d : D} {ds : List D} (e : d :: ds = ((List.range m).drop k).map (fun j : Nat => D.int (j : Nat))) : k < m ∧ d = .int (k : Nat) ∧ ds = ((List.range m).drop (k + 1)).map (fun j : Nat => D.int (j : Nat)) := by
  by_cases hk : k < m
  · rw [range_drop hk, List.cons.injEq] at e
    exact ⟨hk, e.1, e.2⟩
  · rw [List.drop_eq_nil_of_le (by simp; omega)] at e
    cases e
theorem rg_stop {m k : Nat} (hk : k ≤ m) (e : [] = ((List.range m).drop k).map (fun j : Nat => D.int (j : Nat))) : k = m := by
  by_cases h : k < m
  · rw [range_drop h] at e
    cases e
  · omega
end PN
end L3
namespace L3
namespace ST
open PySem PySem.Spec PyProof.Rows L2
theorem kindL {r2 kk r6 style : Int} (h0 : 0 ≤ style) (h1 : style < 3) (a0 : 0 ≤ r2) (a1 : r2 < 2) : ∃ w : Int, atI [D.int r2, D.int (kk % 2), D.int (if (false != decide (r6 = 0)) = true then 1 else 0)] style = some (.int w) ∧ 0 ≤ w ∧ w < 2 := by
  have : style = 0 ∨ style = 1 ∨ style = 2 := by omega
  rcases this with rfl | rfl | rfl
  · exact ⟨r2, rfl, a0, a1⟩
  · exact ⟨_, rfl, by omega, by omega⟩
  · refine ⟨_, rfl, ?_⟩
    refine ⟨?_, ?_⟩ <;> split <;> decide
theorem shareL {r : Int} (h0 : 0 ≤ r) (h1 : r < 4) : ∃ w : Int, atI [D.int 1, D.int 2, D.int 4, D.int 7] r = some (.int w) ∧ 0 ≤ w ∧ w ≤ 8 := by
  have : r = 0 ∨ r = 1 ∨ r = 2 ∨ r = 3 := by omega
  rcases this with rfl | rfl | rfl | rfl
  · exact ⟨_, rfl, by decide, by decide⟩
  · exact ⟨_, rfl, by decide, by decide⟩
  · exact ⟨_, rfl, by decide, by decide⟩
  · exact ⟨_, rfl, by decide, by decide⟩
theorem nearL {r : Int} {n : Nat} (h0 : 0 ≤ r) (h1 : r < 3) (hn : n ≤ 24) : ∃ w : Int, atI [D.int (n : Nat), D.int 4, D.int 2] r = some (.int w) ∧ 0 ≤ w ∧ w ≤ 24 := by
  have : r = 0 ∨ r = 1 ∨ r = 2 := by omega
  rcases this with rfl | rfl | rfl
  · exact ⟨_, rfl, by omega, by omega⟩
  · exact ⟨_, rfl, by decide, by decide⟩
  · exact ⟨_, rfl, by decide, by decide⟩
def Upto (ord : List Int) (k j : Nat) (ps : List (Int × Int)) : Prop := ∀ z, z ∈ ps → ∃ a b : Nat, a < b ∧ ord[a]? = some z.1 ∧ ord[b]? = some z.2 ∧ (a < k ∨ (a = k ∧ b < j))
theorem Upto.along {ord : List Int} {k j : Nat} {ps : List (Int × Int)} (h : Upto ord k j ps) : Along ord ps := fun z hz => by
  obtain ⟨a, b, h1, h2, h3, _⟩ := h z hz
  exact ⟨a, b, h1, h2, h3⟩
theorem Upto.le {ord : List Int} {k j k' j' : Nat} {ps : List (Int × Int)} (h : Upto ord k j ps) (hk : k < k' ∨ (k = k' ∧ j ≤ j')) : Upto ord k' j' ps := fun z hz => by
  obtain ⟨a, b, h1, h2, h3, h4⟩ := h z hz
  exact ⟨a, b, h1, h2, h3, by omega⟩
theorem nd_at {l : List Int} (nd : l.Nodup) {i j : Nat} {x : Int} (hi : l[i]? = some x) (hj : l[j]? = some x) : i = j := by
  obtain ⟨a, b⟩ := List.getElem?_eq_some_iff.mp hi
  obtain ⟨c, d⟩ := List.getElem?_eq_some_iff.mp hj
  exact (List.getElem_inj nd).mp (b.trans d.symm)
theorem Upto.new {ord : List Int} (nd : ord.Nodup) {k j : Nat} {ps : List (Int × Int)} {x y : Int} (h : Upto ord k j ps) (pn : ps.Nodup) (hkj : k < j) (hx : ord[k]? = some x) (hy : ord[j]? = some y) : Upto ord k (j + 1) (ps ++ [(x, y)]) ∧ (ps ++ [(x, y)]).Nodup := by
  refine ⟨fun z hz => ?_, List.nodup_append.mpr ⟨pn, by simp, fun z hz w hw e => ?_⟩⟩
  · rcases List.mem_append.mp hz with hz | hz
    · obtain ⟨a, b, h1, h2, h3, h4⟩ := h z hz
      exact ⟨a, b, h1, h2, h3, by omega⟩
    · rw [List.mem_singleton.mp hz]
      exact ⟨k, j, hkj, hx, hy, by omega⟩
  · rw [List.mem_singleton] at hw
    subst hw e
    obtain ⟨a, b, h1, h2, h3, h4⟩ := h _ hz
    have e1 := nd_at nd h2 hx
    have e2 := nd_at nd h3 hy
    omega
theorem rgl_drop {lo : Int} {m k : Nat} {d : D} {ds : List D} (e : d :: ds = ((List.range m).drop k).map (fun j : Nat => D.int (lo + (j : Nat)))) : k < m ∧ d = .int (lo + (k : Nat)) ∧ ds = ((List.range m).drop (k + 1)).map (fun j : Nat => D.int (lo + (j : Nat))) := by
  by_cases hk : k < m
  · rw [List.drop_eq_getElem_cons (by simpa using hk)] at e
    simp only [List.getElem_range, List.map_cons, List.cons.injEq] at e
    exact ⟨hk, e.1, e.2⟩
  · rw [List.drop_eq_nil_of_le (by simp; omega)] at e
    cases e
def sgn (w : Int) : Str := if w = 0 then cR else cB
theorem sgn_at {w : Int} (h0 : 0 ≤ w) (h1 : w < 2) : ∃ c : Nat, atI (Str.ofString "RB").cps.toList w = some c ∧ (⟨#[c]⟩ : Str) = sgn w := by
  have : w = 0 ∨ w = 1 := by omega
  rw [RB_cps]
  rcases this with rfl | rfl
  · exact ⟨82, rfl, rfl⟩
  · exact ⟨66, rfl, rfl⟩
theorem sgn_two (w : Int) : sgn w = cR ∨ sgn w = cB := by
  unfold sgn
  split
  · exact .inl rfl
  · exact .inr rfl
theorem sum_one : ∀ l : List Str, (∀ y, y ∈ l → y = cR ∨ y = cB) → (l.map (·.length)).sum = l.length := by
  intro l
  induction l with
  | nil => intro _; rfl
  | cons x l ih =>
    intro h
    rw [List.map_cons, List.sum_cons, ih fun y hy => h y (List.mem_cons_of_mem _ hy)]
    rcases h x (List.mem_cons_self ..) with rfl | rfl
    · show 1 + _ = _; simp; omega
    · show 1 + _ = _; simp; omega
def P_Lw_pile : PV := fun ds C Q => ∃ (n : Nat) (c : Int) (x : Cell), ds = [.ptr 0, .int (n : Nat)] ∧ C = [x] ∧ Jar c x ∧ c < 10 ^ 4 ∧ 1 ≤ n ∧ n ≤ 24 ∧
  ∀ f st rs c' y, Pil f st rs → st.length = n → Jar c' y → c' ≤ c + 900 → Q (pil false f st rs) [y]
theorem v_Lw_pile (ds : List D) (C : Store) (Q3 : D → Store → Prop) (h : P_Lw_pile ds C Q3) (hC : C.length = 1) : T_Lw_pile P_Lw_dip (enF 1 Q3) (start3 N_Lw_pile ds) C := by
  obtain ⟨n, c, x, rfl, rfl, hx, hc, h1, hn, q⟩ := h
  have hz := sizeL
  unfold T_Lw_pile
  rw [u_sSeq, u_sAsg]
  refine pull_e (k := 0) (m := 3) (x := x) rfl hx rfl (fun R h => h) (by decide) (by decide) (by omega) fun style y1 hs0 hs1 hy1 => ?_
  try dsimp only
  rw [u_gvName, u_sSeq, u_sAsg]
  refine ⟨_, rfl, n, rfl, by omega, by omega, ?_⟩
  rw [rg_upto]
  refine lcW_run (fun ds acc C => ∃ (ws : List Int) (y : Cell) (c' : Int) (k : Nat), ws.length = k ∧ k ≤ n ∧ ds = ((List.range n).drop k).map (fun i : Nat => D.int (i : Nat)) ∧ acc = ws.map .int ∧ (∀ w, w ∈ ws → 0 ≤ w ∧ w < 2) ∧ C = [y] ∧ Jar c' y ∧ c' ≤ c + 1 + 2 * k) ?step ?stop _ _ _ ⟨[], y1, c + 1, 0, rfl, by omega, (by unfold upto; rw [List.map_map]; rfl), rfl, fun w h => by simp at h, rfl, hy1, by omega⟩
  case step =>
    rintro d ds acc C ⟨ws, y, c', k, hk, hn', eds, rfl, hw, rfl, hy, hc'⟩ R hR
    obtain ⟨hkn, rfl, rfl⟩ := PN.rg_drop eds
    rw [u_gvName, u_bYes, if_pos rfl, u_eBin, u_eFrz, u_fLst, u_aCons]
    refine pull_e (k := 0) (m := 2) (x := y) rfl hy rfl (fun R h => h) (by decide) (by decide) (by omega) fun r2 y3 h20 h21 hy3 => ?_
    refine ⟨_, rfl, _, _, rfl, rfl, (show (0 : Int) < 2 from by decide), ?_⟩
    show aCons _ _ _ _ _
    rw [u_aCons, u_eCB, u_aCons, u_eBin]
    refine pull_e (k := 0) (m := 4) (x := y3) rfl hy3 rfl (fun R h => h) (by decide) (by decide) (by omega) fun r6 y4 h60 h61 hy4 => ?_
    obtain ⟨w, e, w0, w1⟩ := kindL (kk := (k : Int)) (r6 := r6) hs0 hs1 h20 h21
    refine ⟨le5 _ (by simp), _, rfl, _, _, _, rfl, rfl, e, by simp; omega, fun k hk => by simp at hk, ?_⟩
    refine hR _ _ ⟨ws ++ [w], y4, c' + 1 + 1, k + 1, by simp [hk], by omega, rfl, by simp, fun w' hw' => ?_, rfl, hy4, by omega⟩
    rcases List.mem_append.mp hw' with h | h
    · exact hw w' h
    · rw [List.mem_singleton.mp h]; exact ⟨w0, w1⟩
  case stop =>
    rintro acc C ⟨ws, y2, c2, k, hk, hn', eds, rfl, hw, rfl, hy2, hc2⟩
    obtain rfl := PN.rg_stop hn' eds
    try dsimp only
    rw [u_gvName, u_sSeq, u_sAsg]
    refine ⟨_, rfl, k, rfl, by omega, by omega, ?_⟩
    rw [rg_upto]
    try dsimp only
    rw [u_gvName, u_sSeq, u_sAsg]
    refine ⟨_, rfl, k, rfl, by omega, by omega, ?_⟩
    rw [rg_upto]
    refine lcW_run (fun ds acc C => ∃ (as L : List Int) (y : Cell) (c' : Int), ds.length = L.length ∧ acc = as.map .int ∧ C = [y, .lst (L.map .int)] ∧ (as ++ L).Perm (upto k) ∧ Jar c' y ∧ c' = c2 + as.length) ?step2 ?stop2 _ _ _ ⟨[], upto k, y2, c2, by simp, rfl, rfl, List.Perm.refl _, hy2, by simp⟩
    case step2 =>
      rintro d ds acc C ⟨as, L, y, c', hl, rfl, rfl, hp, hy, hc'⟩ R hR
      have hpl := hp.length_eq
      simp [upto] at hpl
      simp only [List.length_cons] at hl
      rw [u_gvName, u_bYes, if_pos rfl, u_eMl]
      refine ⟨_, rfl, L.map .int, rfl, ?_⟩
      rw [u_aCons]
      refine pull_e (k := 0) (m := (L.length : Nat)) (x := y) rfl hy rfl (fun R h => ⟨_, rfl, _, _, rfl, rfl, by rw [List.length_map]; exact h⟩) (by omega) (by omega) (by omega) fun r y2 h0 h1 hy2 => ?_
      obtain ⟨j, rfl⟩ := Int.eq_ofNat_of_zero_le h0
      have hj : j < L.length := by omega
      refine ⟨1, L.map .int, (j : Nat), j, .int L[j], rfl, rfl, rfl, by omega, by omega, by rw [List.length_map]; exact seq_ix h0 h1, by rw [List.getElem?_map, List.getElem?_eq_getElem hj]; rfl, by simp; omega, fun k hk => by simp at hk, ?_⟩
      refine hR _ _ ⟨as ++ [L[j]], L.eraseIdx j, y2, c' + 1, by rw [List.length_eraseIdx_of_lt hj]; omega, by simp, ?_, ?_, hy2, by simp; omega⟩
      · show [y2, Cell.lst ((L.map D.int).eraseIdx j)] = _
        rw [er_map]
      · refine List.Perm.trans ?_ hp
        rw [List.append_assoc]
        refine List.Perm.append_left as ?_
        rw [List.eraseIdx_eq_take_drop_succ]
        show (L[j] :: (L.take j ++ L.drop (j + 1))).Perm L
        refine List.perm_middle.symm.trans ?_
        rw [← List.drop_eq_getElem_cons hj, List.take_append_drop]
    case stop2 =>
      rintro acc C ⟨as, L, y3, c3, hl, rfl, rfl, hp, hy3, hc3⟩
      have hL : L = [] := List.length_eq_zero_iff.mp hl.symm
      subst hL
      rw [List.append_nil] at hp
      have al : as.length = k := by rw [hp.length_eq]; simp [upto]
      have and : as.Nodup := hp.nodup_iff.mpr (List.pairwise_map.mpr (List.Pairwise.imp (fun h e => h (Int.ofNat.inj e)) (List.nodup_range (n := k))))
      rw [u_gvName]
      try dsimp only
      show sSeq (sPar 7 8 _) _ _ [some (.ptr 0), some (.int (k : Nat)), some (.int style), some (.lst false (ws.map .int)), none, some (.ptr 1), some (.lst false (as.map .int)), none, none, none, none, none] [y3, .lst []]
      rw [u_sSeq, u_sPar, u_aCons, u_eBin, u_eFrz, u_fLst]
      refine ⟨le5 _ (by simp), ?_⟩
      try dsimp only
      refine pull_e (k := 0) (m := 4) (x := y3) rfl hy3 rfl (fun R h => h) (by decide) (by decide) (by omega) fun sh y4 h40 h41 hy4 => ?_
      obtain ⟨share, e1, sh0, sh1⟩ := shareL h40 h41
      refine ⟨_, _, _, rfl, rfl, e1, ?_⟩
      show aCons _ _ _ _ _
      rw [u_aCons, u_eBin, u_eFrz, u_fLst]
      refine ⟨_, rfl, le5 _ (by simp), ?_⟩
      try dsimp only
      refine pull_e (k := 0) (m := 3) (x := y4) rfl hy4 rfl (fun R h => h) (by decide) (by decide) (by omega) fun nr y5 h50 h51 hy5 => ?_
      obtain ⟨near, e2, nr0, nr1⟩ := nearL h50 h51 hn
      refine ⟨_, _, _, rfl, rfl, e2, _, _, rfl, ?_⟩
      try dsimp only
      rw [u_sSeq, u_sAsg]
      refine ⟨le5 _ (by simp), ?_⟩
      try dsimp only
      rw [u_gvName, u_sSeq]
      refine ⟨_, rfl, k, rfl, by omega, by omega, rfl, np_rg' 0 _, ?_⟩
      rw [PN.rgI_range]
      have get : ∀ i : Nat, i < k → ∃ v : Int, as[i]? = some v ∧ atI (as.map D.int) (i : Int) = some (.int v) := fun i hi => by
        refine ⟨as[i]'(by omega), List.getElem?_eq_getElem _, ?_⟩
        exact ints_at (List.getElem?_eq_getElem (by omega))
      refine forW_run (fun ds Γ C => ∃ (a : Nat) (ps : List (Int × Int)) (y : Cell) (cc : Int), a ≤ k ∧ ds = ((List.range k).drop a).map (fun j : Nat => D.int (j : Nat)) ∧ C = [y, .lst [], .lst (ps.map pD)] ∧ Jar cc y ∧ cc ≤ c3 + 2 + 25 * a ∧ Upto as a 0 ps ∧ ps.Nodup ∧ ps.length ≤ 60 ∧
        ∃ t1 t2 t3, Γ = [some (.ptr 0), some (.int (k : Nat)), some (.int style), some (.lst false (ws.map .int)), t1, some (.ptr 1), some (.lst false (as.map .int)), some (.int share), some (.int near), some (.ptr 2), t2, t3]) ?step4 ?stop4 _ _ _ ⟨0, [], y5, c3 + 1 + 1, by omega, rfl, rfl, hy5, by omega, fun z hz => by simp at hz, List.nodup_nil, by simp, _, _, _, rfl⟩
      case step4 =>
        rintro d ds Γ C ⟨a, ps, y, cc, hak, eds, rfl, hy, hcc, hU, pn, hpl, t1, t2, t3, rfl⟩ R hR
        obtain ⟨hak, rfl, rfl⟩ := PN.rg_drop eds
        rw [u_gvName]
        try dsimp only
        obtain ⟨v1, ev1, av1⟩ := get a hak
        refine ⟨_, rfl, _, _, rfl, rfl, _, rfl, _, rfl, _, rfl, _, _, rfl, rfl, _, _, rfl, _, _, rfl, ⟨by omega, by omega, by omega, by omega⟩, rfl, rgI_np, ?_⟩
        have ht : (min (k : Int) ((a : Int) + near) - ((a : Int) + 1)).toNat + (a + 1) ≤ k := by omega
        have ht2 : (min (k : Int) ((a : Int) + near) - ((a : Int) + 1)).toNat ≤ 24 := by omega
        show forW _ _ _ (rgI ((a : Int) + 1) _) _ _
        generalize (min (k : Int) ((a : Int) + near) - ((a : Int) + 1)).toNat = t at ht ht2
        refine forW_run (fun ds Γ C => ∃ (b : Nat) (ps : List (Int × Int)) (y : Cell) (cb : Int), b ≤ t ∧ ds = ((List.range t).drop b).map (fun j : Nat => D.int ((a : Int) + 1 + (j : Nat))) ∧ C = [y, .lst [], .lst (ps.map pD)] ∧ Jar cb y ∧ cb ≤ cc + b ∧ Upto as a (a + 1 + b) ps ∧ ps.Nodup ∧ ps.length ≤ 60 ∧
          ∃ t2 t3, Γ = [some (.ptr 0), some (.int (k : Nat)), some (.int style), some (.lst false (ws.map .int)), some (.int (a : Nat)), some (.ptr 1), some (.lst false (as.map .int)), some (.int share), some (.int near), some (.ptr 2), t2, t3]) ?step5 ?stop5 _ _ _ ⟨0, ps, y, cc, by omega, rfl, rfl, hy, by omega, hU.le (.inr ⟨rfl, by omega⟩), pn, hpl, _, _, rfl⟩
        case step5 =>
          rintro d ds Γ C ⟨b, ps, y, cb, hbt, eds, rfl, hy, hcb, hU, pn, hpl, t2, t3, rfl⟩ R2 hR2
          obtain ⟨hbt, rfl, rfl⟩ := rgl_drop eds
          rw [u_gvName]
          try dsimp only
          rw [u_sIf]
          rw [u_bAnd, u_bB, u_eBin]
          refine pull_e (k := 0) (m := 8) (x := y) rfl hy rfl (fun R h => h) (by decide) (by decide) (by omega) fun r8 y6 h80 h81 hy6 => ?_
          refine ⟨_, rfl, _, _, rfl, rfl, _, rfl, ?_⟩
          by_cases hs : r8 < share
          · refine goT (decide_eq_true hs) ?_
            refine ⟨_, rfl, _, _, rfl, rfl, _, _, rfl, rfl, _, rfl, ?_⟩
            by_cases h60 : ps.length < 60
            · refine goT (by simp; omega) ?_
              obtain ⟨v2, ev2, av2⟩ := get (a + 1 + b) (by omega)
              rw [show ((a + 1 + b : Nat) : Int) = (a : Int) + 1 + (b : Nat) by omega] at av2
              obtain ⟨hU', pn'⟩ := hU.new and pn (by omega) ev1 ev2
              refine ⟨_, rfl, ps.map pD, rfl, _, rfl, _, rfl, _, _, _, rfl, rfl, av1, _, rfl, _, rfl, _, _, _, rfl, rfl, av2, le5 _ (by simp), 2, ps.map pD, _, rfl, rfl, rfl, by simp; omega, ?_⟩
              refine hR2 _ _ ⟨b + 1, ps ++ [(v1, v2)], y6, cb + 1, by omega, rfl, ?_, hy6, by omega, hU', pn', by simp; omega, _, _, rfl⟩
              rw [List.map_append]
              rfl
            · refine goF (by simp; omega) ?_
              exact hR2 _ _ ⟨b + 1, ps, y6, cb + 1, by omega, rfl, rfl, hy6, by omega, hU.le (.inr ⟨rfl, by omega⟩), pn, hpl, _, _, rfl⟩
          · refine goF (decide_eq_false hs) (goF rfl ?_)
            exact hR2 _ _ ⟨b + 1, ps, y6, cb + 1, by omega, rfl, rfl, hy6, by omega, hU.le (.inr ⟨rfl, by omega⟩), pn, hpl, _, _, rfl⟩
        case stop5 =>
          rintro Γ C ⟨b, ps, y, cb, hbt, eds, rfl, hy, hcb, hU, pn, hpl, t2, t3, rfl⟩
          exact hR _ _ ⟨a + 1, ps, y, cb, by omega, rfl, rfl, hy, by omega, hU.le (.inl (by omega)), pn, hpl, _, _, _, rfl⟩
      case stop4 =>
        rintro Γ C ⟨a, ps, y, cc, hak, eds, rfl, hy, hcc, hU, pn, hpl, t1, t2, t3, rfl⟩
        obtain rfl := PN.rg_stop hak eds
        try dsimp only
        rw [u_sRet, u_eTup, u_aCons, u_eBin, u_eC]
        refine pull_e (k := 0) (m := 2) (x := y) rfl hy rfl (fun R h => h) (by decide) (by decide) (by omega) fun rf y7 hf0 hf1 hy7 => ?_
        obtain ⟨fc, hfc, hfs⟩ := RB_at hf0 hf1
        refine ⟨_, _, fc, rfl, rfl, by rw [RB_len, hz]; decide, hfc, ?_⟩
        show aCons _ _ _ _ _
        rw [u_aCons]
        refine ⟨⟨_, rfl⟩, _, rfl, ws.map .int, rfl, ?_⟩
        have al2 : ws.length = a := hk
        refine PN.lc_of ws .int (fun w => .str (sgn w)) (fun _ h => by simp [srcOf] at h) (by omega) (fun w hwm R1 hR1 => ?_) ?_
        · obtain ⟨w0, w1⟩ := hw w hwm
          obtain ⟨wc, hwc, hws⟩ := sgn_at w0 w1
          rw [u_gvName]
          refine ⟨_, rfl, _, _, wc, rfl, rfl, by rw [RB_len, hz]; decide, hwc, ?_⟩
          rw [hws]
          exact hR1
        have hall : ∀ y, y ∈ ws.map sgn → y = cR ∨ y = cB := fun y hy => by
          obtain ⟨w, _, rfl⟩ := List.mem_map.mp hy
          exact sgn_two w
        obtain ⟨jl, jc⟩ := join_signs _ hall
        have e0 : (Str.ofString "").length = 0 := by decide +kernel
        refine ⟨_, _, ws.map sgn, rfl, rfl, by simp [Cell.frz, seqOf, lstOf], by rw [sum_one _ hall, e0]; simp; omega, ?_⟩
        show aCons _ _ _ _ _
        rw [u_aCons]
        refine ⟨_, rfl, .ptr 2, ps, rfl, rfl, fun qs hqp hqs => ?_⟩
        obtain ⟨r1, r2⟩ := along_ok (n := a) hp (hqp.nodup_iff.mpr pn) (by rw [hqp.length_eq]; omega) (fun z hz => hU.along z (hqp.mem_iff.mp hz)) hqs
        obtain ⟨ja, jb, jk, rfl, hj⟩ := hy7
        have hl0 : (Txt.join (Str.ofString "") (ws.map sgn)).length = a := by rw [jl]; simp [hk]
        have e1 : ∀ (C : Store) (z w : Str), fin 1 C (.tup [.str z, .str w, .lst false (qs.map pD)]) = .tup [.str z, .str w, .lst false (qs.map pD)] := fun C z w => by
          unfold fin
          simp only [mapW, mapWs, mapWs_flat (flat_pairs qs)]
          rfl
        refine ⟨le5 _ (by simp), ?_⟩
        show Q3 (fin 1 _ (.tup [.str ⟨#[fc]⟩, .str (Txt.join (Str.ofString "") (ws.map sgn)), .lst false (qs.map pD)])) _
        rw [e1]
        exact q ⟨#[fc]⟩ (Txt.join (Str.ofString "") (ws.map sgn)) qs _ _ ⟨hfs, by omega, by omega, jc, by rw [hl0]; exact r1, r2⟩ hl0 ⟨ja, jb, jk, rfl, hj⟩ (by omega)
end ST
end L3
namespace L3
namespace ST
open PySem PySem.Spec PyProof.Rows L2
theorem chg_e {ip ii ij i j : Nat} {o : Bool} {f st : Str} {rs : List (Int × Int)} {Γ : Slots} {C : Store} {R : D → Store → Prop} (h1 : Γ[ip]? = some (some (pil o f st rs))) (h2 : Γ[ii]? = some (some (.int (i : Nat)))) (h3 : Γ[ij]? = some (some (.int (j : Nat)))) (h24 : st.length ≤ 24) (hi : i < st.length) (hj : j < st.length) (q : R (.int (chOf st i j)) C) :
    eCB oInt (aCons (eBin (oEq true) (eBin oIxS (eBin oIxT (eVar ip) (eC (.int 1))) (eVar ii)) (eBin oIxS (eBin oIxT (eVar ip) (eC (.int 1))) (eVar ij))) aNil) Γ C R := by
  have hz := sizeL
  refine ⟨_, h1, _, _, _, rfl, rfl, rfl, _, h2, st, (i : Nat), sg st i, rfl, rfl, by omega, sg_at hi, _, h1, _, _, _, rfl, rfl, rfl, _, h3, st, (j : Nat), sg st j, rfl, rfl, by omega, sg_at hj, ?_⟩
  show R (.int (if (true != decide ((⟨#[sg st i]⟩ : Str) = ⟨#[sg st j]⟩)) = true then 1 else 0)) _
  rw [one_ne]
  exact q
def P_Lw_low : PV := fun ds C Q => ∃ (o : Bool) (f st : Str) (rs : List (Int × Int)), ds = [pil o f st rs] ∧ Pil f st rs ∧ ∀ v, PFix f st rs v → Q (.lst false (wL st.length v)) C
theorem v_Lw_low (ds : List D) (C : Store) (Q3 : D → Store → Prop) (h : P_Lw_low ds C Q3) (hC : C.length = 0) : T_Lw_low (enF 0 Q3) (start3 N_Lw_low ds) C := by
  obtain ⟨o, f, st, rs, rfl, hp, q⟩ := h
  rw [List.length_eq_zero_iff] at hC
  subst hC
  have hz := sizeL
  have h24 := hp.top
  have hr := hp.rul
  obtain ⟨V, hV⟩ := fix_ex (n := st.length) (bsOf f st) (chOf st) hr.inn hp.acy
  obtain ⟨r, hr1, hr2⟩ := ranks hr.inn hp.acy
  refine ⟨_, rfl, _, _, _, rfl, rfl, rfl, _, rfl, ?_⟩
  refine lc_map (fun d => match d with | .str s => D.int (neq (s.cps.toList.getD 0 0) (f0 f)) | d => d) (signs st) (fun _ h => by simp at h) (by unfold signs; rw [List.length_map, Array.length_toList]; show st.length ≤ _; omega) (fun d hd R hR => ?_) ?_
  · obtain ⟨c, hc, rfl⟩ := List.mem_map.mp hd
    refine ⟨_, rfl, _, rfl, _, _, _, rfl, rfl, rfl, ?_⟩
    show R (.int (if (true != decide ((⟨#[c]⟩ : Str) = f)) = true then 1 else 0)) _
    rw [f_one hp.fst, one_ne]
    have hR' : R (.int (neq c (f0 f))) [] := hR
    have e : f0 (⟨#[f0 f]⟩ : Str) = f0 f := rfl
    exact hR'
  have eS : (signs st).map (fun d => match d with | .str s => D.int (neq (s.cps.toList.getD 0 0) (f0 f)) | d => d) = wL st.length (bsOf f st) := signs_wL
  rw [eS]
  refine ⟨_, rfl, _, _, rfl, rfl, st.length, by rw [wL_len], by omega, by omega, rfl, np_rg' 0 _, ?_⟩
  refine forW_run (fun ds Γ C => ∃ (k : Nat) (v : Nat → Int), k + ds.length = st.length ∧ C = [.lst (wL st.length v)] ∧ RInv st.length (bsOf f st) (chOf st) rs r V k [] v ∧ ∃ a b c d, Γ = [some (pil o f st rs), some (.ptr 0), a, b, c, d]) ?step ?stop _ _ _ ⟨0, bsOf f st, by rw [rg_len']; simp, rfl, RInv.start hV, _, _, _, _, rfl⟩
  case step =>
    rintro d ds Γ C ⟨k, v, hk, rfl, hI, a, b, c, d', rfl⟩ R hR
    simp only [List.length_cons] at hk
    refine ⟨_, rfl, _, _, _, rfl, rfl, rfl, _, rfl, rfl, np_pairs rs, ?_⟩
    refine forW_run (fun ds Γ C => ∃ (dn rest : List (Int × Int)) (v : Nat → Int), rs = dn ++ rest ∧ ds = rest.map pD ∧ C = [.lst (wL st.length v)] ∧ RInv st.length (bsOf f st) (chOf st) rs r V k dn v ∧ ∃ a b c e, Γ = [some (pil o f st rs), some (.ptr 0), a, b, c, e]) ?step2 ?stop2 _ _ _ ⟨[], rs, v, rfl, rfl, rfl, hI, _, _, _, _, rfl⟩
    case step2 =>
      rintro d ds Γ C ⟨dn, rest, v, e3, e4, rfl, I, a, b, c, e, rfl⟩ R2 hR2
      cases rest with
      | nil => cases e4
      | cons z rest =>
      simp only [List.map_cons, List.cons.injEq] at e4
      obtain ⟨rfl, rfl⟩ := e4
      have hzm : z ∈ rs := by rw [e3]; simp
      obtain ⟨a1, a2, a3, a4, a5⟩ := hr.inn z hzm
      obtain ⟨i, hi⟩ := Int.eq_ofNat_of_zero_le a1
      obtain ⟨j, hj⟩ := Int.eq_ofNat_of_zero_le a3
      have hi' : i < st.length := by omega
      have hj' : j < st.length := by omega
      obtain ⟨zi, zj⟩ := z
      simp only at hi hj
      subst hi hj
      have st1 := I.step hV hzm hi' hj'
      refine ⟨_, rfl, rfl, _, _, rfl, _, _, rfl, rfl, ?_⟩
      refine ⟨_, rfl, _, rfl, _, _, _, rfl, rfl, wL_at hj', ?_⟩
      refine ⟨_, rfl, _, rfl, _, _, _, rfl, rfl, wL_at hi', ?_⟩
      show eCB oInt _ _ _ _
      refine chg_e (o := o) (i := i) (j := j) rfl rfl rfl h24 hi' hj' ?_
      refine ⟨_, _, rfl, rfl, _, _, rfl, ?_⟩
      refine ⟨_, rfl, _, rfl, 0, wL st.length v, _, j, rfl, rfl, rfl, by rw [wL_len]; exact ix_nat hj', ?_⟩
      show R2 _ [Cell.lst ((wL st.length v).set j (.int (max (v j) (v i + chOf st i j))))]
      have es : (wL st.length v).set j (.int (max (v j) (v i + chOf st i j))) = wL st.length (fun k => if k = j then max (v k) (v i + chOf st i j) else v k) := by
        rw [wL_set hj']
        congr 1
        funext k
        by_cases e : k = j
        · subst e; simp
        · rw [if_neg e, if_neg e]
      rw [es]
      exact hR2 _ _ ⟨dn ++ [((i : Int), (j : Int))], rest, _, by rw [e3]; simp, rfl, rfl, st1, _, _, _, _, rfl⟩
    case stop2 =>
      rintro Γ C ⟨dn, rest, v, e3, e4, rfl, I, a, b, c, e, rfl⟩
      cases rest with
      | cons z rest => cases e4
      | nil =>
      rw [List.append_nil] at e3
      subst e3
      exact hR _ _ ⟨k + 1, v, by omega, rfl, I.next hV hr2, _, _, _, _, rfl⟩
  case stop =>
    rintro Γ C ⟨k, v, hk, rfl, hI, a, b, c, d', rfl⟩
    simp only [List.length_nil, Nat.add_zero] at hk
    subst hk
    have ev : wL st.length v = wL st.length V := by
      unfold wL
      apply List.map_congr_left
      intro j hj
      have hj' : j < st.length := by simpa using hj
      rw [hI.eq j hj' (hr1 j hj')]
    refine ⟨_, rfl, ?_⟩
    show Q3 (fin 0 _ (.ptr 0)) (finS 0 _)
    rw [fin_wL rfl, finS0, ev]
    exact q V hV
def P_Lw_plans : PV := fun ds C Q => ∃ (o : Bool) (f st : Str) (rs : List (Int × Int)) (top : Int), ds = [pil o f st rs, .int top] ∧ Pil f st rs ∧ st.length ≤ 5 ∧ 0 ≤ top ∧ top ≤ 10 ∧ Q (.lst false ((allP f st rs top).map rD)) C
def isOver (l : List Int) : D → Bool
  | .tup [.int a, .int b] => decide (l.getD a.toNat 0 > l.getD b.toNat 0)
  | _ => false
theorem over_eq (l : List Int) : ∀ rs : List (Int × Int), ((rs.map pD).filter (isOver l)).map (fun _ => D.int 1) = ((rs.filter fun z => decide (l.getD z.1.toNat 0 > l.getD z.2.toNat 0)).map fun _ => (1 : Int)).map .int
  | [] => rfl
  | z :: rs => by
    have ih := over_eq l rs
    have e : isOver l (pD z) = decide (l.getD z.1.toNat 0 > l.getD z.2.toNat 0) := rfl
    rw [List.map_cons, List.filter_cons, List.filter_cons, e]
    cases h : decide (l.getD z.1.toNat 0 > l.getD z.2.toNat 0) with
    | true =>
      rw [if_pos rfl, if_pos rfl, List.map_cons, ih]
      rfl
    | false => rw [if_neg (by decide), if_neg (by decide), ih]
theorem filt_rD (t : List Int → Bool) : ∀ ls : List (List Int), ((ls.map rD).filter fun d => t (unI d)).map (fun d => d) = (ls.filter t).map rD
  | [] => rfl
  | l :: ls => by
    have ih := filt_rD t ls
    rw [List.map_cons, List.filter_cons, List.filter_cons, unI_rD]
    cases h : t l with
    | true => rw [if_pos rfl, if_pos rfl, List.map_cons, ih]; rfl
    | false => rw [if_neg (by decide), if_neg (by decide), ih]
theorem v_Lw_plans (ds : List D) (C : Store) (Q3 : D → Store → Prop) (h : P_Lw_plans ds C Q3) (hC : C.length = 0) : T_Lw_plans (enF 0 Q3) (start3 N_Lw_plans ds) C := by
  obtain ⟨o, f, st, rs, top, rfl, hp, hn, ht0, ht8, q⟩ := h
  rw [List.length_eq_zero_iff] at hC
  subst hC
  have hz := sizeL
  have hrf := hp.rul.few
  have htm : top + 2 ≤ 2 * ((6 : Nat) : Int) := by omega
  have hsz : ∀ k, k ≤ 5 → (plansK f st top k).length ≤ 7776 := fun k hk => by
    have h1 := plansK_size (f := f) (st := st) htm k
    have h2 : 6 ^ k ≤ 6 ^ 5 := Nat.pow_le_pow_right (by decide) hk
    have h3 : 6 ^ 5 = 7776 := by decide
    omega
  refine ⟨Nat.zero_le _, by rw [hz]; show 1 ≤ 16777216; decide, ?_⟩
  refine ⟨_, rfl, _, _, _, rfl, rfl, rfl, by omega, (st.length : Nat), rfl, by omega, by omega, rfl, np_rg' 0 _, ?_⟩
  rw [rg_upto]
  refine forW_run (fun ds Γ C => ∃ (k : Nat) (d : D), k + ds.length = st.length ∧ ds = ((List.range st.length).drop k).map (fun i : Nat => D.int (i : Nat)) ∧ ((k = 0 ∧ d = .lst false [.lst false []]) ∨ ∃ m, d = .ptr m ∧ C[m]? = some (.lst ((plansK f st top k).map rD))) ∧ ∃ a3 a4 a5 a6 a7 a8 a9, Γ = [some (pil o f st rs), some (.int top), some d, a3, a4, a5, a6, a7, a8, a9]) ?step ?stop _ _ _ ⟨0, _, by simp [upto], by simp [upto], .inl ⟨rfl, rfl⟩, _, _, _, _, _, _, _, rfl⟩
  case step =>
    rintro d0 ds Γ C0 ⟨k, d, hk, eds, hd, a3, a4, a5, a6, a7, a8, a9, rfl⟩ R hR
    simp only [List.length_cons] at hk
    have hkn : k < st.length := by omega
    rw [List.drop_eq_getElem_cons (by simpa using hkn)] at eds
    simp only [List.getElem_range, List.map_cons, List.cons.injEq] at eds
    obtain ⟨rfl, rfl⟩ := eds
    have hszk := hsz k (by omega)
    have hls : lstOf (C0 ++ [Cell.lst []]) d = some ((plansK f st top k).map rD) ∧ ∀ j, j ∈ srcOf d → j < C0.length := by
      rcases hd with ⟨rfl, rfl⟩ | ⟨m, rfl, hm⟩
      · exact ⟨rfl, fun j hj => by simp [srcOf] at hj⟩
      · have hlt := (List.getElem?_eq_some_iff.mp hm).1
        refine ⟨?_, fun j hj => by simp [srcOf] at hj; rw [hj]; exact hlt⟩
        simp only [lstOf]
        rw [List.getElem?_append_left hlt, hm]
    rw [u_gvName]
    show sSeq (sAsg (eCB oInt (aCons (eBin (oEq true) (eBin oIxS (eBin oIxT (eVar 0) (eC (.int 1))) (eVar 3)) (eBin oIxT (eVar 0) (eC (.int 0)))) aNil)) (gvName 4)) _ _ _ _
    rw [u_sSeq, u_sAsg]
    refine base_e (o := o) rfl rfl hp hkn ?_
    refine ⟨Nat.zero_le _, ?_⟩
    refine ⟨_, rfl, (plansK f st top k).map rD, hls.1, np_rD _, ?_⟩
    have hb0 : 0 ≤ bsOf f st k ∧ bsOf f st k ≤ 1 := neq01 _ _
    refine forC_run (fun ds Γ C => ∃ (done rest : List (List Int)), plansK f st top k = done ++ rest ∧ ds = rest.map rD ∧ C = C0 ++ [.lst ((done.flatMap (stepP f st top k)).map rD)] ∧ ∃ a3 a6 a7 a8 a9, Γ = [some (pil o f st rs), some (.int top), some d, a3, some (.int (bsOf f st k)), some (.ptr C0.length), a6, a7, a8, a9]) ?step2 ?stop2 _ _ _ ⟨[], plansK f st top k, rfl, rfl, rfl, _, _, _, _, _, rfl⟩
    case step2 =>
      rintro d1 ds1 Γ C ⟨done, rest, e1, e2, rfl, a3, a6, a7, a8, a9, rfl⟩ R2 hR2
      cases rest with
      | nil => cases e2
      | cons line rest =>
      simp only [List.map_cons, List.cons.injEq] at e2
      obtain ⟨rfl, rfl⟩ := e2
      have hdl : done.length + 1 ≤ 7776 := by
        rw [e1] at hszk
        simp at hszk
        omega
      have hlm : line ∈ plansK f st top k := by rw [e1]; simp
      have hll := ((plansK_mem _ _).mp hlm).1
      have hfl := flatP_len (f := f) (st := st) (k := k) htm done
      have hbl := blks_len (top := top) (b := bsOf f st k) hb0.1 htm
      refine ⟨_, rfl, _, lst_last _ _, _, rfl, _, rfl, _, _, rfl, rfl, _, _, rfl, ⟨by omega, by omega, by omega, by omega⟩, ?_⟩
      have erg : rgC (bsOf f st k) 2 ((top + 1 - bsOf f st k + 1) / 2).toNat = (blks top (bsOf f st k)).map .int := by
        unfold rgC blks
        rw [List.map_map]
        rfl
      rw [erg]
      refine lc_map (fun d => match d with | .int b => rD (line ++ [b]) | d => d) ((blks top (bsOf f st k)).map .int) (fun _ h => by simp at h) (by rw [List.length_map]; omega) (fun d hd R hR => ?_) ?_
      · obtain ⟨b, hb, rfl⟩ := List.mem_map.mp hd
        refine ⟨_, rfl, _, rfl, by rw [hz]; show 1 ≤ 16777216; decide, _, _, rfl, rfl, by simp only [List.length_map, List.length_cons, List.length_nil]; omega, ?_⟩
        have hR' : R (rD (line ++ [b])) _ := hR
        unfold rD at hR'
        rw [List.map_append] at hR'
        exact hR'
      have em : ((blks top (bsOf f st k)).map D.int).map (fun d => match d with | .int b => rD (line ++ [b]) | d => d) = (stepP f st top k line).map rD := by
        unfold stepP
        rw [List.map_map, List.map_map]
        rfl
      rw [em]
      refine ⟨C0.length, _, _, _, rfl, rfl, get_last _ _, rfl, ?_, ?_⟩
      · have : (stepP f st top k line).length = (blks top (bsOf f st k)).length := by simp [stepP]
        rw [List.length_map, List.length_map]
        omega
      rw [set_last, ← List.map_append]
      refine hR2 _ _ (fun j hj => ?_) ⟨done ++ [line], rest, by rw [e1]; simp, rfl, ?_, _, _, _, _, _, rfl⟩
      · have := hls.2 j hj
        rw [List.getElem?_append_left this, List.getElem?_append_left this]
      · rw [List.flatMap_append]
        simp
    case stop2 =>
      rintro Γ C ⟨done, rest, e1, e2, rfl, a3, a6, a7, a8, a9, rfl⟩
      cases rest with
      | cons p rest => cases e2
      | nil =>
      rw [List.append_nil] at e1
      subst e1
      exact ⟨_, rfl, hR _ _ ⟨k + 1, .ptr C0.length, by omega, rfl, .inr ⟨C0.length, rfl, by rw [get_last]; rfl⟩, _, _, _, _, _, _, _, rfl⟩⟩
  case stop =>
    rintro Γ C ⟨k, d, hk, eds, hd, a3, a4, a5, a6, a7, a8, a9, rfl⟩
    simp only [List.length_nil, Nat.add_zero] at hk
    subst hk
    have := hp.pos
    rcases hd with ⟨h0, _⟩ | ⟨m, rfl, hm⟩
    · omega
    · refine ⟨_, rfl, (plansK f st top st.length).map rD, by simp only [lstOf, hm], ?_⟩
      have hszn := hsz st.length hn
      refine lc_filter (fun d => ledB rs (unI d)) (fun d => d) ((plansK f st top st.length).map rD) (fun _ _ => rfl) (by rw [List.length_map]; omega) (fun d hd R R' hR hR' => ?_) ?_
      · obtain ⟨l, hl, rfl⟩ := List.mem_map.mp hd
        have hll := ((plansK_mem _ _).mp hl).1
        rw [unI_rD] at hR hR'
        refine ⟨_, rfl, _, _, _, rfl, rfl, rfl, _, rfl, ?_⟩
        refine lc_filter (isOver l) (fun _ => .int 1) (rs.map pD) (fun _ _ => rfl) (by rw [List.length_map]; omega) (fun d hd R2 R2' hR2 hR2' => ?_) ?_
        · obtain ⟨z, hzm, rfl⟩ := List.mem_map.mp hd
          obtain ⟨b1, b2, b3, b4, _⟩ := hp.rul.inn z hzm
          obtain ⟨i, hi⟩ := Int.eq_ofNat_of_zero_le b1
          obtain ⟨j, hj⟩ := Int.eq_ofNat_of_zero_le b3
          obtain ⟨zi, zj⟩ := z
          simp only at hi hj
          subst hi hj
          refine ⟨_, rfl, rfl, _, _, rfl, _, _, rfl, rfl, ?_⟩
          refine ⟨_, rfl, _, rfl, _, _, _, rfl, rfl, getD_at (i := j) (by omega), _, rfl, _, rfl, _, _, _, rfl, rfl, getD_at (i := i) (by omega), _, _, rfl, rfl, _, rfl, ?_⟩
          by_cases h : l.getD i 0 > l.getD j 0
          · exact goT (decide_eq_true h) (hR2 (by simp only [isOver, pD, Int.toNat_natCast]; exact decide_eq_true h))
          · exact goF (decide_eq_false h) (hR2' (by simp only [isOver, pD, Int.toNat_natCast]; exact decide_eq_false h))
        · rw [over_eq]
          refine ⟨Nat.zero_le _, ?_⟩
          refine oEq_ints (o := false) (o' := false) (ms := []) ⟨_, rfl, ?_⟩
          cases hb : ledB rs l with
          | true =>
            have h2 : decide (((rs.filter fun z => decide (l.getD z.1.toNat 0 > l.getD z.2.toNat 0)).map fun _ => (1 : Int)) = []) = true := hb
            refine goT (by rw [h2]; rfl) ?_
            exact ⟨_, rfl, hR hb⟩
          | false =>
            have h2 : decide (((rs.filter fun z => decide (l.getD z.1.toNat 0 > l.getD z.2.toNat 0)).map fun _ => (1 : Int)) = []) = false := hb
            exact goF (by rw [h2]; rfl) (hR' hb)
      · rw [filt_rD]
        show Q3 (fin 0 C (.lst false ((allP f st rs top).map rD))) (finS 0 C)
        have e1 : fin 0 C (.lst false ((allP f st rs top).map rD)) = .lst false ((allP f st rs top).map rD) := by
          unfold fin
          rw [mapW, mapW_np.2 _ (np_rD _)]
          rfl
        rw [e1, finS0]
        exact q
end ST
end L3
namespace L3
namespace ST
open PySem PySem.Spec PyProof.Rows L2
theorem test0 {i : Nat} {o : Bool} {ns : List Int} {A B : EV} {Γ : Slots} {C : Store} {R : D → Store → Prop} (h : Γ[i]? = some (some (.lst o (ns.map .int)))) (hA : ns = [] → A Γ C R) (hB : ns ≠ [] → B Γ C R) : eIf (bB (eBin (oEq false) (eVar i) (eFrz (fLst aNil)))) A B Γ C R := by
  refine ⟨_, h, Nat.zero_le _, ?_⟩
  refine oEq_ints (o := o) (o' := false) (ns := ns) (ms := []) ⟨_, rfl, ?_⟩
  by_cases he : ns = []
  · exact goT (by simp [he]) (hA he)
  · exact goF (by simp [he]) (hB he)
def P_Lw_size : PV := fun ds C Q => ∃ (o : Bool) (ns : List Int) (m c : Int) (x : Cell), ds = [.ptr 0, .lst o (ns.map .int), .int m] ∧ (3 ≤ m ∧ m ≤ 24) ∧ C = [x] ∧ Jar c x ∧ c < 10 ^ 5 ∧ ∀ r y, 1 ≤ r → r ≤ m → Jar (c + 1) y → Q (.int r) [y]
theorem v_Lw_size (ds : List D) (C : Store) (Q3 : D → Store → Prop) (h : P_Lw_size ds C Q3) (hC : C.length = 1) : T_Lw_size P_Lw_dip (enF 1 Q3) (start3 N_Lw_size ds) C := by
  obtain ⟨o, ns, m, c, x, rfl, hm, rfl, hx, hc, q⟩ := h
  have fin' : ∀ (r : Int) (y : Cell), 1 ≤ r → r ≤ m → Jar (c + 1) y → Q3 (fin 1 [y] (.int r)) (finS 1 [y]) := fun r y h1 h2 hy => by
    have := q r y h1 h2 hy
    obtain ⟨a, b, k, rfl, hj⟩ := hy
    exact this
  unfold T_Lw_size
  rw [u_sRet]
  refine test0 rfl (fun _ => ?_) (fun _ => ?_)
  · rw [u_eBin, u_eC]
    refine pull_e (k := 0) (m := 2) (x := x) rfl hx rfl (fun R h => h) (by decide) (by decide) (by omega) fun r y h0 h1 hy => ?_
    exact ⟨_, _, rfl, rfl, fin' _ _ (by omega) (by omega) hy⟩
  · rw [u_eBin, u_eC]
    refine pull_e (k := 0) (m := m) (x := x) rfl hx rfl (fun R h => ⟨_, rfl, h⟩) (by omega) (by omega) (by omega) fun r y h0 h1 hy => ?_
    exact ⟨_, _, rfl, rfl, fin' _ _ (by omega) (by omega) hy⟩
def P_Lw_most : PV := fun ds C Q => ∃ (o o' o2 : Bool) (ns ss : List Int) (B c : Int) (f st : Str) (rs : List (Int × Int)) (x : Cell), ds = [.ptr 0, .lst o (ns.map .int), pil o' f st rs, .lst o2 (ss.map .int)] ∧ C = [x] ∧ Jar c x ∧ c < 10 ^ 5 ∧ Pil f st rs ∧ ss ≠ [] ∧ ss.length ≤ 100 ∧ 3 ≤ B ∧ (∀ s, s ∈ ss → 0 ≤ s ∧ s ≤ B) ∧
  ∀ r y, 0 ≤ r → r ≤ 10 ^ 30 → (∀ v m, PFix f st rs v → IsMax st.length v m → m ≤ r ∧ r ≤ m + B) → Jar (c + 1) y → Q (.int r) [y]
theorem v_Lw_most (ds : List D) (C : Store) (Q3 : D → Store → Prop) (h : P_Lw_most ds C Q3) (hC : C.length = 1) : T_Lw_most P_Lw_low P_Lw_dip (enF 1 Q3) (start3 N_Lw_most ds) C := by
  obtain ⟨o, o', o2, ns, ss, B, c, f, st, rs, x, rfl, rfl, hx, hc, hp, hne, hss, hB, hs, q⟩ := h
  have hz := sizeL
  have fin' : ∀ (r : Int) (y : Cell), 0 ≤ r → r ≤ 10 ^ 30 → (∀ v m, PFix f st rs v → IsMax st.length v m → m ≤ r ∧ r ≤ m + B) → Jar (c + 1) y → Q3 (fin 1 [y] (.int r)) (finS 1 [y]) := fun r y h1 h2 h3 hy => by
    have := q r y h1 h2 h3 hy
    obtain ⟨a, b, k, rfl, hj⟩ := hy
    exact this
  unfold T_Lw_most
  rw [u_sSeq, u_sAsg]
  refine ⟨_, rfl, true, f, st, rs, by rw [views_pil, views_nil], hp, fun v V => ⟨np_wL, _, _, rfl, wl_lst, wl_pos hp.pos, fun m hm hle => ?_⟩⟩
  have M := max_of hm hle
  have bd := max_n hp V M
  have h24 := hp.top
  have un : ∀ w k, PFix f st rs w → IsMax st.length w k → k = m := fun w k W K => pfix_max hp W V K M
  try dsimp only
  rw [u_gvName, u_sRet]
  refine test0 (o := o) (ns := ns) rfl (fun _ => ?_) (fun _ => ?_)
  · rw [u_eBin]
    refine ⟨_, rfl, _, _, rfl, rfl, ?_⟩
    refine pull_e (k := 0) (m := 3) (x := x) rfl hx rfl (fun R h => h) (by decide) (by decide) (by omega) fun r y h0 h1 hy => ?_
    exact ⟨_, _, rfl, rfl, fin' _ _ (by omega) (by omega) (fun w k W K => by have := un w k W K; omega) hy⟩
  · rw [u_eCB, u_aCons, u_eBin, u_eC]
    refine ⟨_, _, rfl, rfl, cpow10 30 (by decide), ?_⟩
    show aCons _ _ _ _ _
    rw [u_aCons, u_eBin]
    refine ⟨_, rfl, ?_⟩
    show eBin oIxL (eVar 3) _ _ _ _
    rw [u_eBin]
    refine ⟨_, rfl, ?_⟩
    have hpos : 0 < ss.length := List.length_pos_iff.mpr hne
    refine pull_e (k := 0) (m := (ss.length : Nat)) (x := x) rfl hx rfl (fun R h => ⟨_, rfl, _, _, rfl, rfl, by rw [List.length_map]; exact h⟩) (by omega) (by omega) (by omega) fun r y h0 h1 hy => ?_
    obtain ⟨j, rfl⟩ := Int.eq_ofNat_of_zero_le h0
    have hj : j < ss.length := by omega
    have hsj := hs ss[j] (List.getElem_mem _)
    refine ⟨_, _, _, rfl, rfl, ints_at (List.getElem?_eq_getElem hj), _, _, rfl, rfl, ?_⟩
    refine ⟨_, _, rfl, ?_⟩
    have e30 : (10 : Int) ^ ((30 : Int).toNat) = 10 ^ 30 := rfl
    refine fin' _ _ ?_ ?_ ?_ hy
    · rw [e30]; omega
    · rw [e30]; omega
    · intro w k W K
      have := un w k W K
      rw [e30]
      omega
end ST
end L3
namespace L3
namespace ST
open PySem PySem.Spec PyProof.Rows L2
def cnt (top : Int) (v u : Nat → Int) : Nat → Int := fun j => (late top v u j - v j) / 2
def sumC (n : Nat) (c : Nat → Int) : Int := ((List.range n).map c).sum
end ST
end L3
namespace L3
namespace ST
open PySem PySem.Spec PyProof.Rows L2
open PN (lc_of lc_rowsF lc_ofF rgI_range Sm P_sm)
theorem noptrs_all : ∀ {xs : List D}, (∀ x, x ∈ xs → noptr x = true) → noptrs xs = true
  | [], _ => rfl
  | x :: xs, h => by
    simp only [noptrs, h x (List.mem_cons_self ..), noptrs_all fun y hy => h y (List.mem_cons_of_mem _ hy), Bool.and_self]
theorem zipD_zip : ∀ xs ys : List D, zipD xs ys = (xs.zip ys).map fun z => .tup [z.1, z.2]
  | [], _ => by simp [zipD]
  | _ :: _, [] => by simp [zipD]
  | x :: xs, y :: ys => by simp [zipD, zipD_zip xs ys]
end ST
end L3
namespace L3
namespace ST
open PySem PySem.Spec PyProof.Rows L2
open PN (lc_of lc_rowsF lc_ofF rgI_range Sm P_sm)
end ST
end L3
namespace L3
namespace ST
open PySem PySem.Spec PyProof.Rows L2
open PN (Sm P_sm)
theorem wMax {n : Nat} (h : 1 ≤ n) (v : Nat → Int) : ∃ k, IsMax n v k := by
  obtain ⟨k, hk, hmx⟩ := ex_least (fun a b : Int => b ≤ a) (fun a b => by omega) (fun a b c h1 h2 => by omega) ((List.range n).map v) (by
    intro e
    have := congrArg List.length e
    simp at this
    omega)
  exact ⟨k, max_of hk hmx⟩
theorem sumC_le {c : Nat → Int} {B : Int} : ∀ n : Nat, (∀ j, j < n → c j ≤ B) → sumC n c ≤ B * n
  | 0, _ => by simp [sumC]
  | n + 1, h => by
    have e : sumC (n + 1) c = sumC n c + c n := by
      unfold sumC
      rw [List.range_succ, List.map_append, List.sum_append]
      simp
    have ih := sumC_le n fun j hj => h j (by omega)
    have hn := h n (by omega)
    rw [e, Int.natCast_add, Int.mul_add]
    omega
theorem oEq_p {neg o : Bool} {C : Store} {k : Nat} {ns ms : List Int} {q : D → Prop} (hk : C[k]? = some (.lst (ns.map .int))) (h : q (.bl (neg != decide (ns = ms)))) : oEq neg C (.ptr k) (.lst o (ms.map .int)) q := by
  refine ⟨.list (ns.map .int), .list (ms.map .int), ?_, pyD_ints ms, shaped_ints ns, shaped_ints ms, ?_⟩
  · unfold pyD
    simp only [pyW, pyG, hk, pyWs_ints]
    rfl
  · rw [eqv_ints]
    exact h
theorem ints_wL {l : List Int} {n : Nat} (h : l.length = n) : l.map D.int = wL n fun j => l.getD j 0 := by
  rw [wL_ints]
  congr 1
  apply List.ext_getElem?
  intro i
  rw [List.getElem?_map]
  by_cases hi : i < n
  · rw [List.getElem?_range hi, List.getElem?_eq_getElem (by omega)]
    simp [List.getD_eq_getElem?_getD, List.getElem?_eq_getElem (show i < l.length by omega)]
  · rw [List.getElem?_eq_none (by omega), List.getElem?_eq_none (by simp; omega)]
    rfl
end ST
end L3
namespace L3
namespace ST
open PySem PySem.Spec PyProof.Rows L2
theorem mono_size {ds : List D} {C : Store} (R R' : D → Store → Prop) (h : ∀ d Cc, R d Cc → R' d Cc) : P_Lw_size ds C R → P_Lw_size ds C R' := fun ⟨o, ns, m, c, x, e1, e2, e3, e4, e5, q⟩ => ⟨o, ns, m, c, x, e1, e2, e3, e4, e5, fun r y a b d => h _ _ (q r y a b d)⟩
theorem mono_pile {ds : List D} {C : Store} (R R' : D → Store → Prop) (h : ∀ d Cc, R d Cc → R' d Cc) : P_Lw_pile ds C R → P_Lw_pile ds C R' := fun ⟨n, c, x, e1, e2, e3, e4, e5, e6, q⟩ => ⟨n, c, x, e1, e2, e3, e4, e5, e6, fun f st rs c' y a b d e => h _ _ (q f st rs c' y a b d e)⟩
theorem mono_most {ds : List D} {C : Store} (R R' : D → Store → Prop) (h : ∀ d Cc, R d Cc → R' d Cc) : P_Lw_most ds C R → P_Lw_most ds C R' := fun ⟨o, o', o2, ns, ss, B, c, f, st, rs, x, e1, e2, e3, e4, e5, e6, e7, e8, e9, q⟩ => ⟨o, o', o2, ns, ss, B, c, f, st, rs, x, e1, e2, e3, e4, e5, e6, e7, e8, e9, fun r y a b d e => h _ _ (q r y a b d e)⟩
theorem draw_P {ij is : Nat} {o : Bool} {k : Nat} {top c : Int} {x : Cell} {C1 : Store} {Γ : Slots} {ns : List Int} {Q : D → Store → Prop} (hj : Γ[ij]? = some (some (.ptr k))) (hs : Γ[is]? = some (some (.lst o (ns.map .int)))) (hk : C1[k]? = some x) (hx : Jar c x) (fl : Flat C1)
    (h3 : 3 ≤ top) (h24 : top ≤ 24) (hc : c < 9000) (q : ∀ f st rs c' y, Pil f st rs → (st.length : Int) ≤ top → Jar c' y → c' ≤ c + 901 → Q (pilC C1.length f st) (C1.set k y ++ [.lst (rs.map pD)])) :
    eCallT 1 kf1 P_Lw_pile (aCons (eVar ij) (aCons (eCallK 1 kf1 P_Lw_size (aCons (eVar ij) (aCons (eVar is) (aCons (eC (.int top)) aNil)))) aNil)) Γ C1 Q := by
  rw [e_eCallT, u_aCons]
  refine ⟨_, hj, ?_⟩
  show aCons _ _ _ _ _
  rw [u_aCons, u_eCallK, u_aCons]
  refine ⟨_, hj, ?_⟩
  show aCons _ _ _ _ _
  rw [u_aCons]
  refine ⟨_, hs, ?_⟩
  show aCons _ _ _ _ _
  rw [u_aCons, u_eC, u_aNil]
  refine callJ (k := k) (es' := [.lst true (ns.map .int), .int top]) hk hx (by simp only [mapWs, mapW, mapWs_ints]) ?_ mono_size
  refine ⟨true, ns, top, c, _, rfl, ⟨h3, h24⟩, rfl, hx, by omega, fun r y2 h1 h2 hy2 => ⟨y2, c + 1, rfl, hy2, rfl, ?_⟩⟩
  obtain ⟨n, rfl⟩ := Int.eq_ofNat_of_zero_le (show (0 : Int) ≤ r by omega)
  show aNil _ _ _
  rw [u_aNil]
  refine callJT (k := k) (x := y2) (es' := [.int (n : Nat)]) (set_get hk) hy2 (fl.set hy2.flat) rfl ?_ mono_pile
  refine ⟨n, c + 1, y2, rfl, rfl, hy2, by omega, by omega, by omega, fun f st rs c3 y3 hp hl hy3 hc3 => ⟨y3, c3, _, _, _, rfl, hy3, rfl, rfl, flat_pairs rs, ?_⟩⟩
  have := q f st rs c3 y3 hp (by omega) hy3 (by omega)
  rw [← List.set_set (b := y3) (a := y2)] at this
  rw [List.length_set]
  exact this
theorem pil_d1 {f st : Str} {rs : List (Int × Int)} (hp : Pil f st rs) : Pil f st (rs.drop 1) := by
  have := hp.out 0
  rwa [show rs.eraseIdx 0 = rs.drop 1 by cases rs <;> rfl] at this
theorem most_d1 {f st : Str} {rs : List (Int × Int)} {top : Int} (hp : Pil f st rs) (ht : Most f st rs top) : Most f st (rs.drop 1) top := by
  refine ⟨ht.1, fun v' k' V' M' => ?_⟩
  obtain ⟨v, V⟩ := hp.pfix
  obtain ⟨k, M⟩ := wMax hp.pos v
  have W := plan_v hp V M (ht.2 v k V M)
  have W' : Plan f st (rs.drop 1) top v := ⟨W.blk, fun z hz => W.led z (List.mem_of_mem_drop hz)⟩
  obtain ⟨j, hj, e⟩ := M'.1
  have h1 := plan_low (pil_d1 hp) V' W' j hj
  have h2 := (W.blk j hj).2.1
  omega
end ST
end L3
namespace L3
namespace ST
open PySem PySem.Spec PyProof.Rows L2
theorem sumC_succ (n : Nat) (c : Nat → Int) : sumC (n + 1) c = sumC n c + c n := by
  unfold sumC
  rw [List.range_succ, List.map_append, List.sum_append]
  simp
theorem sumC_mono {a b : Nat → Int} : ∀ n : Nat, (∀ j, j < n → a j ≤ b j) → sumC n a ≤ sumC n b
  | 0, _ => by simp [sumC]
  | n + 1, h => by
    rw [sumC_succ, sumC_succ]
    have h1 := sumC_mono n fun j hj => h j (by omega)
    have h2 := h n (by omega)
    omega
theorem sumC_lt {a b : Nat → Int} {k : Nat} (hk1 : a k + 1 ≤ b k) : ∀ n : Nat, k < n → (∀ j, j < n → a j ≤ b j) → sumC n a + 1 ≤ sumC n b
  | 0, hk, _ => by omega
  | n + 1, hk, h => by
    rw [sumC_succ, sumC_succ]
    have h2 := h n (by omega)
    by_cases e : k = n
    · subst e
      have h1 := sumC_mono k fun j hj => h j (by omega)
      omega
    · have h1 := sumC_lt hk1 n (by omega) fun j hj => h j (by omega)
      omega
theorem sumC_nn {a : Nat → Int} : ∀ n : Nat, (∀ j, j < n → 0 ≤ a j) → 0 ≤ sumC n a
  | 0, _ => by simp [sumC]
  | n + 1, h => by
    rw [sumC_succ]
    have h1 := sumC_nn n fun j hj => h j (by omega)
    have h2 := h n (by omega)
    omega
theorem wayN_le {st : Str} {rs : List (Int × Int)} {k : Nat} {p q c : Int} (h : WayN st rs k p q c) : c ≤ k := by
  induction h with
  | nil => omega
  | @snoc k p x y c _ _ ih => have := chg01 st (x, y); omega
def pot : Option Int → Int
  | none => 25
  | some x => 24 - x
def phi (n : Nat) (u : Int → Option Int) : Int := sumC n fun j => pot (u (j : Nat))
def putU (u : Int → Option Int) (b y : Int) : Int → Option Int := fun q => if q = b then some y else u q
section
variable {f st : Str} {rs : List (Int × Int)} {p : Int}
theorem way_lt (hp : Pil f st rs) {q c : Int} (p0 : 0 ≤ p ∧ p < st.length) (h : Way st rs p q c) : c < st.length ∧ 0 ≤ q ∧ q < st.length := by
  obtain ⟨r, hr1, hr2⟩ := ranks hp.rul.inn hp.acy
  have hq := h.tgt hp.rul.inn p0
  have h1 := wayN_le (h.few hr2)
  have h2 := hr1 q.toNat (by omega)
  exact ⟨by omega, hq⟩
structure SpI (st : Str) (rs : List (Int × Int)) (p : Int) (u : Int → Option Int) (W : List Int) (here : Int) (dn : List (Int × Int)) : Prop where
  snd : Snd st rs p u
  src : ∃ y, u p = some y ∧ 0 ≤ y
  wai : ∀ w, w ∈ W → ∃ y, u w = some y
  cl : ∀ z, z ∈ rs → z.1 ∉ W → (z.1 = here → z ∈ dn) → ∀ x, u z.1 = some x → ∃ y, u z.2 = some y ∧ x + chg st z ≤ y
theorem SpI.start : SpI st rs p (fun q => if q = p then some 0 else none) [p] 0 rs := by
  refine ⟨fun q m h => ?_, ⟨0, if_pos rfl, by omega⟩, fun w hw => ?_, fun z hz h1 _ x hx => ?_⟩
  · by_cases e : q = p
    · subst e
      rw [if_pos rfl] at h
      cases h
      exact .nil _
    · rw [if_neg e] at h
      cases h
  · simp at hw
    subst hw
    exact ⟨0, if_pos rfl⟩
  · simp at h1
    rw [if_neg h1] at hx
    cases hx
theorem SpI.pop {u : Int → Option Int} {W : List Int} {h0 here : Int} (I : SpI st rs p u (W ++ [here]) h0 rs) : SpI st rs p u W here [] := by
  refine ⟨I.snd, I.src, fun w hw => I.wai w (by simp [hw]), fun z hz h1 h2 x hx => ?_⟩
  have hne : z.1 ≠ here := fun e => by simp at h2; exact h2 e
  exact I.cl z hz (by simp [h1, hne]) (fun _ => hz) x hx
theorem SpI.stay {u : Int → Option Int} {W : List Int} {here : Int} {dn : List (Int × Int)} {z : Int × Int} (I : SpI st rs p u W here dn) (h : z.1 = here → ∀ x, u here = some x → ∃ y, u z.2 = some y ∧ x + chg st z ≤ y) : SpI st rs p u W here (dn ++ [z]) := by
  refine ⟨I.snd, I.src, I.wai, fun z' hz h1 h2 x hx => ?_⟩
  by_cases e : z'.1 = here
  · rcases List.mem_append.mp (h2 e) with h3 | h3
    · exact I.cl z' hz h1 (fun _ => h3) x hx
    · rw [List.mem_singleton.mp h3] at e hx ⊢
      exact h e x (by rw [← e]; exact hx)
  · exact I.cl z' hz h1 (fun k => absurd k e) x hx
theorem SpI.put {u : Int → Option Int} {W : List Int} {here x : Int} {dn : List (Int × Int)} {z : Int × Int} (I : SpI st rs p u W here dn) (hz : z ∈ rs) (hne : z.1 ≠ z.2) (e : z.1 = here) (hx : u here = some x) (hlt : ∀ y, u z.2 = some y → y < x + chg st z) (hx0 : 0 ≤ x) : SpI st rs p (putU u z.2 (x + chg st z)) (W ++ [z.2]) here (dn ++ [z]) := by
  have hc := chg01 st z
  have hm : ∀ w, (∃ y, u w = some y) → ∃ y, putU u z.2 (x + chg st z) w = some y := fun w ⟨y, h⟩ => by
    unfold putU
    by_cases k : w = z.2
    · exact ⟨_, if_pos k⟩
    · exact ⟨y, by rw [if_neg k]; exact h⟩
  refine ⟨fun q m h => ?_, ?_, fun w hw => ?_, fun z' hz' h1 h2 x' hx' => ?_⟩
  · unfold putU at h
    by_cases k : q = z.2
    · rw [if_pos k] at h
      cases h
      have w := I.snd here x hx
      rw [k]
      rw [← e] at w
      exact .snoc w hz
    · rw [if_neg k] at h
      exact I.snd q m h
  · obtain ⟨y, h1, h2⟩ := I.src
    unfold putU
    by_cases k : p = z.2
    · exact ⟨_, if_pos k, by omega⟩
    · exact ⟨y, by rw [if_neg k]; exact h1, h2⟩
  · rcases List.mem_append.mp hw with h | h
    · exact hm w (I.wai w h)
    · rw [List.mem_singleton.mp h]
      exact ⟨_, if_pos rfl⟩
  · have n1 : z'.1 ≠ z.2 := fun k => h1 (by rw [k]; simp)
    have n2 : z'.1 ∉ W := fun k => h1 (by simp [k])
    have e1 : putU u z.2 (x + chg st z) z'.1 = u z'.1 := if_neg n1
    rw [e1] at hx'
    by_cases k : z' = z
    · subst k
      rw [e, hx] at hx'
      cases hx'
      exact ⟨_, if_pos rfl, Int.le_refl _⟩
    · have h3 : z'.1 = here → z' ∈ dn := fun k' => by
        rcases List.mem_append.mp (h2 k') with h | h
        · exact h
        · exact absurd (List.mem_singleton.mp h) k
      obtain ⟨y, h4, h5⟩ := I.cl z' hz' n2 h3 x' hx'
      by_cases k2 : z'.2 = z.2
      · refine ⟨x + chg st z, if_pos k2, ?_⟩
        have := hlt y (by rw [← k2]; exact h4)
        omega
      · exact ⟨y, by unfold putU; rw [if_neg k2]; exact h4, h5⟩
theorem SpI.done {u : Int → Option Int} {here : Int} (I : SpI st rs p u [] here rs) (q : Int) : Bst st rs p q (u q) := by
  refine bst_of I.snd (fun q x w => ?_) q
  induction w with
  | nil => obtain ⟨y, h1, h2⟩ := I.src; exact ⟨y, h1, h2⟩
  | @snoc a b c w hz ih =>
    obtain ⟨m, h1, h2⟩ := ih
    obtain ⟨y, h3, h4⟩ := I.cl (a, b) hz (by simp) (fun _ => hz) m h1
    exact ⟨y, h3, by omega⟩
theorem phi_put (hp : Pil f st rs) (p0 : 0 ≤ p ∧ p < st.length) {u : Int → Option Int} (hs : Snd st rs p u) {b y : Int} (hw : Way st rs p b y) (hlt : ∀ x, u b = some x → x < y) : phi st.length (putU u b y) + 1 ≤ phi st.length u := by
  obtain ⟨h1, h2, h3⟩ := way_lt hp p0 hw
  have h4 := hw.nn
  have h24 := hp.top
  obtain ⟨j, rfl⟩ := Int.eq_ofNat_of_zero_le h2
  have key : pot (putU u (j : Int) y (j : Int)) + 1 ≤ pot (u (j : Int)) := by
    have e : putU u (j : Int) y (j : Int) = some y := if_pos rfl
    rw [e]
    cases hu : u (j : Int) with
    | none => show 24 - y + 1 ≤ 25; omega
    | some x => have := hlt x hu; show 24 - y + 1 ≤ 24 - x; omega
  refine sumC_lt key st.length (by omega) fun i hi => ?_
  by_cases e : i = j
  · subst e; omega
  · have e2 : putU u (j : Int) y (i : Int) = u (i : Int) := if_neg fun k => e (by omega)
    rw [e2]
    exact Int.le_refl _
theorem phi_nn (hp : Pil f st rs) (p0 : 0 ≤ p ∧ p < st.length) {u : Int → Option Int} (hs : Snd st rs p u) : 0 ≤ phi st.length u := by
  have h24 := hp.top
  refine sumC_nn _ fun j hj => ?_
  cases hu : u (j : Int) with
  | none => show (0 : Int) ≤ 25; decide
  | some x =>
    have := (way_lt hp p0 (hs _ _ hu)).1
    show 0 ≤ 24 - x
    omega
theorem phi_start (hp : Pil f st rs) (p0 : 0 ≤ p ∧ p < st.length) : phi st.length (fun q => if q = p then some 0 else none) ≤ 600 := by
  have h24 := hp.top
  have := sumC_le (B := 25) st.length (c := fun j => pot (if (j : Int) = p then some 0 else none)) fun j hj => by
    by_cases e : (j : Int) = p
    · rw [if_pos e]; decide
    · rw [if_neg e]; decide
  have e : phi st.length (fun q => if q = p then some 0 else none) = sumC st.length (fun j => pot (if (j : Int) = p then some 0 else none)) := rfl
  omega
end
theorem Dic.put' {ks : List Key} {xs : List D} {u : Int → Option Int} {m : Nat} (d : Dic ks xs u m) (b y : Int) : Dic (kPut (.inl b) ks) (xPut (.inl b) (.int y) ks xs) (putU u b y) (m + 1) := d.put b y
theorem chg3_e {i j : Nat} {st : Str} {Γ : Slots} {C : Store} {R : D → Store → Prop} (h1 : Γ[3]? = some (some (.str st))) (h2 : Γ[8]? = some (some (.int (i : Nat)))) (h3 : Γ[9]? = some (some (.int (j : Nat)))) (h24 : st.length ≤ 24) (hi : i < st.length) (hj : j < st.length) (q : R (.int (chg st ((i : Int), (j : Int)))) C) :
    eCB oInt (aCons (eBin (oEq true) (eBin oIxS (eVar 3) (eVar 8)) (eBin oIxS (eVar 3) (eVar 9))) aNil) Γ C R := by
  have hz := sizeL
  refine ⟨_, h1, _, h2, st, (i : Nat), sg st i, rfl, rfl, by omega, sg_at hi, _, h1, _, h3, st, (j : Nat), sg st j, rfl, rfl, by omega, sg_at hj, ?_⟩
  show R (.int (if (true != decide ((⟨#[sg st i]⟩ : Str) = ⟨#[sg st j]⟩)) = true then 1 else 0)) _
  rw [one_ne]
  exact q
def P_spans_from : PV := fun ds C Q => ∃ (o : Bool) (f st : Str) (rs : List (Int × Int)) (p : Int), ds = [pil o f st rs, .int p] ∧ Pil f st rs ∧ 0 ≤ p ∧ p < st.length ∧ ∀ ks xs u, Dic ks xs u 5000 → (∀ q, Bst st rs p q (u q)) → Q (.dk false ks xs) C
theorem v_spans_from (ds : List D) (C : Store) (Q3 : D → Store → Prop) (h : P_spans_from ds C Q3) (hC : C.length = 0) : T_spans_from (enF 0 Q3) (start3 N_spans_from ds) C := by
  obtain ⟨o, f, st, rs, p, rfl, hp, p0, p1, q⟩ := h
  rw [List.length_eq_zero_iff] at hC
  subst hC
  have hz := sizeL
  have h24 := hp.top
  have hr := hp.rul
  have hrf := hr.few
  have pp : 0 ≤ p ∧ p < st.length := ⟨p0, p1⟩
  unfold T_spans_from
  rw [u_sSeq]
  refine ⟨_, rfl, _, rfl, rfl, _, _, rfl, _, _, rfl, _, _, rfl, rfl, ?_⟩
  try dsimp only
  rw [u_sSeq]
  refine ⟨_, rfl, .inl p, rfl, ?_⟩
  try dsimp only
  rw [u_gvName, u_sSeq]
  refine ⟨_, rfl, le5 _ (by simp), ?_⟩
  try dsimp only
  rw [u_gvName, u_sSeq]
  refine ⟨fun k Γ C => ∃ (W : List Int) (ks : List Key) (xs : List D) (u : Int → Option Int) (m : Nat) (h0 : Int), C = [.dk ks xs, .lst (W.map .int)] ∧ Dic ks xs u m ∧ SpI st rs p u W h0 rs ∧ (m : Int) + phi st.length u ≤ 601 ∧ (W.length : Int) + phi st.length u ≤ k ∧ k ≤ 700 ∧ ∃ a b c, Γ = [some (pil o f st rs), some (.int p), some (.str f), some (.str st), some (.lst o (rs.map pD)), some (.ptr 0), some (.ptr 1), a, b, c], ?_, ?_⟩
  · have h1 := phi_start hp pp
    have h2 := phi_nn hp pp (SpI.start (st := st) (rs := rs) (p := p)).snd
    exact ⟨(1 + phi st.length (fun q => if q = p then some 0 else none)).toNat, [p], _, _, _, 1, 0, rfl, Dic.one p 0, SpI.start, by omega, by simp only [List.length_singleton]; omega, by omega, _, _, _, rfl⟩
  rintro k Γ C ⟨W, ks, xs, u, m, h0, rfl, dc, I, hm, hk, hk7, a, b, c, rfl⟩
  refine ⟨_, rfl, Nat.zero_le _, ?_⟩
  refine oEq_p (ns := W) (ms := []) rfl ⟨_, rfl, ?_⟩
  by_cases hW : W = []
  · subst hW
    refine goF rfl ?_
    try dsimp only
    rw [u_sRet]
    refine ⟨_, rfl, ?_⟩
    show Q3 (fin 0 [Cell.dk ks xs, Cell.lst []] (.ptr 0)) (finS 0 _)
    rw [finS0, fin_dk rfl dc.flat]
    have hn := phi_nn hp pp I.snd
    exact q ks xs u (dc.mono (by omega)) fun q => I.done q
  refine goT (by simp [hW]) ?_
  obtain ⟨W, here, rfl⟩ : ∃ W' w, W = W' ++ [w] := ⟨W.dropLast, W.getLast hW, (List.dropLast_concat_getLast hW).symm⟩
  have I0 := I.pop
  obtain ⟨xh, hxh⟩ := I.wai here (by simp)
  have hxn := (I.snd _ _ hxh).nn
  try dsimp only
  rw [u_sSeq]
  refine ⟨_, rfl, _, rfl, 1, (W ++ [here]).map .int, .int here, rfl, rfl, rfl, by simp, ?_⟩
  rw [show ((W ++ [here]).map D.int).dropLast = W.map .int by simp]
  try dsimp only
  simp only [List.length_append, List.length_cons, List.length_nil] at hk
  rw [u_gvName]
  try dsimp only
  refine ⟨_, rfl, _, rfl, rfl, np_pairs rs, ?_⟩
  refine forW_run (fun ds Γ C => ∃ (dn rest : List (Int × Int)) (W : List Int) (ks : List Key) (xs : List D) (u : Int → Option Int) (m : Nat), rs = dn ++ rest ∧ ds = rest.map pD ∧ C = [.dk ks xs, .lst (W.map .int)] ∧ Dic ks xs u m ∧ SpI st rs p u W here dn ∧ u here = some xh ∧ (m : Int) + phi st.length u ≤ 601 ∧ (W.length : Int) + phi st.length u + 1 ≤ k ∧ ∃ b c, Γ = [some (pil o f st rs), some (.int p), some (.str f), some (.str st), some (.lst o (rs.map pD)), some (.ptr 0), some (.ptr 1), some (.int here), b, c]) ?step ?stop _ _ _ ⟨[], rs, W, ks, xs, u, m, rfl, rfl, rfl, dc, I0, hxh, hm, by omega, _, _, rfl⟩
  case step =>
    clear I0 I dc hm hk hxh
    rintro d ds Γ C ⟨dn, rest, W, ks, xs, u, m, e3, e4, rfl, dc, I, hxh, hm, hk, b, c, rfl⟩ R hR
    cases rest with
    | nil => cases e4
    | cons z rest =>
    simp only [List.map_cons, List.cons.injEq] at e4
    obtain ⟨rfl, rfl⟩ := e4
    have hzm : z ∈ rs := by rw [e3]; simp
    obtain ⟨a1, a2, a3, a4, a5⟩ := hr.inn z hzm
    obtain ⟨i, hi⟩ := Int.eq_ofNat_of_zero_le a1
    obtain ⟨j, hj⟩ := Int.eq_ofNat_of_zero_le a3
    have hi' : i < st.length := by omega
    have hj' : j < st.length := by omega
    obtain ⟨zi, zj⟩ := z
    simp only at hi hj a5
    subst hi hj
    have hpn := phi_nn hp pp I.snd
    have stay : ((i : Int) = here → ∃ y, u (j : Int) = some y ∧ xh + chg st ((i : Int), (j : Int)) ≤ y) → R [some (pil o f st rs), some (.int p), some (.str f), some (.str st), some (.lst o (rs.map pD)), some (.ptr 0), some (.ptr 1), some (.int here), some (.int (i : Int)), some (.int (j : Int))] [.dk ks xs, .lst (W.map .int)] := fun hno =>
      hR _ _ ⟨dn ++ [((i : Int), (j : Int))], rest, W, ks, xs, u, m, by rw [e3]; simp, rfl, rfl, dc, I.stay fun e x hx => by rw [hxh] at hx; cases hx; exact hno e, hxh, hm, hk, _, _, rfl⟩
    refine ⟨_, rfl, rfl, _, _, rfl, _, _, rfl, rfl, ?_⟩
    refine ⟨_, rfl, _, rfl, _, rfl, ?_⟩
    by_cases he : (i : Int) = here
    · refine goT (by simp [he]) ?_
      have ei : dAt (.inl here) ks xs = some (.int xh) := by rw [dc.at_, hxh]; rfl
      have ej : dAt (.inl (j : Int)) ks xs = (u (j : Int)).map .int := dc.at_ _
      refine ⟨_, rfl, ⟨_, rfl⟩, _, rfl, _, rfl, ks, xs, .inl (j : Int), rfl, rfl, _, rfl, _, rfl, ks, xs, .inl here, .int xh, rfl, rfl, ei, ?_⟩
      show eCB oInt _ _ _ _
      refine chg3_e rfl rfl rfl h24 hi' hj' ?_
      rw [ej]
      have hg : (Option.map D.int (u (j : Int))).getD (.int (-1)) = .int ((u (j : Int)).getD (-1)) := by cases u (j : Int) <;> rfl
      rw [hg]
      have hc := chg01 st ((i : Int), (j : Int))
      have hxn := (I.snd _ _ hxh).nn
      refine ⟨_, _, rfl, rfl, _, _, rfl, rfl, _, rfl, ?_⟩
      by_cases hlt : (u (j : Int)).getD (-1) < xh + chg st ((i : Int), (j : Int))
      · refine goT (decide_eq_true hlt) ?_
        have hl' : ∀ y, u (j : Int) = some y → y < xh + chg st ((i : Int), (j : Int)) := fun y hy => by
          rw [hy] at hlt
          exact hlt
        have hw : Way st rs p (j : Int) (xh + chg st ((i : Int), (j : Int))) := by
          have w := I.snd _ _ hxh
          rw [← he] at w
          exact .snoc w hzm
        have hph := phi_put hp pp I.snd hw hl'
        have I' := I.put hzm a5 he hxh hl' hxn
        refine ⟨_, rfl, _, rfl, ks, xs, .inl here, .int xh, rfl, rfl, ei, ?_⟩
        show eCB oInt _ _ _ _
        refine chg3_e rfl rfl rfl h24 hi' hj' ?_
        have hfw := dc.few
        refine ⟨_, _, rfl, rfl, _, rfl, _, rfl, 0, ks, xs, .inl (j : Int), rfl, rfl, rfl, by omega, ?_⟩
        try dsimp only
        rw [u_sDrop]
        refine ⟨_, rfl, W.map .int, rfl, _, rfl, 1, W.map .int, .int (j : Nat), rfl, rfl, rfl, by simp only [List.length_map]; omega, ?_⟩
        refine hR _ _ ⟨dn ++ [((i : Int), (j : Int))], rest, W ++ [(j : Int)], _, _, putU u (j : Int) (xh + chg st ((i : Int), (j : Int))), m + 1, by rw [e3]; simp, rfl, ?_, Dic.put' dc (j : Int) _, I', ?_, by omega, by simp only [List.length_append, List.length_singleton]; omega, _, _, rfl⟩
        · rw [List.map_append]
          rfl
        · unfold putU
          rw [if_neg fun e => a5 (he.trans e)]
          exact hxh
      · refine goF (decide_eq_false hlt) (stay fun _ => ?_)
        cases hu : u (j : Int) with
        | none => rw [hu] at hlt; exact absurd (show (-1 : Int) < _ by omega) hlt
        | some y => rw [hu] at hlt; exact ⟨y, rfl, by simp only [Option.getD_some] at hlt; omega⟩
    · exact goF (by simp [he]) (stay fun e => absurd e he)
  case stop =>
    rintro Γ C ⟨dn, rest, W, ks, xs, u, m, e3, e4, rfl, dc, I, hxh, hm, hk, b, c, rfl⟩
    cases rest with
    | cons z rest => cases e4
    | nil =>
    rw [List.append_nil] at e3
    subst e3
    have hpn := phi_nn hp pp I.snd
    exact ⟨k - 1, by omega, W, ks, xs, u, m, here, rfl, dc, I, hm, by omega, by omega, _, _, _, rfl⟩
end ST
end L3
namespace L3
namespace ST
open PySem PySem.Spec PyProof.Rows L2
def P_is_whole : PV := fun ds C Q => ∃ i m : Int, ds = [.int i, .int m] ∧ Q (.bl (decide (0 ≤ i ∧ i ≤ m))) C
theorem v_is_whole (ds : List D) (C : Store) (Q3 : D → Store → Prop) (h : P_is_whole ds C Q3) (hC : C.length = 0) : T_is_whole (enF 0 Q3) (start3 N_is_whole ds) C := by
  obtain ⟨i, m, rfl, q⟩ := h
  rw [List.length_eq_zero_iff] at hC
  subst hC
  unfold T_is_whole
  rw [u_sRet]
  refine ⟨_, rfl, .int, rfl, _, rfl, ?_⟩
  refine goT rfl ?_
  refine ⟨_, rfl, .int, rfl, _, rfl, _, rfl, ?_⟩
  refine goT rfl ?_
  refine ⟨_, rfl, _, _, rfl, rfl, _, rfl, ?_⟩
  by_cases h0 : 0 ≤ i
  · refine goT (decide_eq_true h0) ?_
    refine ⟨_, rfl, _, _, rfl, rfl, ?_⟩
    have e : decide (0 ≤ i ∧ i ≤ m) = decide (i ≤ m) := by rw [decide_eq_decide]; omega
    rw [e] at q
    exact q
  · refine goF (decide_eq_false h0) ?_
    rw [decide_eq_false (by omega)] at q
    exact q
end ST
end L3
namespace L3
namespace ST
open PySem PySem.Spec PyProof.Rows L2
end ST
end L3
namespace L3
namespace ST
open PySem PySem.Spec PyProof.Rows L2
section
variable {f st : Str} {rs : List (Int × Int)}
theorem way_step (hp : Pil f st rs) {top : Int} {w : Nat → Int} (W : Plan f st rs top w) {p q c : Int} (h : Way st rs p q c) : w p.toNat + c ≤ w q.toNat := by
  induction h with
  | nil => omega
  | @snoc x y c _ hz ih =>
    have := W.step hp hz
    have e : chg st (x, y) = chOf st x.toNat y.toNat := rfl
    simp only at this
    omega
theorem way_par (hp : Pil f st rs) {p q c : Int} (p0 : 0 ≤ p ∧ p < st.length) (h : Way st rs p q c) : (bsOf f st p.toNat + c - bsOf f st q.toNat) % 2 = 0 := by
  induction h with
  | nil => omega
  | @snoc x y c _ hz ih =>
    obtain ⟨a, b, c', d, _⟩ := hp.rul.inn _ hz
    simp only at a b c' d
    have h1 := bs_par hp (show x.toNat < st.length by omega) (show y.toNat < st.length by omega)
    have e : chg st (x, y) = chOf st x.toNat y.toNat := rfl
    omega
theorem way_rank {rk : Int → Nat} (hk : ∀ z, z ∈ rs → rk z.1 < rk z.2) {p q c : Int} (h : Way st rs p q c) : (p = q ∧ c = 0) ∨ rk p < rk q := by
  induction h with
  | nil => exact .inl ⟨rfl, rfl⟩
  | @snoc x y c _ hz ih =>
    have := hk _ hz
    rcases ih with ⟨e, _⟩ | h
    · subst e; exact .inr this
    · exact .inr (Nat.lt_trans h this)
end
end ST
end L3
namespace L3
namespace ST
namespace T0
open PySem PySem.Spec PyProof.Rows L2
theorem kP_inj {x y : Int × Int} (h : kP x = kP y) : x = y := by
  unfold kP at h
  simp only [List.cons.injEq, Sum.inl.injEq, and_true] at h
  exact Prod.ext h.1 h.2
theorem hasT_no {z : Int × Int} {p : List (Int × Int)} (h : z ∉ p) : hasT (kP z) (p.map kP) = false := by
  unfold hasT
  rw [List.any_eq_false]
  intro k hk
  obtain ⟨y, hy, rfl⟩ := List.mem_map.mp hk
  simp only [decide_eq_true_eq]
  intro e
  exact h (kP_inj e ▸ hy)
theorem tAt_pairs {F : Int × Int → D} : ∀ {l : List (Int × Int)} {z : Int × Int}, z ∈ l → tAt (kP z) (l.map kP) (l.map F) = some (F z)
  | y :: l, z, h => by
    rw [List.map_cons, List.map_cons, tAt]
    by_cases e : y = z
    · subst e; rw [if_pos rfl]
    · rw [if_neg fun k => e (kP_inj k)]
      exact tAt_pairs ((List.mem_cons.mp h).resolve_left fun k => e k.symm)
theorem foldT_pairs' {F : Int × Int → D} : ∀ (l p : List (Int × Int)), (p ++ l).Nodup → (l.map fun z => (kP z, F z)).foldl (fun a z => (tPut z.1 a.1, yPut z.1 z.2 a.1 a.2)) (p.map kP, p.map F) = ((p ++ l).map kP, (p ++ l).map F)
  | [], p, _ => by simp
  | z :: l, p, nd => by
    have hz : z ∉ p := fun k => (List.nodup_append.mp nd).2.2 z k z (List.mem_cons_self ..) rfl
    rw [List.map_cons, List.foldl_cons]
    have e1 : tPut (kP z) (p.map kP) = (p ++ [z]).map kP := by
      unfold tPut
      rw [hasT_no hz, List.map_append]
      rfl
    have e2 : yPut (kP z) (F z) (p.map kP) (p.map F) = (p ++ [z]).map F := by
      unfold yPut
      rw [hasT_no hz, List.map_append]
      rfl
    simp only [e1, e2]
    rw [foldT_pairs' l (p ++ [z]) (by simpa using nd)]
    simp
theorem foldT_new {F : Int × Int → D} {l : List (Int × Int)} (nd : l.Nodup) : foldT (l.map fun z => (kP z, F z)) = (l.map kP, l.map F) := foldT_pairs' l [] nd
end T0
end ST
end L3
namespace L3
namespace ST
open PySem PySem.Spec PyProof.Rows L2
def T_Lw_far : SV :=
  (sSeq (sAsg (eCell (fCB nDictT (aCons (eFrz (fLc [2] (iRange1 (aCons (eCB oLenA (aCons (eBin oIxT (eVar 0) (eC (.int 1))) aNil)) aNil)) (gvName 2) bYes (eTup (aCons (eTup (aCons (eVar 2) (aCons (eVar 2) aNil))) (aCons (eC (.int 0)) aNil))))) aNil))) (gvName 1))
  (sSeq (sFor (iRange1 (aCons (eCB oLenA (aCons (eBin oIxT (eVar 0) (eC (.int 1))) aNil)) aNil)) (gvName 3) (sFor (iLst (eBin oIxT (eVar 0) (eC (.int 2)))) (gvTup 2 (gvCons (gvName 4) (gvCons (gvName 5) gvNil))) (sSeq (sAsg (eCB oInt (aCons (eBin (oEq true) (eBin oIxS (eBin oIxT (eVar 0) (eC (.int 1))) (eVar 4)) (eBin oIxS (eBin oIxT (eVar 0) (eC (.int 1))) (eVar 5))) aNil)) (gvName 6))
  (sFor (iRange1 (aCons (eCB oLenA (aCons (eBin oIxT (eVar 0) (eC (.int 1))) aNil)) aNil)) (gvName 2) (sIf (bB (eBin (oTIn false) (eTup (aCons (eVar 2) (aCons (eVar 4) aNil))) (eVar 1))) (sAsg (eCB oMax2 (aCons (eTGet2 (eVar 1) (eTup (aCons (eVar 2) (aCons (eVar 5) aNil))) (eC (.int 0))) (aCons (eBin oAdd (eTGet (eVar 1) (eTup (aCons (eVar 2) (aCons (eVar 4) aNil)))) (eVar 6)) aNil))) (gvSubT (eVar 1) (eTup (aCons (eVar 2) (aCons (eVar 5) aNil))))) sNext)))))
  (sRet (eVar 1))))
abbrev N_Lw_far : List Str := ["_law_heap", "_law_found", "_law_k", "_law_spin", "_law_one", "_law_other", "_law_by"]
def T_Lw_told (P_Lw_dip : PV) : SV :=
  (sSeq (sAsg (eCell fDk0) (gvName 3))
  (sSeq (sFor (iRange1 (aCons (eCB oLenA (aCons (eVar 1) aNil)) aNil)) (gvName 4) (sSeq (sAsg (eCB oMin2 (aCons (eBin oPowW (eC (.int 10)) (eC (.int 30))) (aCons (eCB oMax2 (aCons (eC (.int 0)) (aCons (eBin oSub (eBin oAdd (eBin oIxL (eVar 1) (eVar 4)) (eBin oMulW (eC (.int 2)) (eCallK 1 kf1 P_Lw_dip (aCons (eVar 0) (aCons (eC (.int 3)) aNil))))) (eC (.int 2))) aNil))) aNil))) (gvName 5))
  (sSeq (sAsg (eBin oIxL (eFrz (fLst (aCons (eBin oIxL (eVar 1) (eVar 4)) (aCons (eBin oIxL (eVar 1) (eVar 4)) (aCons (eVar 5) (aCons (eCB oMin2 (aCons (eBin oPowW (eC (.int 10)) (eC (.int 30))) (aCons (eCallK 1 kf1 P_Lw_dip (aCons (eVar 0) (aCons (eBin oAdd (eVar 2) (eC (.int 3))) aNil))) aNil))) aNil)))))) (eCallK 1 kf1 P_Lw_dip (aCons (eVar 0) (aCons (eC (.int 4)) aNil)))) (gvName 6))
  (sIf (bB (eBin oGt (eCallK 1 kf1 P_Lw_dip (aCons (eVar 0) (aCons (eC (.int 3)) aNil))) (eC (.int 0)))) (sAsg (eVar 6) (gvSubD (eVar 3) (eVar 4))) sNext))))
  (sRet (eVar 3))))
abbrev N_Lw_told : List Str := ["_law_jar_here", "_law_own", "_law_top", "_law_found", "_law_k", "_law_beside", "_law_block"]
def T_Lw_high : SV :=
  (sSeq (sAsg (eCell (fBin nRep (eFrz (fLst (aCons (eC (.int 0)) aNil))) (eCB oLenA (aCons (eBin oIxT (eVar 0) (eC (.int 1))) aNil)))) (gvName 2))
  (sSeq (sFor (iRange1 (aCons (eCB oLenA (aCons (eVar 2) aNil)) aNil)) (gvName 3) (sFor (iLst (eBin oIxT (eVar 0) (eC (.int 2)))) (gvTup 2 (gvCons (gvName 4) (gvCons (gvName 5) gvNil))) (sAsg (eCB oMax2 (aCons (eBin oIxL (eVar 2) (eVar 4)) (aCons (eBin oAdd (eBin oIxL (eVar 2) (eVar 5)) (eCB oInt (aCons (eBin (oEq true) (eBin oIxS (eBin oIxT (eVar 0) (eC (.int 1))) (eVar 4)) (eBin oIxS (eBin oIxT (eVar 0) (eC (.int 1))) (eVar 5))) aNil))) aNil))) (gvSubL (eVar 2) (eVar 4)))))
  (sSeq (sAsg (eCell (fLst aNil)) (gvName 6))
  (sSeq (sForC (iZipM (aCons (eBin oIxT (eVar 0) (eC (.int 1))) (aCons (eVar 2) aNil))) (gvTup 2 (gvCons (gvName 7) (gvCons (gvName 8) gvNil))) (sDrop (eMl mAppend (eVar 6) (aCons (eBin oSub (eBin oSub (eVar 1) (eVar 8)) (eBin oMod (eBin oSub (eBin oSub (eVar 1) (eVar 8)) (eCB oInt (aCons (eBin (oEq true) (eVar 7) (eBin oIxT (eVar 0) (eC (.int 0)))) aNil))) (eC (.int 2)))) aNil))))
  (sRet (eVar 6))))))
abbrev N_Lw_high : List Str := ["_law_heap", "_law_top", "_law_left", "_law_spin", "_law_one", "_law_other", "_law_found", "_law_sign", "_law_many"]
def T_Lw_plan (P_Lw_far P_Lw_high P_Lw_low P_Lw_dip : PV) : SV :=
  (sSeq (sAsg (eTup (aCons (eCall P_Lw_low (aCons (eVar 1) aNil)) (aCons (eCall P_Lw_high (aCons (eVar 1) (aCons (eVar 2) aNil))) (aCons (eCall P_Lw_far (aCons (eVar 1) aNil)) aNil)))) (gvTup 3 (gvCons (gvName 3) (gvCons (gvName 4) (gvCons (gvName 5) gvNil)))))
  (sSeq (sAsg (eCell (fLst aNil)) (gvName 6))
  (sSeq (sFor (iZipD (aCons (eVar 3) (aCons (eVar 4) aNil))) (gvTup 2 (gvCons (gvName 7) (gvCons (gvName 8) gvNil))) (sSeq (sAsg (eBin oDivW (eBin oSub (eVar 8) (eVar 7)) (eC (.int 2))) (gvName 9))
  (sSeq (sAsg (eFrz (fLst (aCons (eC (.int 0)) (aCons (eCallK 1 kf1 P_Lw_dip (aCons (eVar 0) (aCons (eBin oAdd (eVar 9) (eC (.int 1))) aNil))) (aCons (eCB oMin2 (aCons (eVar 9) (aCons (eCallK 1 kf1 P_Lw_dip (aCons (eVar 0) (aCons (eC (.int 3)) aNil))) aNil))) aNil))))) (gvName 10))
  (sDrop (eMl mAppend (eVar 6) (aCons (eBin oAdd (eVar 7) (eBin oMulW (eC (.int 2)) (eBin oIxL (eVar 10) (eCallK 1 kf1 P_Lw_dip (aCons (eVar 0) (aCons (eC (.int 3)) aNil)))))) aNil))))))
  (sSeq (sAsg (eFrz (fListRange (eCB oLenA (aCons (eVar 3) aNil)))) (gvName 11))
  (sRet (eFrz (fLc [13] (iLst (eVar 11)) (gvName 13) bYes (eCB oMaxL (aCons (eFrz (fLc [12] (iLst (eVar 11)) (gvName 12) (bB (eBin (oTIn false) (eTup (aCons (eVar 12) (aCons (eVar 13) aNil))) (eVar 5))) (eBin oAdd (eBin oIxL (eVar 6) (eVar 12)) (eTGet (eVar 5) (eTup (aCons (eVar 12) (aCons (eVar 13) aNil))))))) aNil)))))))))
abbrev N_Lw_plan : List Str := ["_law_jar_here", "_law_heap", "_law_top", "_law_low_here", "_law_high_here", "_law_far_here", "_law_lifts", "_law_first", "_law_last", "_law_wide", "_law_by", "_law_papers", "_law_k", "_law_j"]
def T_need_told (P_is_whole : PV) : SV :=
  (sSeq (sIf (bNot (bB (eIsi .dict (eVar 1)))) sNever sNext)
  (sForIk 1 (gvTup 2 (gvCons (gvName 2) (gvCons (gvName 3) gvNil))) (sIf (bOr (bNot (bB (eCall P_is_whole (aCons (eVar 2) (aCons (eBin oSub (eCB oLenA (aCons (eBin oIxT (eVar 0) (eC (.int 1))) aNil)) (eC (.int 1))) aNil))))) (bNot (bB (eCall P_is_whole (aCons (eVar 3) (aCons (eC (.int 1000000000000000000000000000000)) aNil)))))) sNever sNext)))
abbrev N_need_told : List Str := ["pile", "told", "paper", "block"]
def T_bars_by : SV :=
  (sSeq (sFor (iLst (eFrz (fCB nSortDI (aCons (eVar 3) aNil)))) (gvName 4) (sIf (bOr (bNot (bB (eChain oLe oLe (eBin oIxL (eVar 1) (eVar 4)) (eDGet (eVar 3) (eVar 4)) (eBin oIxL (eVar 2) (eVar 4))))) (bB (eBin (oEq false) (eBin oMod (eBin oSub (eDGet (eVar 3) (eVar 4)) (eBin oIxL (eVar 1) (eVar 4))) (eC (.int 2))) (eC (.int 1))))) (sRet (eTup (aCons (eC (.str "alone")) (aCons (eVar 4) aNil)))) sNext))
  (sSeq (sFor (iLst (eFrz (fCB nSortDI (aCons (eVar 3) aNil)))) (gvName 4) (sFor (iLst (eFrz (fCB nSortDI (aCons (eVar 3) aNil)))) (gvName 5) (sIf (bAnd (bB (eBin (oDIn false) (eVar 5) (eBin oIxL (eVar 0) (eVar 4)))) (bB (eBin oLt (eBin oSub (eDGet (eVar 3) (eVar 5)) (eDGet (eVar 3) (eVar 4))) (eDGet (eBin oIxL (eVar 0) (eVar 4)) (eVar 5))))) (sRet (eTup (aCons (eC (.str "both")) (aCons (eVar 4) (aCons (eVar 5) aNil))))) sNext)))
  (sRet (eC .non))))
abbrev N_bars_by : List Str := ["spans", "low", "high", "told", "paper", "other"]
def T_all_spans (P_spans_from : PV) : SV :=
  (sRet (eFrz (fLc [1] (iRange1 (aCons (eCB oLenA (aCons (eBin oIxT (eVar 0) (eC (.int 1))) aNil)) aNil)) (gvName 1) bYes (eCall P_spans_from (aCons (eVar 0) (aCons (eVar 1) aNil))))))
abbrev N_all_spans : List Str := ["pile", "paper"]
def T_bars (P_latest P_earliest P_need_told P_bars_by P_all_spans : PV) : SV :=
  (sSeq (sPar 3 4 (aCons (eCall P_earliest (aCons (eVar 0) aNil)) (aCons (eCall P_latest (aCons (eVar 0) (aCons (eVar 1) aNil))) aNil)))
  (sSeq (sDrop (eCall P_need_told (aCons (eVar 0) (aCons (eVar 2) aNil))))
  (sRet (eCall P_bars_by (aCons (eCall P_all_spans (aCons (eVar 0) aNil)) (aCons (eVar 3) (aCons (eVar 4) (aCons (eVar 2) aNil))))))))
abbrev N_bars : List Str := ["pile", "most", "told", "low", "high"]
def T_Lw_by_plans : SV :=
  (sSeq (sIf (bB (eBin (oEq true) (eFrz (fLc [3] (iLst (eVar 0)) (gvName 3) (bB (eBin (oEq false) (eFrz (fLc [4] (iKk 2) (gvName 4) (bB (eBin (oEq true) (eBin oIxL (eVar 3) (eVar 4)) (eDGet (eVar 2) (eVar 4)))) (eVar 4))) (eFrz (fLst aNil)))) (eC (.int 1)))) (eFrz (fLst aNil)))) (sRet (eC .non)) sNext)
  (sSeq (sFor (iLst (eFrz (fCB nSortDI (aCons (eVar 2) aNil)))) (gvName 5) (sIf (bB (eBin (oIn true) (eDGet (eVar 2) (eVar 5)) (eFrz (fLc [3] (iLst (eVar 0)) (gvName 3) bYes (eBin oIxL (eVar 3) (eVar 5)))))) (sRet (eTup (aCons (eC (.str "alone")) (aCons (eVar 5) aNil)))) sNext))
  (sSeq (sFor (iLst (eFrz (fCB nSortDI (aCons (eVar 2) aNil)))) (gvName 5) (sFor (iLst (eFrz (fCB nSortDI (aCons (eVar 2) aNil)))) (gvName 6) (sSeq (sAsg (eTup (aCons (eDGet (eVar 2) (eVar 5)) (aCons (eDGet (eVar 2) (eVar 6)) aNil))) (gvName 7))
  (sSeq (sAsg (eFrz (fLc [3] (iLst (eVar 0)) (gvName 3) bYes (eTup (aCons (eBin oIxL (eVar 3) (eVar 5)) (aCons (eBin oIxL (eVar 3) (eVar 6)) aNil))))) (gvName 8))
  (sIf (bAnd (bB (eBin (oEq true) (eVar 5) (eVar 6))) (bAnd (bB (eBin (oTIn false) (eTup (aCons (eVar 5) (aCons (eVar 6) aNil))) (eVar 1))) (bB (eBin (oIn true) (eVar 7) (eVar 8))))) (sRet (eTup (aCons (eC (.str "both")) (aCons (eVar 5) (aCons (eVar 6) aNil))))) sNext)))))
  (sRet (eC (.str "odd"))))))
abbrev N_Lw_by_plans : List Str := ["_law_plans_here", "_law_far_here", "_law_blocks", "_law_some", "_law_k", "_law_one", "_law_other", "_law_both", "_law_there"]
end ST
end L3
namespace L3
namespace ST
open PySem PySem.Spec PyProof.Rows L2
open T0
open PN (addP)
def updZ (F : Int × Int → Int) (z : Int × Int) (y : Int) : Int × Int → Int := fun w => if w = z then y else F w
abbrev fD (F : Int × Int → Int) : Int × Int → D := fun z => .int (F z)
theorem tAt_far {F : Int × Int → Int} {L : List (Int × Int)} {z : Int × Int} : tAt (kP z) (L.map kP) (L.map (fD F)) = if z ∈ L then some (.int (F z)) else none := by
  by_cases h : z ∈ L
  · rw [if_pos h, tAt_pairs h]
  · rw [if_neg h]
    induction L with
    | nil => rfl
    | cons y L ih =>
      simp only [List.mem_cons, not_or] at h
      simp only [List.map_cons, tAt]
      rw [if_neg (fun e => h.1 (kP_inj e).symm)]
      exact ih h.2
theorem yPut_far {F : Int × Int → Int} {L : List (Int × Int)} {z : Int × Int} {y : Int} : yPut (kP z) (.int y) (L.map kP) (L.map (fD F)) = (addP z L).map (fD (updZ F z y)) := by
  unfold yPut addP
  rw [PN.hasT_pairs]
  by_cases h : z ∈ L
  · have : ∀ L : List (Int × Int), ((L.map kP).zip (L.map (fD F))).map (fun w => if w.1 = kP z then D.int y else w.2) = L.map (fD (updZ F z y)) := by
      intro L
      induction L with
      | nil => rfl
      | cons x L ih =>
        simp only [List.map_cons, List.zip_cons_cons, ih, List.cons.injEq, and_true]
        by_cases e : x = z
        · subst e; simp [fD, updZ]
        · rw [if_neg fun q => e (kP_inj q)]
          simp [fD, updZ, e]
    simp only [h, decide_true, if_true]
    exact this L
  · simp only [h, decide_false, Bool.false_eq_true, if_false]
    rw [List.map_append]
    congr 1
    · refine List.map_congr_left fun x hx => ?_
      have : x ≠ z := fun e => h (e ▸ hx)
      simp [fD, updZ, this]
    · simp [fD, updZ]
def Cov (L : List (Int × Int)) (F : Int × Int → Int) (k q c : Int) : Prop := (k, q) ∈ L ∧ c ≤ F (k, q)
theorem mem_addP {z w : Int × Int} {L : List (Int × Int)} : w ∈ addP z L ↔ w = z ∨ w ∈ L := by
  unfold addP
  by_cases h : z ∈ L
  · simp only [h, if_true]
    exact ⟨.inr, fun e => e.elim (fun e => e ▸ h) id⟩
  · simp only [h, if_false]
    simp only [List.mem_append, List.mem_cons, List.not_mem_nil, or_false]
    exact ⟨fun e => e.symm, fun e => e.symm⟩
theorem addP_len {z : Int × Int} {L : List (Int × Int)} : (addP z L).length ≤ L.length + 1 := by
  unfold addP
  split <;> simp
theorem Cov.put {L : List (Int × Int)} {F : Int × Int → Int} {k q c y : Int} {z : Int × Int} (h : Cov L F k q c) (hy : z ∈ L → F z ≤ y) : Cov (addP z L) (updZ F z y) k q c := by
  refine ⟨mem_addP.mpr (.inr h.1), ?_⟩
  unfold updZ
  by_cases e : (k, q) = z
  · rw [if_pos e]
    have := hy (e ▸ h.1)
    have h2 := h.2
    rw [e] at h2
    omega
  · rw [if_neg e]
    exact h.2
theorem Cov.at_ {L : List (Int × Int)} {F : Int × Int → Int} {k q c y : Int} (h : c ≤ y) : Cov (addP (k, q) L) (updZ F (k, q) y) k q c := ⟨mem_addP.mpr (.inl rfl), by unfold updZ; rw [if_pos rfl]; exact h⟩
structure FarS (st : Str) (rs L : List (Int × Int)) (F : Int × Int → Int) : Prop where
  way : ∀ z, z ∈ L → Way st rs z.1 z.2 (F z)
  inn : ∀ z, z ∈ L → 0 ≤ z.1 ∧ z.1 < st.length
  own : ∀ k : Nat, k < st.length → ((k : Int), (k : Int)) ∈ L
theorem FarS.put {st : Str} {rs L : List (Int × Int)} {F : Int × Int → Int} (h : FarS st rs L F) {k a b : Int} (hz : (a, b) ∈ rs) (hm : (k, a) ∈ L) : FarS st rs (addP (k, b) L) (updZ F (k, b) (max (if (k, b) ∈ L then F (k, b) else 0) (F (k, a) + chg st (a, b)))) := by
  have hi := h.inn _ hm
  have hw := h.way _ hm
  refine ⟨fun z hz2 => ?_, fun z hz2 => ?_, fun j hj => mem_addP.mpr (.inr (h.own j hj))⟩
  · unfold updZ
    by_cases e : z = (k, b)
    · subst e
      rw [if_pos rfl]
      have s := hw.snoc hz
      simp only at s
      by_cases hb : (k, b) ∈ L
      · rw [if_pos hb]
        by_cases hl : F (k, b) ≤ F (k, a) + chg st (a, b)
        · rw [show max (F (k, b)) (F (k, a) + chg st (a, b)) = F (k, a) + chg st (a, b) by omega]
          exact s
        · rw [show max (F (k, b)) (F (k, a) + chg st (a, b)) = F (k, b) by omega]
          exact h.way _ hb
      · rw [if_neg hb]
        have := s.nn
        rw [show max 0 (F (k, a) + chg st (a, b)) = F (k, a) + chg st (a, b) by omega]
        exact s
    · rw [if_neg e]
      exact h.way _ ((mem_addP.mp hz2).resolve_left e)
  · rcases mem_addP.mp hz2 with e | hz2
    · rw [e]; exact hi
    · exact h.inn _ hz2
structure FarD (st : Str) (rs L : List (Int × Int)) (F : Int × Int → Int) : Prop where
  bst : ∀ p q : Int, 0 ≤ p → p < st.length → Bst st rs p q (if (p, q) ∈ L then some (F (p, q)) else none)
  inn : ∀ z, z ∈ L → 0 ≤ z.1 ∧ z.1 < st.length
  len : L.length ≤ 40000
theorem far_of {st : Str} {rs L : List (Int × Int)} {F : Int × Int → Int} (h : FarS st rs L F) (hl : L.length ≤ 40000) (hc : ∀ p q c : Int, 0 ≤ p → p < st.length → Way st rs p q c → Cov L F p q c) : FarD st rs L F := by
  refine ⟨fun p q h0 h1 => ?_, h.inn, hl⟩
  by_cases hm : (p, q) ∈ L
  · rw [if_pos hm]
    exact ⟨h.way _ hm, fun c w => (hc p q c h0 h1 w).2⟩
  · rw [if_neg hm]
    exact fun c w => hm (hc p q c h0 h1 w).1
end ST
end L3
namespace L3
namespace ST
open PySem PySem.Spec PyProof.Rows L2
open T0
open PN (addP)
theorem fin_dtF {C : Store} {k : Nat} {L : List (Int × Int)} {F : Int × Int → Int} (h : C[k]? = some (.dt (L.map kP) (L.map (fD F)))) : fin 0 C (.ptr k) = .dt false (L.map kP) (L.map (fD F)) := by
  have f : flatDs (L.map (fD F)) = true := by
    clear h
    induction L with
    | nil => rfl
    | cons z L ih => simp only [List.map_cons, flatDs, ih, Bool.and_true]; rfl
  unfold fin
  simp only [mapW, finG, h, Nat.not_lt_zero, if_false]
  rw [mapWs_flat f]
def P_Lw_far : PV := fun ds C Q => ∃ (o : Bool) (f st : Str) (rs : List (Int × Int)), ds = [pil o f st rs] ∧ Pil f st rs ∧ ∀ L F, FarD st rs L F → Q (.dt false (L.map kP) (L.map (fD F))) C
structure LapI (st : Str) (rs : List (Int × Int)) (t : Nat) (dn : List (Int × Int)) (L : List (Int × Int)) (F : Int × Int → Int) : Prop where
  snd : FarS st rs L F
  old : ∀ k q c : Int, 0 ≤ k → k < st.length → WayN st rs t k q c → Cov L F k q c
  new : ∀ y, y ∈ dn → ∀ k c : Int, 0 ≤ k → k < st.length → WayN st rs t k y.1 c → Cov L F k y.2 (c + chg st y)
theorem LapI.next {st : Str} {rs : List (Int × Int)} {t : Nat} {L : List (Int × Int)} {F : Int × Int → Int} (I : LapI st rs t rs L F) : LapI st rs (t + 1) [] L F := by
  refine ⟨I.snd, fun k q c h0 h1 w => ?_, fun y hy => by cases hy⟩
  cases w with
  | nil => exact I.old k k 0 h0 h1 (.nil _ _)
  | snoc w hz => exact I.new _ hz k _ h0 h1 w
theorem v_Lw_far (ds : List D) (C : Store) (Q3 : D → Store → Prop) (h : P_Lw_far ds C Q3) (hC : C.length = 0) : T_Lw_far (enF 0 Q3) (start3 N_Lw_far ds) C := by
  obtain ⟨o, f, st, rs, rfl, hp, q⟩ := h
  rw [List.length_eq_zero_iff] at hC
  subst hC
  have hz := sizeL
  have h24 := hp.top
  have hr := hp.rul
  have h60 := hr.few
  obtain ⟨r, hr1, hr2⟩ := ranks hr.inn hp.acy
  unfold T_Lw_far
  rw [u_sSeq, u_sAsg]
  refine ⟨_, rfl, _, _, _, rfl, rfl, rfl, PN.oIn_le h24, st.length, rfl, by omega, by omega, ?_⟩
  rw [PN.rgI_range]
  refine PN.lc_of (List.range st.length) _ (fun k => .tup [pD ((k : Int), (k : Int)), .int 0]) (fun _ h => by simp [srcOf] at h) (by simp; omega) (fun k hk R1 hR => ?_) ?_
  · exact ⟨_, rfl, _, rfl, le5 _ (by simp), le5 _ (by simp), hR⟩
  let L0 : List (Int × Int) := (List.range st.length).map fun k : Nat => ((k : Int), (k : Int))
  have nd : L0.Nodup := by
    exact List.pairwise_map.mpr (List.nodup_range.imp fun h e => h (by simp only [Prod.mk.injEq] at e; omega))
  refine ⟨_, L0.map fun z => (kP z, .int 0), rfl, by simp only [Cell.frz, lstOf, List.map_map, L0]; rfl, ?_⟩
  rw [foldT_new (F := fun _ => .int 0) nd]
  try dsimp only
  rw [u_gvName, u_sSeq]
  refine ⟨_, rfl, _, _, _, rfl, rfl, rfl, PN.oIn_le h24, st.length, rfl, by omega, by omega, rfl, np_rg' 0 _, ?_⟩
  have hL0 : ∀ z, z ∈ L0 ↔ ∃ k : Nat, k < st.length ∧ z = ((k : Int), (k : Int)) := fun z => by
    simp only [L0, List.mem_map, List.mem_range]
    exact ⟨fun ⟨k, h, e⟩ => ⟨k, h, e.symm⟩, fun ⟨k, h, e⟩ => ⟨k, h, e.symm⟩⟩
  have I0 : LapI st rs 0 [] L0 (fun _ => 0) := by
    refine ⟨⟨fun z hz => ?_, fun z hz => ?_, fun k hk => (hL0 _).mpr ⟨k, hk, rfl⟩⟩, fun k q c h0 h1 w => ?_, fun y hy => by cases hy⟩
    · obtain ⟨k, _, rfl⟩ := (hL0 z).mp hz
      exact .nil _
    · obtain ⟨k, hk, rfl⟩ := (hL0 z).mp hz
      exact ⟨by simp, by simpa using hk⟩
    · cases w with
      | nil =>
        obtain ⟨i, rfl⟩ := Int.eq_ofNat_of_zero_le h0
        exact ⟨(hL0 _).mpr ⟨i, by omega, rfl⟩, Int.le_refl _⟩
  refine forW_run (fun ds Γ C => ∃ (t : Nat) (L : List (Int × Int)) (F : Int × Int → Int), t + ds.length = st.length ∧ C = [.dt (L.map kP) (L.map (fD F))] ∧ LapI st rs t [] L F ∧ L.length ≤ 24 + 1440 * t ∧ ∃ a b c d e, Γ = [some (pil o f st rs), some (.ptr 0), a, b, c, d, e]) ?step ?stop _ _ _ ⟨0, L0, fun _ => 0, by rw [rg_len']; simp, rfl, I0, by simp [L0]; omega, _, _, _, _, _, rfl⟩
  case step =>
    rintro d ds Γ C ⟨t, L, F, ht, rfl, I, hL, a, b, c, d', e, rfl⟩ R hR
    simp only [List.length_cons] at ht
    rw [u_gvName]
    try dsimp only
    refine ⟨_, rfl, _, _, _, rfl, rfl, rfl, rs.map pD, rfl, rfl, np_pairs rs, ?_⟩
    refine forW_run (fun ds Γ C => ∃ (dn rest : List (Int × Int)) (L : List (Int × Int)) (F : Int × Int → Int), rs = dn ++ rest ∧ ds = rest.map pD ∧ C = [.dt (L.map kP) (L.map (fD F))] ∧ LapI st rs t dn L F ∧ L.length ≤ 24 + 1440 * t + 24 * dn.length ∧ ∃ a b c d e, Γ = [some (pil o f st rs), some (.ptr 0), a, b, c, d, e]) ?step2 ?stop2 _ _ _ ⟨[], rs, L, F, rfl, rfl, rfl, I, by simpa using hL, _, _, _, _, _, rfl⟩
    case step2 =>
      rintro d ds Γ C ⟨dn, rest, L, F, e3, e4, rfl, I, hL, a, b, c, d', e, rfl⟩ R2 hR2
      cases rest with
      | nil => cases e4
      | cons z rest =>
      simp only [List.map_cons, List.cons.injEq] at e4
      obtain ⟨rfl, rfl⟩ := e4
      have hzm : z ∈ rs := by rw [e3]; simp
      obtain ⟨a1, a2, a3, a4, a5⟩ := hr.inn z hzm
      obtain ⟨i, hi⟩ := Int.eq_ofNat_of_zero_le a1
      obtain ⟨j, hj⟩ := Int.eq_ofNat_of_zero_le a3
      have hi' : i < st.length := by omega
      have hj' : j < st.length := by omega
      obtain ⟨zi, zj⟩ := z
      simp only at hi hj a5
      subst hi hj
      have hdl : dn.length + 1 ≤ 60 := by
        have := congrArg List.length e3
        simp at this
        omega
      refine ⟨_, rfl, rfl, _, _, rfl, _, _, rfl, rfl, ?_⟩
      try dsimp only
      rw [u_sSeq, u_sAsg]
      refine chg_e (o := o) (i := i) (j := j) rfl rfl rfl h24 hi' hj' ?_
      try dsimp only
      rw [u_gvName]
      have ech : chOf st i j = chg st ((i : Int), (j : Int)) := rfl
      refine ⟨_, rfl, _, _, _, rfl, rfl, rfl, PN.oIn_le h24, st.length, rfl, by omega, by omega, rfl, np_rg' 0 _, ?_⟩
      refine forW_run (fun ds Γ C => ∃ (k : Nat) (L : List (Int × Int)) (F : Int × Int → Int), k ≤ st.length ∧ ds = ((List.range st.length).drop k).map (fun j : Nat => D.int (j : Nat)) ∧ C = [.dt (L.map kP) (L.map (fD F))] ∧ LapI st rs t dn L F ∧
        (∀ x : Nat, x < k → ∀ c : Int, WayN st rs t (x : Int) (i : Int) c → Cov L F (x : Int) (j : Int) (c + chg st ((i : Int), (j : Int)))) ∧ L.length ≤ 24 + 1440 * t + 24 * dn.length + k ∧
        ∃ a b, Γ = [some (pil o f st rs), some (.ptr 0), a, b, some (.int (i : Nat)), some (.int (j : Nat)), some (.int (chg st ((i : Int), (j : Int))))]) ?step3 ?stop3 _ _ _ ⟨0, L, F, by omega, PN.rgI_range (n := st.length), rfl, I, fun x hx => by omega, by omega, _, _, rfl⟩
      case step3 =>
        rintro d ds Γ C ⟨k, L, F, hk, eds, rfl, I, hB, hL, a, b, rfl⟩ R3 hR3
        obtain ⟨hkn, rfl, rfl⟩ := PN.rg_drop eds
        rw [u_gvName]
        try dsimp only
        rw [u_sIf]
        refine ⟨_, rfl, _, rfl, le5 _ (by simp), _, rfl, L.map kP, L.map (fD F), kP ((k : Int), (i : Int)), rfl, rfl, _, rfl, ?_⟩
        rw [tAt_far]
        by_cases hm : ((k : Int), (i : Int)) ∈ L
        · refine goT (by simp [hm]) ?_
          rw [u_sAsg]
          refine ⟨_, rfl, ⟨_, rfl⟩, _, rfl, _, rfl, le5 _ (by simp), L.map kP, L.map (fD F), kP ((k : Int), (j : Int)), rfl, rfl, ?_⟩
          refine ⟨_, rfl, _, rfl, _, rfl, le5 _ (by simp), L.map kP, L.map (fD F), kP ((k : Int), (i : Int)), .int (F ((k : Int), (i : Int))), rfl, rfl, by rw [tAt_far, if_pos hm], _, rfl, _, _, rfl, rfl, ?_⟩
          have eg : (tAt (kP ((k : Int), (j : Int))) (L.map kP) (L.map (fD F))).getD (.int 0) = .int (if ((k : Int), (j : Int)) ∈ L then F ((k : Int), (j : Int)) else 0) := by
            rw [tAt_far]
            split <;> rfl
          rw [eg]
          refine ⟨_, _, rfl, ?_⟩
          refine ⟨_, rfl, _, rfl, _, rfl, le5 _ (by simp), 0, L.map kP, L.map (fD F), kP ((k : Int), (j : Int)), rfl, rfl, rfl, by rw [List.length_map]; omega, ?_⟩
          rw [PN.tPut_pairs, yPut_far]
          have hcm : ∀ y : Int, ((k : Int), (j : Int)) ∈ L → F ((k : Int), (j : Int)) ≤ max (if ((k : Int), (j : Int)) ∈ L then F ((k : Int), (j : Int)) else 0) y := fun y h => by rw [if_pos h]; omega
          refine hR3 _ _ ⟨k + 1, _, _, by omega, rfl, rfl, ⟨I.snd.put hzm hm, fun k' q' c' h0 h1 w => (I.old k' q' c' h0 h1 w).put (hcm _), fun y hy k' c' h0 h1 w => (I.new y hy k' c' h0 h1 w).put (hcm _)⟩, fun x hx c w => ?_, by have := addP_len (z := ((k : Int), (j : Int))) (L := L); omega, _, _, rfl⟩
          by_cases e : x = k
          · subst e
            have := (I.old (x : Int) (i : Int) c (by omega) (by omega) w).2
            exact Cov.at_ (by omega)
          · exact (hB x (by omega) c w).put (hcm _)
        · refine goF (by simp [hm]) ?_
          rw [u_sNext]
          refine hR3 _ _ ⟨k + 1, L, F, by omega, rfl, rfl, I, fun x hx c w => ?_, by omega, _, _, rfl⟩
          by_cases e : x = k
          · subst e
            exact absurd (I.old (x : Int) (i : Int) c (by omega) (by omega) w).1 hm
          · exact hB x (by omega) c w
      case stop3 =>
        rintro Γ C ⟨k, L, F, hk, eds, rfl, I, hB, hL, a, b, rfl⟩
        have ek : k = st.length := by
          have := congrArg List.length eds
          simp at this
          omega
        subst ek
        refine hR2 _ _ ⟨dn ++ [((i : Int), (j : Int))], rest, L, F, by rw [e3]; simp, rfl, rfl, ⟨I.snd, I.old, fun y hy k c h0 h1 w => ?_⟩, by simp only [List.length_append, List.length_cons, List.length_nil]; omega, _, _, _, _, _, rfl⟩
        rcases List.mem_append.mp hy with hy | hy
        · exact I.new y hy k c h0 h1 w
        · obtain rfl : y = ((i : Int), (j : Int)) := by simpa using hy
          obtain ⟨x, rfl⟩ := Int.eq_ofNat_of_zero_le h0
          exact hB x (by omega) c w
    case stop2 =>
      rintro Γ C ⟨dn, rest, L, F, e3, e4, rfl, I, hL, a, b, c, d', e, rfl⟩
      cases rest with
      | cons z rest => cases e4
      | nil =>
      rw [List.append_nil] at e3
      subst e3
      exact hR _ _ ⟨t + 1, L, F, by omega, rfl, I.next, by omega, _, _, _, _, _, rfl⟩
  case stop =>
    rintro Γ C ⟨t, L, F, ht, rfl, I, hL, a, b, c, d', e, rfl⟩
    simp only [List.length_nil, Nat.add_zero] at ht
    subst ht
    refine ⟨_, rfl, ?_⟩
    show Q3 (fin 0 _ (.ptr 0)) (finS 0 _)
    rw [fin_dtF rfl, finS0]
    refine q L F (far_of I.snd (by omega) fun p q c h0 h1 w => ?_)
    refine I.old p q c h0 h1 ?_
    have ht := w.tgt hr.inn ⟨h0, h1⟩
    exact (w.few hr2).mono (by have := hr1 q.toNat (by omega); omega)
end ST
end L3
namespace L3
namespace ST
open PySem PySem.Spec PyProof.Rows L2
open T0
def P_Lw_high : PV := fun ds C Q => ∃ (o : Bool) (f st : Str) (rs : List (Int × Int)) (top : Int), ds = [pil o f st rs, .int top] ∧ Pil f st rs ∧ ∀ v u, PFix f st rs v → OFix st rs u → Q (.lst false (wL st.length (late top v u))) C
theorem zip_sg {st : Str} {u : Nat → Int} : zipD (sgL st) (wL st.length u) = (List.range st.length).map fun j : Nat => .tup [.str ⟨#[sg st j]⟩, .int (u j)] := by
  have e1 : sgL st = (List.range st.length).map fun j : Nat => .str ⟨#[sg st j]⟩ := by
    refine List.ext_getElem? fun i => ?_
    unfold sgL
    by_cases hi : i < st.length
    · rw [List.getElem?_map, List.getElem?_map, List.getElem?_range hi]
      have h2 : st.cps.toList[i]? = some (sg st i) := by
        unfold sg
        rw [List.getD_eq_getElem?_getD]
        have : i < st.cps.toList.length := by rw [Array.length_toList]; exact hi
        rw [List.getElem?_eq_getElem this]
        rfl
      rw [h2]
      rfl
    · rw [List.getElem?_eq_none (by rw [List.length_map, Array.length_toList]; exact Nat.not_lt.mp hi), List.getElem?_eq_none (by simp; omega)]
  have e2 : wL st.length u = (List.range st.length).map fun j : Nat => .int (u j) := rfl
  rw [e1, e2]
  generalize List.range st.length = l
  induction l with
  | nil => rfl
  | cons a l ih => simp only [List.map_cons, zipD, ih]
theorem base_e {is ip j : Nat} {o : Bool} {f st : Str} {rs : List (Int × Int)} {Γ : Slots} {C : Store} {R : D → Store → Prop} (h1 : Γ[is]? = some (some (.str ⟨#[sg st j]⟩))) (h2 : Γ[ip]? = some (some (pil o f st rs))) (hf : f = cR ∨ f = cB) (q : R (.int (bsOf f st j)) C) :
    eCB oInt (aCons (eBin (oEq true) (eVar is) (eBin oIxT (eVar ip) (eC (.int 0)))) aNil) Γ C R := by
  refine ⟨_, h1, _, h2, _, _, _, rfl, rfl, rfl, ?_⟩
  show R (.int (if (true != decide ((⟨#[sg st j]⟩ : Str) = f)) = true then 1 else 0)) _
  rw [f_one hf, one_ne]
  exact q
theorem v_Lw_high (ds : List D) (C : Store) (Q3 : D → Store → Prop) (h : P_Lw_high ds C Q3) (hC : C.length = 0) : T_Lw_high (enF 0 Q3) (start3 N_Lw_high ds) C := by
  obtain ⟨o, f, st, rs, top, rfl, hp, q⟩ := h
  rw [List.length_eq_zero_iff] at hC
  subst hC
  have hz := sizeL
  have h24 := hp.top
  have hr := hp.rul
  obtain ⟨V, hV⟩ := hp.ofix
  obtain ⟨w, W⟩ := hp.pfix
  obtain ⟨r, hr1, hr2⟩ := ranks (rv_inn hr) (rv_acy hr hp.acy)
  unfold T_Lw_high
  rw [u_sSeq, u_sAsg]
  refine ⟨by rw [hz]; show 1 ≤ 16777216; decide, _, rfl, _, _, _, rfl, rfl, rfl, by omega, _, (st.length : Nat), rfl, rfl, by omega, by omega, by simp; omega, rfl, ?_⟩
  rw [rep0]
  try dsimp only
  rw [u_gvName, u_sSeq]
  refine ⟨_, rfl, _, _, rfl, rfl, st.length, by rw [wL_len], by omega, by omega, rfl, np_rg' 0 _, ?_⟩
  refine forW_run (fun ds Γ C => ∃ (k : Nat) (v : Nat → Int), k + ds.length = st.length ∧ C = [.lst (wL st.length v)] ∧ RInv st.length (fun _ => 0) (chOf st) (rv rs) r V k [] v ∧ ∃ a b c, Γ = [some (pil o f st rs), some (.int top), some (.ptr 0), a, b, c, none, none, none]) ?step ?stop _ _ _ ⟨0, fun _ => 0, by rw [rg_len']; simp, rfl, RInv.start hV, _, _, _, rfl⟩
  case step =>
    rintro d ds Γ C ⟨k, v, hk, rfl, hI, a, b, c, rfl⟩ R hR
    simp only [List.length_cons] at hk
    rw [u_gvName]
    try dsimp only
    refine ⟨_, rfl, _, _, _, rfl, rfl, rfl, _, rfl, rfl, np_pairs rs, ?_⟩
    refine forW_run (fun ds Γ C => ∃ (dn rest : List (Int × Int)) (v : Nat → Int), rs = dn ++ rest ∧ ds = rest.map pD ∧ C = [.lst (wL st.length v)] ∧ RInv st.length (fun _ => 0) (chOf st) (rv rs) r V k (rv dn) v ∧ ∃ a b c, Γ = [some (pil o f st rs), some (.int top), some (.ptr 0), a, b, c, none, none, none]) ?step2 ?stop2 _ _ _ ⟨[], rs, v, rfl, rfl, rfl, hI, _, _, _, rfl⟩
    case step2 =>
      rintro d ds Γ C ⟨dn, rest, v, e3, e4, rfl, I, a, b, c, rfl⟩ R2 hR2
      cases rest with
      | nil => cases e4
      | cons z rest =>
      simp only [List.map_cons, List.cons.injEq] at e4
      obtain ⟨rfl, rfl⟩ := e4
      have hzm : z ∈ rs := by rw [e3]; simp
      obtain ⟨a1, a2, a3, a4, a5⟩ := hr.inn z hzm
      obtain ⟨i, hi⟩ := Int.eq_ofNat_of_zero_le a1
      obtain ⟨j, hj⟩ := Int.eq_ofNat_of_zero_le a3
      have hi' : i < st.length := by omega
      have hj' : j < st.length := by omega
      obtain ⟨zi, zj⟩ := z
      simp only at hi hj
      subst hi hj
      have st1 := I.step (a := j) (b := i) hV (rv_mem.mpr hzm) hj' hi'
      refine ⟨_, rfl, rfl, _, _, rfl, _, _, rfl, rfl, ?_⟩
      refine ⟨_, rfl, _, rfl, _, _, _, rfl, rfl, wL_at hi', ?_⟩
      refine ⟨_, rfl, _, rfl, _, _, _, rfl, rfl, wL_at hj', ?_⟩
      show eCB oInt _ _ _ _
      refine chg_e (o := o) (i := i) (j := j) rfl rfl rfl h24 hi' hj' ?_
      refine ⟨_, _, rfl, rfl, _, _, rfl, ?_⟩
      refine ⟨_, rfl, _, rfl, 0, wL st.length v, _, i, rfl, rfl, rfl, by rw [wL_len]; exact ix_nat hi', ?_⟩
      show R2 _ [Cell.lst ((wL st.length v).set i (.int (max (v i) (v j + chOf st i j))))]
      rw [max_set hi', ch_comm]
      refine hR2 _ _ ⟨dn ++ [((i : Int), (j : Int))], rest, _, by rw [e3]; simp, rfl, rfl, ?_, _, _, _, rfl⟩
      have e : rv (dn ++ [((i : Int), (j : Int))]) = rv dn ++ [((j : Int), (i : Int))] := by simp [rv]
      rw [e]
      exact st1
    case stop2 =>
      rintro Γ C ⟨dn, rest, v, e3, e4, rfl, I, a, b, c, rfl⟩
      cases rest with
      | cons z rest => cases e4
      | nil =>
      rw [List.append_nil] at e3
      subst e3
      exact hR _ _ ⟨k + 1, v, by omega, rfl, I.next hV hr2, _, _, _, rfl⟩
  case stop =>
    rintro Γ C ⟨k, v, hk, rfl, hI, a, b, c, rfl⟩
    simp only [List.length_nil, Nat.add_zero] at hk
    subst hk
    have ev : wL st.length v = wL st.length V := wL_congr fun j hj => hI.eq j hj (hr1 j hj)
    rw [ev]
    try dsimp only
    rw [u_sSeq]
    refine ⟨Nat.zero_le _, ?_⟩
    try dsimp only
    rw [u_gvName, u_sSeq]
    have npw : noptrs (wL st.length V) = true := by rw [wL_ints]; exact noptrs_ints _
    refine ⟨_, rfl, _, _, _, rfl, rfl, rfl, _, rfl, st, .ptr 0, wL st.length V, rfl, rfl, npw, ?_⟩
    rw [zip_sg]
    refine ⟨noptrs_map _ fun _ _ => rfl, ?_⟩
    refine forC_run (fun ds Γ C => ∃ (dn rest : List Nat), List.range st.length = dn ++ rest ∧ ds = rest.map (fun j => .tup [.str ⟨#[sg st j]⟩, .int (V j)]) ∧ C = [.lst (wL st.length V), .lst (dn.map fun j => .int (late top w V j))] ∧ ∃ a b c d e, Γ = [some (pil o f st rs), some (.int top), some (.ptr 0), a, b, c, some (.ptr 1), d, e]) ?step3 ?stop3 _ _ _ ⟨[], List.range st.length, rfl, rfl, rfl, _, _, _, _, _, rfl⟩
    case step3 =>
      rintro d ds Γ C ⟨dn, rest, e1, e2, rfl, a, b, c, d1, e, rfl⟩ R hR
      cases rest with
      | nil => cases e2
      | cons j rest =>
      simp only [List.map_cons, List.cons.injEq] at e2
      obtain ⟨rfl, rfl⟩ := e2
      have hl : dn.length ≤ 24 := by
        have := congrArg List.length e1
        simp at this
        omega
      have hj : j < st.length := by
        have : j ∈ List.range st.length := by rw [e1]; simp
        simpa using this
      refine ⟨_, rfl, rfl, _, _, rfl, _, _, rfl, rfl, ?_⟩
      refine ⟨_, rfl, _, rfl, _, rfl, _, rfl, _, _, rfl, rfl, _, rfl, _, rfl, _, _, rfl, rfl, ?_⟩
      show eCB oInt _ _ _ _
      refine base_e (j := j) (o := o) (f := f) (rs := rs) rfl rfl hp.fst ?_
      refine ⟨_, _, rfl, rfl, _, _, rfl, rfl, (show (0 : Int) < 2 by decide), _, _, rfl, rfl, 1, _, _, rfl, rfl, rfl, by rw [List.length_map]; omega, ?_⟩
      have el : top - V j - (top - V j - bsOf f st j) % 2 = late top w V j := by
        have := fix_par' hp W hj
        unfold late
        omega
      dsimp only
      rw [el]
      refine hR _ _ (fun k hk => ?_) ⟨dn ++ [j], rest, by rw [e1]; simp, rfl, by simp, _, _, _, _, _, rfl⟩
      have : k = 0 := by simpa [srcOf] using hk
      subst this
      rfl
    case stop3 =>
      rintro Γ C ⟨dn, rest, e1, e2, rfl, a, b, c, d1, e, rfl⟩
      cases rest with
      | cons p rest => cases e2
      | nil =>
      rw [List.append_nil] at e1
      subst e1
      refine ⟨_, rfl, ?_⟩
      show Q3 (fin 0 [.lst (wL st.length V), .lst (wL st.length (late top w V))] (.ptr 1)) (finS 0 _)
      rw [fin_wL rfl, finS0]
      exact q w V W hV
end ST
end L3
namespace L3
namespace ST
open PySem PySem.Spec PyProof.Rows L2
open T0
def maxL : List Int → Int
  | [] => 0
  | x :: xs => xs.foldl max x
def minL : List Int → Int
  | [] => 0
  | x :: xs => xs.foldl min x
theorem foldl_max : ∀ (xs : List Int) (a : Int), (xs.foldl max a = a ∨ xs.foldl max a ∈ xs) ∧ a ≤ xs.foldl max a ∧ ∀ y, y ∈ xs → y ≤ xs.foldl max a
  | [], a => ⟨.inl rfl, Int.le_refl _, fun y h => by cases h⟩
  | x :: xs, a => by
    obtain ⟨h1, h2, h3⟩ := foldl_max xs (max a x)
    simp only [List.foldl_cons]
    refine ⟨?_, by omega, fun y hy => ?_⟩
    · rcases h1 with h | h
      · by_cases e : a ≤ x
        · refine .inr (List.mem_cons.mpr (.inl ?_)); rw [h]; omega
        · refine .inl ?_; rw [h]; omega
      · exact .inr (List.mem_cons_of_mem _ h)
    · rcases List.mem_cons.mp hy with rfl | hy
      · omega
      · exact h3 y hy
theorem foldl_min : ∀ (xs : List Int) (a : Int), (xs.foldl min a = a ∨ xs.foldl min a ∈ xs) ∧ xs.foldl min a ≤ a ∧ ∀ y, y ∈ xs → xs.foldl min a ≤ y
  | [], a => ⟨.inl rfl, Int.le_refl _, fun y h => by cases h⟩
  | x :: xs, a => by
    obtain ⟨h1, h2, h3⟩ := foldl_min xs (min a x)
    simp only [List.foldl_cons]
    refine ⟨?_, by omega, fun y hy => ?_⟩
    · rcases h1 with h | h
      · by_cases e : a ≤ x
        · refine .inl ?_; rw [h]; omega
        · refine .inr (List.mem_cons.mpr (.inl ?_)); rw [h]; omega
      · exact .inr (List.mem_cons_of_mem _ h)
    · rcases List.mem_cons.mp hy with rfl | hy
      · omega
      · exact h3 y hy
theorem maxL_mem {l : List Int} (h : l ≠ []) : maxL l ∈ l := by
  cases l with
  | nil => exact absurd rfl h
  | cons x xs =>
    rcases (foldl_max xs x).1 with e | e
    · rw [maxL, e]; exact List.mem_cons_self ..
    · exact List.mem_cons_of_mem _ e
theorem maxL_le {l : List Int} {y : Int} (h : y ∈ l) : y ≤ maxL l := by
  cases l with
  | nil => cases h
  | cons x xs =>
    rcases List.mem_cons.mp h with rfl | h
    · exact (foldl_max xs y).2.1
    · exact (foldl_max xs x).2.2 y h
theorem minL_mem {l : List Int} (h : l ≠ []) : minL l ∈ l := by
  cases l with
  | nil => exact absurd rfl h
  | cons x xs =>
    rcases (foldl_min xs x).1 with e | e
    · rw [minL, e]; exact List.mem_cons_self ..
    · exact List.mem_cons_of_mem _ e
theorem minL_le {l : List Int} {y : Int} (h : y ∈ l) : minL l ≤ y := by
  cases l with
  | nil => cases h
  | cons x xs =>
    rcases List.mem_cons.mp h with rfl | h
    · exact (foldl_min xs y).2.1
    · exact (foldl_min xs x).2.2 y h
theorem maxL_eq {l : List Int} {m : Int} (h : m ∈ l) (hl : ∀ y, y ∈ l → y ≤ m) : m = maxL l := by
  have h1 := maxL_le h
  have h2 := hl _ (maxL_mem (List.ne_nil_of_mem h))
  omega
abbrev Sp := Nat → Nat → Option Int
def SpB (st : Str) (rs : List (Int × Int)) (B : Sp) : Prop := ∀ p q : Nat, p < st.length → Bst st rs p q (B p q)
section
variable {f st : Str} {rs : List (Int × Int)} {B : Sp} {top : Int} {v u w : Nat → Int}
theorem SpB.eq {B' : Sp} (h : SpB st rs B) (h' : SpB st rs B') {p q : Nat} (hp : p < st.length) : B p q = B' p q := (h p q hp).eq (h' p q hp)
theorem SpB.own (hp : Pil f st rs) (h : SpB st rs B) {p : Nat} (hpn : p < st.length) : B p p = some 0 := by
  have hB := h p p hpn
  cases hu : B p p with
  | none => rw [hu] at hB; exact absurd (.nil _) (hB 0)
  | some s =>
    rw [hu] at hB
    obtain ⟨rk, hk⟩ := hp.acy
    rcases way_rank hk hB.1 with ⟨_, e⟩ | h
    · rw [e]
    · omega
theorem Way.cons {i j k c : Int} (hz : (i, j) ∈ rs) (h : Way st rs j k c) : Way st rs i k (chg st (i, j) + c) := by
  induction h with
  | nil =>
    have := Way.snoc (.nil (st := st) (rs := rs) i) hz
    rwa [Int.zero_add, ← Int.add_zero (chg st (i, j))] at this
  | @snoc x y c _ hz' ih =>
    have := Way.snoc ih hz'
    rwa [Int.add_assoc] at this
theorem SpB.snoc (h : SpB st rs B) {k i j : Nat} {s : Int} (hk : k < st.length) (hz : ((i : Int), (j : Int)) ∈ rs) (hs : B k i = some s) : ∃ s', B k j = some s' ∧ s + chg st ((i : Int), (j : Int)) ≤ s' := by
  have hB := h k i hk
  rw [hs] at hB
  have w2 := Way.snoc hB.1 hz
  have hB2 := h k j hk
  cases hu2 : B k j with
  | none => rw [hu2] at hB2; exact absurd w2 (hB2 _)
  | some s' => rw [hu2] at hB2; exact ⟨s', rfl, hB2.2 _ w2⟩
theorem SpB.cons (h : SpB st rs B) {k i j : Nat} {s : Int} (hi : i < st.length) (hj : j < st.length) (hz : ((i : Int), (j : Int)) ∈ rs) (hs : B j k = some s) : ∃ s', B i k = some s' ∧ chg st ((i : Int), (j : Int)) + s ≤ s' := by
  have hB := h j k hj
  rw [hs] at hB
  have w2 := Way.cons hz hB.1
  have hB2 := h i k hi
  cases hu2 : B i k with
  | none => rw [hu2] at hB2; exact absurd w2 (hB2 _)
  | some s' => rw [hu2] at hB2; exact ⟨s', rfl, hB2.2 _ w2⟩
theorem SpB.led (hp : Pil f st rs) (h : SpB st rs B) (W : Plan f st rs top w) {p q : Nat} {s : Int} (hpn : p < st.length) (hs : B p q = some s) : w p + s ≤ w q := by
  have hB := h p q hpn
  rw [hs] at hB
  have := way_step hp W hB.1
  simpa using this
theorem SpB.par (hp : Pil f st rs) (h : SpB st rs B) {p q : Nat} {s : Int} (hpn : p < st.length) (hs : B p q = some s) : (bsOf f st p + s - bsOf f st q) % 2 = 0 := by
  have hB := h p q hpn
  rw [hs] at hB
  have := way_par hp (p := (p : Int)) ⟨by omega, by omega⟩ hB.1
  simpa using this
theorem SpB.inn (hp : Pil f st rs) (h : SpB st rs B) {p q : Nat} {s : Int} (hpn : p < st.length) (hs : B p q = some s) : q < st.length ∧ 0 ≤ s ∧ s < st.length := by
  have hB := h p q hpn
  rw [hs] at hB
  have := way_lt hp (p := (p : Int)) ⟨by omega, by omega⟩ hB.1
  have hn := hB.1.nn
  omega
def ahd (g : Nat → Int) (S : List Nat) (B : Sp) (j : Nat) : List Int := S.filterMap fun k => (B k j).map fun s => g k + s
def bhd (g : Nat → Int) (S : List Nat) (B : Sp) (j : Nat) : List Int := S.filterMap fun k => (B j k).map fun s => g k - s
def upS (v g : Nat → Int) (S : List Nat) (B : Sp) (j : Nat) : Int := maxL (ahd g S B j ++ [v j])
def dnS (v g : Nat → Int) (S : List Nat) (B : Sp) (j : Nat) : Int := minL (bhd g S B j ++ [v j])
theorem mem_ahd {g : Nat → Int} {S : List Nat} {j : Nat} {x : Int} : x ∈ ahd g S B j ↔ ∃ k, k ∈ S ∧ ∃ s, B k j = some s ∧ x = g k + s := by
  unfold ahd
  rw [List.mem_filterMap]
  constructor
  · rintro ⟨k, hk, h⟩
    cases hs : B k j with
    | none => rw [hs] at h; cases h
    | some s => rw [hs] at h; exact ⟨k, hk, s, hs, (Option.some.inj h).symm⟩
  · rintro ⟨k, hk, s, hs, rfl⟩
    exact ⟨k, hk, by rw [hs]; rfl⟩
theorem mem_bhd {g : Nat → Int} {S : List Nat} {j : Nat} {x : Int} : x ∈ bhd g S B j ↔ ∃ k, k ∈ S ∧ ∃ s, B j k = some s ∧ x = g k - s := by
  unfold bhd
  rw [List.mem_filterMap]
  constructor
  · rintro ⟨k, hk, h⟩
    cases hs : B j k with
    | none => rw [hs] at h; cases h
    | some s => rw [hs] at h; exact ⟨k, hk, s, hs, (Option.some.inj h).symm⟩
  · rintro ⟨k, hk, s, hs, rfl⟩
    exact ⟨k, hk, by rw [hs]; rfl⟩
theorem upS_cases (v g : Nat → Int) (S : List Nat) (B : Sp) (j : Nat) : upS v g S B j = v j ∨ ∃ k, k ∈ S ∧ ∃ s, B k j = some s ∧ upS v g S B j = g k + s := by
  have h := maxL_mem (l := ahd g S B j ++ [v j]) (by simp)
  rcases List.mem_append.mp h with h | h
  · exact .inr (mem_ahd.mp h)
  · exact .inl (by unfold upS; simpa using h)
theorem upS_v {g : Nat → Int} {S : List Nat} {j : Nat} : v j ≤ upS v g S B j := maxL_le (by simp)
theorem upS_k {g : Nat → Int} {S : List Nat} {j k : Nat} {s : Int} (hk : k ∈ S) (hs : B k j = some s) : g k + s ≤ upS v g S B j := maxL_le (List.mem_append_left _ (mem_ahd.mpr ⟨k, hk, s, hs, rfl⟩))
theorem dnS_cases (v g : Nat → Int) (S : List Nat) (B : Sp) (j : Nat) : dnS v g S B j = v j ∨ ∃ k, k ∈ S ∧ ∃ s, B j k = some s ∧ dnS v g S B j = g k - s := by
  have h := minL_mem (l := bhd g S B j ++ [v j]) (by simp)
  rcases List.mem_append.mp h with h | h
  · exact .inr (mem_bhd.mp h)
  · exact .inl (by unfold dnS; simpa using h)
theorem dnS_v {g : Nat → Int} {S : List Nat} {j : Nat} : dnS v g S B j ≤ v j := minL_le (by simp)
theorem dnS_k {g : Nat → Int} {S : List Nat} {j k : Nat} {s : Int} (hk : k ∈ S) (hs : B j k = some s) : dnS v g S B j ≤ g k - s := minL_le (List.mem_append_left _ (mem_bhd.mpr ⟨k, hk, s, hs, rfl⟩))
theorem upS_least (hp : Pil f st rs) (h : SpB st rs B) {g : Nat → Int} {S : List Nat} (hS : ∀ k, k ∈ S → k < st.length) (W : Plan f st rs top w) (hv : ∀ j, j < st.length → v j ≤ w j) (hg : ∀ k, k ∈ S → g k ≤ w k) {j : Nat} (hj : j < st.length) : upS v g S B j ≤ w j := by
  rcases upS_cases v g S B j with e | ⟨k, hk, s, hs, e⟩
  · rw [e]; exact hv j hj
  · rw [e]
    have h1 := h.led hp W (hS k hk) hs
    have h2 := hg k hk
    omega
theorem dnS_most (hp : Pil f st rs) (h : SpB st rs B) {g : Nat → Int} {S : List Nat} (W : Plan f st rs top w) (hv : ∀ j, j < st.length → w j ≤ v j) (hg : ∀ k, k ∈ S → w k ≤ g k) {j : Nat} (hj : j < st.length) : w j ≤ dnS v g S B j := by
  rcases dnS_cases v g S B j with e | ⟨k, hk, s, hs, e⟩
  · rw [e]; exact hv j hj
  · rw [e]
    have h1 := h.led hp W hj hs
    have h2 := hg k hk
    omega
theorem upS_plan (hp : Pil f st rs) (h : SpB st rs B) {g : Nat → Int} {S : List Nat} (hS : ∀ k, k ∈ S → k < st.length) (V : Plan f st rs top v) (W : Plan f st rs top w) (hv : ∀ j, j < st.length → v j ≤ w j) (hg : ∀ k, k ∈ S → g k ≤ w k) (hpar : ∀ k, k ∈ S → (g k - bsOf f st k) % 2 = 0) : Plan f st rs top (upS v g S B) := by
  refine ⟨fun j hj => ?_, fun z hz => ?_⟩
  · obtain ⟨b1, b2, b3⟩ := V.blk j hj
    have h1 := upS_least hp h hS W hv hg hj
    have h2 := (W.blk j hj).2.1
    refine ⟨Int.le_trans b1 upS_v, by omega, ?_⟩
    rcases upS_cases v g S B j with e | ⟨k, hk, s, hs, e⟩
    · rw [e]; exact b3
    · rw [e]
      have h1 := h.par hp (hS k hk) hs
      have h2 := hpar k hk
      omega
  · obtain ⟨a, b, c, d, _⟩ := hp.rul.inn z hz
    obtain ⟨zi, zj⟩ := z
    obtain ⟨i, hi⟩ := Int.eq_ofNat_of_zero_le a
    obtain ⟨j, hj⟩ := Int.eq_ofNat_of_zero_le c
    simp only at hi hj
    subst hi hj
    simp only [Int.toNat_natCast]
    rcases upS_cases v g S B i with e | ⟨k, hk, s, hs, e⟩
    · rw [e]
      have := V.led _ hz
      simp only [Int.toNat_natCast] at this
      exact Int.le_trans this upS_v
    · rw [e]
      obtain ⟨s', hs', hle⟩ := h.snoc (hS k hk) hz hs
      have := upS_k (v := v) hk hs' (g := g)
      have := chg01 st ((i : Int), (j : Int))
      omega
theorem dnS_plan (hp : Pil f st rs) (h : SpB st rs B) {g : Nat → Int} {S : List Nat} (V : Plan f st rs top v) (W : Plan f st rs top w) (hv : ∀ j, j < st.length → w j ≤ v j) (hg : ∀ k, k ∈ S → w k ≤ g k) (hpar : ∀ k, k ∈ S → (g k - bsOf f st k) % 2 = 0) : Plan f st rs top (dnS v g S B) := by
  refine ⟨fun j hj => ?_, fun z hz => ?_⟩
  · obtain ⟨b1, b2, b3⟩ := V.blk j hj
    have h1 := dnS_most hp h W hv hg hj
    have h2 := (W.blk j hj).1
    refine ⟨by omega, Int.le_trans dnS_v b2, ?_⟩
    rcases dnS_cases v g S B j with e | ⟨k, hk, s, hs, e⟩
    · rw [e]; exact b3
    · rw [e]
      have h1 := h.par hp hj hs
      have h2 := hpar k hk
      omega
  · obtain ⟨a, b, c, d, _⟩ := hp.rul.inn z hz
    obtain ⟨zi, zj⟩ := z
    obtain ⟨i, hi⟩ := Int.eq_ofNat_of_zero_le a
    obtain ⟨j, hj⟩ := Int.eq_ofNat_of_zero_le c
    simp only at hi hj b d
    subst hi hj
    simp only [Int.toNat_natCast]
    rcases dnS_cases v g S B j with e | ⟨k, hk, s, hs, e⟩
    · rw [e]
      have := V.led _ hz
      simp only [Int.toNat_natCast] at this
      exact Int.le_trans dnS_v this
    · rw [e]
      obtain ⟨s', hs', hle⟩ := h.cons (by omega) (by omega) hz hs
      have := dnS_k (v := v) hk hs' (g := g)
      have := chg01 st ((i : Int), (j : Int))
      omega
end
end ST
end L3
namespace L3
namespace ST
open PySem PySem.Spec PyProof.Rows L2
open T0
def fB (L : List (Int × Int)) (F : Int × Int → Int) : Sp := fun p q => if ((p : Int), (q : Int)) ∈ L then some (F ((p : Int), (q : Int))) else none
theorem FarD.spB {st : Str} {rs L : List (Int × Int)} {F : Int × Int → Int} (h : FarD st rs L F) : SpB st rs (fB L F) := fun p q hp => h.bst p q (by omega) (by omega)
def P_Lw_plan : PV := fun ds C Q => ∃ (o : Bool) (f st : Str) (rs : List (Int × Int)) (top c : Int) (x : Cell), ds = [.ptr 0, pil o f st rs, .int top] ∧ C = [x] ∧ Jar c x ∧ c < 10 ^ 5 ∧ Pil f st rs ∧ Most f st rs top ∧ ∀ w c' y, Plan f st rs top w → Jar c' y → c' ≤ c + 72 → Q (.lst false (wL st.length w)) [y]
theorem max_all {v g : Nat → Int} {n : Nat} {B : Sp} {j : Nat} {m : Int} (hj : j < n) (hB : B j j = some 0) (hg : v j ≤ g j) (h : m ∈ ahd g (List.range n) B j) (hl : ∀ y, y ∈ ahd g (List.range n) B j → y ≤ m) : m = upS v g (List.range n) B j := by
  refine maxL_eq (List.mem_append_left _ h) fun y hy => ?_
  rcases List.mem_append.mp hy with hy | hy
  · exact hl y hy
  · have h1 := hl (g j + 0) (mem_ahd.mpr ⟨j, by simpa using hj, 0, hB, rfl⟩)
    obtain rfl : y = v j := by simpa using hy
    omega
theorem ahd_eq {g : Nat → Int} {n : Nat} {L : List (Int × Int)} {F : Int × Int → Int} {j : Nat} : (((List.range n).filter fun k : Nat => decide (((k : Int), (j : Int)) ∈ L)).map fun k : Nat => D.int (g k + F ((k : Int), (j : Int)))) = (ahd g (List.range n) (fB L F) j).map .int := by
  unfold ahd
  generalize List.range n = l
  induction l with
  | nil => rfl
  | cons k l ih =>
    by_cases h : ((k : Int), (j : Int)) ∈ L
    · have e : fB L F k j = some (F ((k : Int), (j : Int))) := by unfold fB; rw [if_pos h]
      rw [List.filter_cons, if_pos (by simp [h]), List.filterMap_cons, e]
      simp only [List.map_cons, Option.map_some, ih]
    · have e : fB L F k j = none := by unfold fB; rw [if_neg h]
      rw [List.filter_cons, if_neg (by simp [h]), List.filterMap_cons, e]
      exact ih
theorem np_dtF {L : List (Int × Int)} {F : Int × Int → Int} : (noold (.dt false (L.map kP) (L.map (fD F))) && noptr (.dt false (L.map kP) (L.map (fD F)))) = true := by
  have f : flatDs (L.map (fD F)) = true := by
    induction L with
    | nil => rfl
    | cons z L ih => simp only [List.map_cons, flatDs, ih, Bool.and_true]; rfl
  have := flats_np f
  simp only [noold, okW, noptr, this.1, this.2]
  rfl
theorem late_ge {f st : Str} {rs : List (Int × Int)} {top : Int} {v u : Nat → Int} (hp : Pil f st rs) (ht : Most f st rs top) (V : PFix f st rs v) (U : OFix st rs u) {j : Nat} (hj : j < st.length) : v j ≤ late top v u j ∧ (late top v u j - v j) % 2 = 0 ∧ late top v u j ≤ top ∧ 0 ≤ v j := by
  obtain ⟨m, M⟩ := wMax hp.pos v
  have hm := ht.2 v m V M
  have h1 := vu_top hp V U M j hj
  have h2 := ofix_nn U hj
  have h3 := (v_bound hp V hj).1
  unfold late
  omega
theorem v_Lw_plan (ds : List D) (C : Store) (Q3 : D → Store → Prop) (h : P_Lw_plan ds C Q3) (hC : C.length = 1) : T_Lw_plan P_Lw_far P_Lw_high P_Lw_low P_Lw_dip (enF 1 Q3) (start3 N_Lw_plan ds) C := by
  obtain ⟨o, f, st, rs, top, c, x, rfl, rfl, hx, hc, hp, ht, q⟩ := h
  have hz := sizeL
  have h24 := hp.top
  have ht30 := ht.1
  unfold T_Lw_plan
  rw [u_sSeq, u_sAsg]
  refine ⟨_, rfl, true, f, st, rs, by rw [views_pil, views_nil], hp, fun v V => ⟨np_wL, ?_⟩⟩
  refine ⟨_, rfl, _, rfl, true, f, st, rs, top, by rw [views_pil, views_int, views_nil], hp, fun v' u V' U => ⟨np_wL, ?_⟩⟩
  refine ⟨_, rfl, true, f, st, rs, by rw [views_pil, views_nil], hp, fun L F hF => ⟨np_dtF, le5 _ (by simp), ?_⟩⟩
  have eL : wL st.length (late top v' u) = wL st.length (late top v u) := wL_congr fun j hj => late_congr hp V' U V U j hj
  rw [eL]
  refine ⟨_, rfl, rfl, _, _, rfl, _, _, rfl, _, _, rfl, rfl, ?_⟩
  try dsimp only
  rw [u_sSeq]
  refine ⟨Nat.zero_le _, ?_⟩
  try dsimp only
  rw [u_gvName, u_sSeq]
  have npw : ∀ w, noptrs (wL st.length w) = true := fun w => by rw [wL_ints]; exact noptrs_ints _
  refine ⟨_, rfl, _, rfl, _, _, _, _, rfl, rfl, rfl, by rw [npw, npw]; rfl, rfl, ?_⟩
  rw [show zipD (wL st.length v) (wL st.length (late top v u)) = (List.range st.length).map fun j => .tup [.int (v j), .int (late top v u j)] from zip_wL _ v _]
  refine ⟨noptrs_map _ fun _ _ => rfl, ?_⟩
  have hLL := fun j hj => late_ge hp ht V U (j := j) hj
  refine forW_run (fun ds Γ C => ∃ (k : Nat) (gs : List Int) (c' : Int) (y : Cell), k ≤ st.length ∧ ds = ((List.range st.length).drop k).map (fun j => D.tup [.int (v j), .int (late top v u j)]) ∧ gs.length = k ∧ C = [y, .lst (gs.map .int)] ∧ Jar c' y ∧ c' = c + 3 * k ∧
    (∀ i (h : i < gs.length), v i ≤ gs[i] ∧ gs[i] ≤ late top v u i ∧ (gs[i] - v i) % 2 = 0) ∧ ∃ a b d e, Γ = [some (.ptr 0), some (pil o f st rs), some (.int top), some (.lst false (wL st.length v)), some (.lst false (wL st.length (late top v u))), some (.dt false (L.map kP) (L.map (fD F))), some (.ptr 1), a, b, d, e, none, none, none]) ?step ?stop _ _ _ ⟨0, [], c, x, by omega, rfl, rfl, rfl, hx, by omega, fun i h => by simp at h, _, _, _, _, rfl⟩
  case step =>
    rintro d ds Γ C ⟨k, gs, c', y, hk, eds, hgl, rfl, hy, hcc, hgs, a, b, d', e, rfl⟩ R hR
    have hkn : k < st.length := by
      by_cases h : k < st.length
      · exact h
      · rw [List.drop_eq_nil_of_le (by simp; omega)] at eds
        cases eds
    rw [List.drop_eq_getElem_cons (by simpa using hkn)] at eds
    simp only [List.getElem_range, List.map_cons, List.cons.injEq] at eds
    obtain ⟨rfl, rfl⟩ := eds
    obtain ⟨l1, l2, l3, l4⟩ := hLL k hkn
    refine ⟨_, rfl, rfl, _, _, rfl, _, _, rfl, rfl, ?_⟩
    try dsimp only
    rw [u_sSeq]
    refine ⟨_, rfl, _, rfl, _, _, rfl, rfl, _, _, rfl, rfl, cdiv_of (by decide) (by decide), ?_⟩
    dsimp only
    generalize ew : (late top v u k - v k) / 2 = wd
    have w0 : 0 ≤ wd ∧ v k + 2 * wd ≤ late top v u k := by omega
    rw [u_gvName, u_sSeq, u_sAsg, u_eFrz, u_fLst, u_aCons, u_eC, u_aCons]
    refine pull_e (k := 0) (m := wd + 1) rfl hy rfl (fun R h => ⟨_, rfl, _, _, rfl, rfl, h⟩) (by omega) (by omega) (by omega) fun r1 y1 a10 a11 hy1 => ?_
    show aCons _ _ _ _ _
    rw [u_aCons, u_eCB, u_aCons]
    refine ⟨_, rfl, ?_⟩
    show aCons _ _ _ _ _
    rw [u_aCons]
    refine pull_e (k := 0) (m := 3) rfl hy1 rfl (fun R h => h) (by decide) (by decide) (by omega) fun r2 y2 a20 a21 hy2 => ?_
    refine ⟨_, _, rfl, le5 _ (by simp), ?_⟩
    try dsimp only
    rw [u_gvName]
    refine ⟨_, rfl, _, rfl, _, rfl, _, rfl, ?_⟩
    show eCallK _ _ _ _ _ _ _
    refine pull_e (k := 0) (m := 3) rfl hy2 rfl (fun R h => h) (by decide) (by decide) (by omega) fun r3 y3 a30 a31 hy3 => ?_
    obtain ⟨z, hz1, hz2, hz3⟩ : ∃ z : Int, atI [D.int 0, D.int r1, D.int (min wd r2)] r3 = some (.int z) ∧ 0 ≤ z ∧ z ≤ wd := by
      have : r3 = 0 ∨ r3 = 1 ∨ r3 = 2 := by omega
      rcases this with rfl | rfl | rfl
      · exact ⟨0, rfl, by omega, by omega⟩
      · exact ⟨r1, rfl, by omega, by omega⟩
      · exact ⟨_, rfl, by omega, by omega⟩
    refine ⟨_, _, _, rfl, rfl, hz1, _, _, rfl, rfl, cmul_of (a := 10) (b := 120) (by decide) (by omega) (by decide) (by decide) (by decide), _, _, rfl, rfl, 1, _, _, rfl, rfl, rfl, by rw [List.length_map]; omega, ?_⟩
    refine hR _ _ ⟨k + 1, gs ++ [v k + 2 * z], c' + 1 + 1 + 1, y3, by omega, rfl, by simp [hgl], by simp, hy3, by omega, fun i hi => ?_, _, _, _, _, rfl⟩
    by_cases e : i < gs.length
    · rw [List.getElem_append_left e]
      exact hgs i e
    · have : i = gs.length := by
        simp only [List.length_append, List.length_cons, List.length_nil] at hi
        omega
      subst this
      rw [List.getElem_append_right (Nat.le_refl _)]
      simp only [Nat.sub_self, List.getElem_cons_zero]
      rw [hgl]
      omega
  case stop =>
    rintro Γ C ⟨k, gs, c', y, hk, eds, hgl, rfl, hy, hcc, hgs, a, b, d', e, rfl⟩
    have ek : k = st.length := by
      have := congrArg List.length eds
      simp at this
      omega
    subst ek
    let g : Nat → Int := fun j => gs.getD j 0
    have hg : ∀ j, j < st.length → v j ≤ g j ∧ g j ≤ late top v u j ∧ (g j - v j) % 2 = 0 := fun j hj => by
      have := hgs j (by omega)
      have e : g j = gs[j] := by
        show gs.getD j 0 = _
        rw [List.getD_eq_getElem?_getD, List.getElem?_eq_getElem (by omega)]
        rfl
      rw [e]
      exact this
    have egs : gs.map D.int = wL st.length g := ints_wL hgl
    rw [egs]
    try dsimp only
    rw [u_sSeq]
    refine ⟨_, rfl, _, _, rfl, rfl, (st.length : Nat), by rw [wL_len], by omega, by omega, ?_⟩
    rw [PN.rgI_range]
    try dsimp only
    rw [u_gvName, u_sRet]
    obtain ⟨m0, M⟩ := wMax hp.pos v
    have PV := plan_v hp V M (ht.2 v m0 V M)
    have PL := plan_late hp V U M (ht.2 v m0 V M)
    have hB := hF.spB
    have PW : Plan f st rs top (upS v g (List.range st.length) (fB L F)) := upS_plan hp hB (fun k hk => by simpa using hk) PV PL (fun j hj => (hLL j hj).1) (fun k hk => (hg k (by simpa using hk)).2.1) fun k hk => by
      have hk : k < st.length := by simpa using hk
      have h1 := (PV.blk k hk).2.2
      have h2 := (hg k hk).2.2
      omega
    refine ⟨_, rfl, _, rfl, ?_⟩
    refine PN.lc_of (List.range st.length) _ (fun j => .int (upS v g (List.range st.length) (fB L F) j)) (fun _ h => by simp [srcOf] at h) (by simp; omega) (fun j hj R1 hR => ?_) ?_
    · have hj : j < st.length := by simpa using hj
      rw [u_gvName]
      refine ⟨_, rfl, _, rfl, ?_⟩
      refine PN.lc_ofF (List.range st.length) _ (fun k => .int (g k + F ((k : Int), (j : Int)))) (fun k : Nat => decide (((k : Int), (j : Int)) ∈ L)) (fun _ h => by simp [srcOf] at h) (by simp; omega) (fun k hk R1 R2 h1 h2 => ?_) ?_
      · have hk : k < st.length := by simpa using hk
        rw [u_gvName]
        refine ⟨_, rfl, _, rfl, le5 _ (by simp), _, rfl, L.map kP, L.map (fD F), kP ((k : Int), (j : Int)), rfl, rfl, _, rfl, ?_⟩
        rw [tAt_far]
        by_cases hm : ((k : Int), (j : Int)) ∈ L
        · refine goT (by simp [hm]) ?_
          refine ⟨_, rfl, _, rfl, _, _, _, rfl, rfl, wL_at hk, _, rfl, _, rfl, _, rfl, le5 _ (by simp), L.map kP, L.map (fD F), kP ((k : Int), (j : Int)), .int (F ((k : Int), (j : Int))), rfl, rfl, by rw [tAt_far, if_pos hm], _, _, rfl, rfl, h1 (by simp [hm])⟩
        · exact goF (by simp [hm]) (h2 (by simp [hm]))
      · rw [ahd_eq]
        have own := hB.own hp hj
        have hne : ahd g (List.range st.length) (fB L F) j ≠ [] := List.ne_nil_of_mem (mem_ahd.mpr ⟨j, by simpa using hj, 0, own, rfl⟩)
        refine ⟨_, _, rfl, rfl, List.length_pos_iff.mpr hne, fun m h1 h2 => ?_⟩
        rw [max_all hj own (hg j hj).1 h1 h2]
        exact hR
    · obtain ⟨ja, jb, jk, rfl, hj⟩ := hy
      show Q3 (fin 1 _ (.lst false (wL st.length (upS v g (List.range st.length) (fB L F))))) [Cell.lst [.int ja, .int jb, .int jk]]
      have ef : ∀ C : Store, fin 1 C (.lst false (wL st.length (upS v g (List.range st.length) (fB L F)))) = .lst false (wL st.length (upS v g (List.range st.length) (fB L F))) := fun C => by rw [wL_ints, fin_ints]
      rw [ef]
      exact q _ c' _ PW ⟨ja, jb, jk, rfl, hj⟩ (by omega)
end ST
end L3
namespace L3
namespace ST
open PySem PySem.Spec PyProof.Rows L2
open T0
abbrev iK (k : Nat) : Key := .inl (k : Int)
def tB (o : Bool) (ks : List Nat) (b : Nat → Int) : D := .dk o (ks.map iK) (ks.map fun k => .int (b k))
structure Told (n : Nat) (ks : List Nat) (b : Nat → Int) : Prop where
  nd : ks.Nodup
  lt : ∀ k, k ∈ ks → k < n
  bd : ∀ k, k ∈ ks → 0 ≤ b k ∧ b k ≤ 10 ^ 30
theorem Told.len {n : Nat} {ks : List Nat} {b : Nat → Int} (h : Told n ks b) : ks.length ≤ n := by
  have := nodup_len n (ks.map fun k : Nat => (k : Int)) (List.pairwise_map.mpr (h.nd.imp fun h e => h (by omega))) fun x hx => by
    obtain ⟨k, hk, rfl⟩ := List.mem_map.mp hx
    have := h.lt k hk
    omega
  simpa using this
theorem hasK_iK {k : Nat} {ks : List Nat} : hasK (iK k) (ks.map iK) = decide (k ∈ ks) := by
  unfold hasK
  rw [List.any_map]
  induction ks with
  | nil => rfl
  | cons q ks ih =>
    rw [List.any_cons, ih]
    by_cases e : q = k
    · subst e; simp
    · have e2 : ¬ iK q = iK k := fun h => e (by have := Sum.inl.inj h; omega)
      have e3 : ¬ k = q := fun h => e h.symm
      simp [e2, e3]
theorem dAt_iK {b : Nat → Int} {k : Nat} : ∀ {ks : List Nat}, dAt (iK k) (ks.map iK) (ks.map fun k => D.int (b k)) = if k ∈ ks then some (.int (b k)) else none
  | [] => rfl
  | q :: ks => by
    simp only [List.map_cons, dAt, dAt_iK (ks := ks)]
    by_cases e : q = k
    · subst e; simp
    · have e2 : ¬ iK q = iK k := fun h => e (by have := Sum.inl.inj h; omega)
      have e3 : ¬ k = q := fun h => e h.symm
      rw [if_neg e2]
      simp [e3]
theorem views_tB {C : Store} {o : Bool} {ks : List Nat} {b : Nat → Int} {ds : List D} : views [] C (tB o ks b :: ds) = tB true ks b :: views [] C ds := by
  unfold views tB
  have f : flatDs (ks.map fun k => D.int (b k)) = true := by
    induction ks with
    | nil => rfl
    | cons z L ih => simp only [List.map_cons, flatDs, ih, Bool.and_true]; rfl
  simp only [mapWs, mapW, mapWs_flat f]
theorem np_tB {ks : List Nat} {b : Nat → Int} : (noold (tB false ks b) && noptr (tB false ks b)) = true := by
  have f : flatDs (ks.map fun k => D.int (b k)) = true := by
    induction ks with
    | nil => rfl
    | cons z L ih => simp only [List.map_cons, flatDs, ih, Bool.and_true]; rfl
  have := flats_np f
  simp only [tB, noold, okW, noptr, this.1, this.2]
  rfl
def P_Lw_told : PV := fun ds C Q => ∃ (o : Bool) (n : Nat) (w : Nat → Int) (top c : Int) (x : Cell), ds = [.ptr 0, .lst o (wL n w), .int top] ∧ C = [x] ∧ Jar c x ∧ c < 10 ^ 5 ∧ n ≤ 24 ∧ 0 ≤ top ∧ top ≤ 10 ^ 30 ∧ (∀ j, j < n → 0 ≤ w j ∧ w j ≤ 10 ^ 30) ∧
  ∀ ks b c' y, Told n ks b → Jar c' y → c' ≤ c + 96 → Q (tB false ks b) [y]
theorem v_Lw_told (ds : List D) (C : Store) (Q3 : D → Store → Prop) (h : P_Lw_told ds C Q3) (hC : C.length = 1) : T_Lw_told P_Lw_dip (enF 1 Q3) (start3 N_Lw_told ds) C := by
  obtain ⟨o, n, w, top, c, x, rfl, rfl, hx, hc, h24, h0, h30, hw, q⟩ := h
  have hz := sizeL
  unfold T_Lw_told
  rw [u_sSeq, u_sAsg]
  have e0 : ∀ (Γ : Slots) (C : Store) (Q : D → Store → Prop), eCell fDk0 Γ C Q = Q (.ptr C.length) (C ++ [.dk [] []]) := fun _ _ _ => rfl
  rw [e0]
  try dsimp only
  rw [u_gvName, u_sSeq]
  refine ⟨_, rfl, _, _, rfl, rfl, (n : Nat), by rw [wL_len], by omega, by omega, rfl, np_rg' 0 _, ?_⟩
  refine forW_run (fun ds Γ C => ∃ (k : Nat) (ks : List Nat) (b : Nat → Int) (c' : Int) (y : Cell), k ≤ n ∧ ds = ((List.range n).drop k).map (fun j : Nat => D.int (j : Nat)) ∧ C = [y, .dk (ks.map iK) (ks.map fun k => .int (b k))] ∧ Jar c' y ∧ c' = c + 4 * k ∧ Told k ks b ∧
    ∃ a d e, Γ = [some (.ptr 0), some (.lst o (wL n w)), some (.int top), some (.ptr 1), a, d, e]) ?step ?stop _ _ _ ⟨0, [], fun _ => 0, c, x, by omega, PN.rgI_range (n := n), rfl, hx, by omega, ⟨List.nodup_nil, (fun k hk => by cases hk), (fun k hk => by cases hk)⟩, _, _, _, rfl⟩
  case step =>
    rintro d ds Γ C ⟨k, ks, b, c', y, hk, eds, rfl, hy, hcc, hT, a, d', e, rfl⟩ R hR
    obtain ⟨hkn, rfl, rfl⟩ := PN.rg_drop eds
    obtain ⟨w0, w1⟩ := hw k hkn
    rw [u_gvName]
    try dsimp only
    rw [u_sSeq, u_sAsg, u_eCB, u_aCons]
    refine ⟨_, _, rfl, rfl, cpow10 30 (by decide), ?_⟩
    show aCons _ _ _ _ _
    rw [u_aCons, u_eCB, u_aCons, u_eC, u_aCons]
    refine ⟨_, rfl, _, rfl, _, _, _, rfl, rfl, wL_at hkn, ?_⟩
    show eBin _ _ _ _ _ _
    rw [u_eBin, u_eC]
    refine pull_e (k := 0) (m := 3) rfl hy rfl (fun R h => h) (by decide) (by decide) (by omega) fun r1 y1 a10 a11 hy1 => ?_
    refine ⟨_, _, rfl, rfl, cmul_of (a := 10) (b := 10) (by decide) (by omega) (by decide) (by decide) (by decide), _, _, rfl, rfl, _, _, rfl, rfl, _, _, rfl, _, _, rfl, ?_⟩
    have e30 : (10 : Int) ^ (30 : Int).toNat = 10 ^ 30 := by decide
    dsimp only
    rw [e30]
    generalize eb : min (10 ^ 30) (max 0 (w k + 2 * r1 - 2)) = bs
    have b0 : 0 ≤ bs ∧ bs ≤ 10 ^ 30 := by omega
    rw [u_gvName, u_sSeq, u_sAsg, u_eBin, u_eFrz, u_fLst, u_aCons]
    refine ⟨_, rfl, _, rfl, _, _, _, rfl, rfl, wL_at hkn, _, rfl, _, rfl, _, _, _, rfl, rfl, wL_at hkn, _, rfl, ?_⟩
    show aCons _ _ _ _ _
    rw [u_aCons, u_eCB, u_aCons]
    refine ⟨_, _, rfl, rfl, cpow10 30 (by decide), ?_⟩
    show aCons _ _ _ _ _
    rw [u_aCons]
    refine pull_e (k := 0) (m := top + 3) rfl hy1 rfl (fun R h => ⟨_, rfl, _, _, rfl, rfl, h⟩) (by omega) (by omega) (by omega) fun r2 y2 a20 a21 hy2 => ?_
    refine ⟨_, _, rfl, le5 _ (by simp), ?_⟩
    dsimp only
    rw [e30]
    show eCallK _ _ _ _ _ _ _
    refine pull_e (k := 0) (m := 4) rfl hy2 rfl (fun R h => h) (by decide) (by decide) (by omega) fun r3 y3 a30 a31 hy3 => ?_
    obtain ⟨z, hz1, hz2, hz3⟩ : ∃ z : Int, atI [D.int (w k), D.int (w k), D.int bs, D.int (min (10 ^ 30) r2)] r3 = some (.int z) ∧ 0 ≤ z ∧ z ≤ 10 ^ 30 := by
      have : r3 = 0 ∨ r3 = 1 ∨ r3 = 2 ∨ r3 = 3 := by omega
      rcases this with rfl | rfl | rfl | rfl
      · exact ⟨_, rfl, by omega, by omega⟩
      · exact ⟨_, rfl, by omega, by omega⟩
      · exact ⟨_, rfl, by omega, by omega⟩
      · exact ⟨_, rfl, by omega, by omega⟩
    refine ⟨_, _, _, rfl, rfl, hz1, ?_⟩
    try dsimp only
    rw [u_gvName, u_sIf]
    rw [u_bB, u_eBin]
    refine pull_e (k := 0) (m := 3) rfl hy3 rfl (fun R h => h) (by decide) (by decide) (by omega) fun r4 y4 a40 a41 hy4 => ?_
    have hT1 : Told (k + 1) ks b := ⟨hT.nd, fun j hj => by have := hT.lt j hj; omega, hT.bd⟩
    have hkk : k ∉ ks := fun h => by have := hT.lt k h; omega
    have hln := hT.len
    refine ⟨_, _, rfl, rfl, _, rfl, ?_⟩
    by_cases h4 : r4 > 0
    · refine goT (by simp [h4]) ?_
      refine ⟨_, rfl, _, rfl, _, rfl, 1, ks.map iK, ks.map fun k => .int (b k), iK k, rfl, rfl, rfl, by rw [List.length_map]; omega, ?_⟩
      have e1 : kPut (iK k) (ks.map iK) = (ks ++ [k]).map iK := by
        unfold kPut
        rw [hasK_iK, if_neg (by simp [hkk]), List.map_append]
        rfl
      have e2 : xPut (iK k) (.int z) (ks.map iK) (ks.map fun k => .int (b k)) = (ks ++ [k]).map fun j => .int (if j = k then z else b j) := by
        unfold xPut
        rw [hasK_iK, if_neg (by simp [hkk]), List.map_append]
        congr 1
        · refine List.map_congr_left fun j hj => ?_
          have hjk : j ≠ k := fun e => hkk (e ▸ hj)
          rw [if_neg hjk]
        · simp
      rw [e1, e2]
      refine hR _ _ ⟨k + 1, ks ++ [k], fun j => if j = k then z else b j, c' + 1 + 1 + 1 + 1, y4, by omega, rfl, rfl, hy4, by omega, ⟨?_, fun j hj => ?_, fun j hj => ?_⟩, _, _, _, rfl⟩
      · refine List.nodup_append.mpr ⟨hT.nd, by simp, fun a ha b hb e => ?_⟩
        obtain rfl : b = k := by simpa using hb
        exact hkk (e ▸ ha)
      · rcases List.mem_append.mp hj with h | h
        · have := hT.lt j h; omega
        · obtain rfl : j = k := by simpa using h
          omega
      · by_cases ejk : j = k
        · simp only [ejk, if_true]
          exact ⟨hz2, hz3⟩
        · simp only [ejk, if_false]
          rcases List.mem_append.mp hj with h | h
          · exact hT.bd j h
          · exact absurd (by simpa using h) ejk
    · refine goF (by simp [h4]) ?_
      rw [u_sNext]
      exact hR _ _ ⟨k + 1, ks, b, c' + 1 + 1 + 1 + 1, y4, by omega, rfl, rfl, hy4, by omega, hT1, _, _, _, rfl⟩
  case stop =>
    rintro Γ C ⟨k, ks, b, c', y, hk, eds, rfl, hy, hcc, hT, a, d', e, rfl⟩
    have ek : k = n := by
      have := congrArg List.length eds
      simp at this
      omega
    subst ek
    refine ⟨_, rfl, ?_⟩
    obtain ⟨ja, jb, jk, rfl, hj⟩ := hy
    have ef : fin 1 [Cell.lst [.int ja, .int jb, .int jk], .dk (ks.map iK) (ks.map fun k => .int (b k))] (.ptr 1) = tB false ks b := by
      have f : flatDs (ks.map fun k => D.int (b k)) = true := by
        clear hT
        induction ks with
        | nil => rfl
        | cons z L ih => simp only [List.map_cons, flatDs, ih, Bool.and_true]; rfl
      unfold fin tB
      simp only [mapW, finG]
      rw [if_neg (by decide)]
      show D.dk _ _ (mapWs _ _ _) = _
      rw [mapWs_flat f]
    show Q3 (fin 1 [Cell.lst [.int ja, .int jb, .int jk], .dk (ks.map iK) (ks.map fun k => .int (b k))] (.ptr 1)) [Cell.lst [.int ja, .int jb, .int jk]]
    rw [ef]
    exact q ks b c' _ hT ⟨ja, jb, jk, rfl, hj⟩ (by omega)
end ST
end L3
namespace L3
namespace ST
open PySem PySem.Spec PyProof.Rows L2
open T0
theorem ints_uniq : ∀ {a b : List Int}, a.Perm b → a.Pairwise (· ≤ ·) → b.Pairwise (· ≤ ·) → a = b
  | [], b, h, _, _ => h.nil_eq
  | x :: a, [], h, _, _ => absurd h.length_eq (by simp)
  | x :: a, y :: b, h, ha, hb => by
    rw [List.pairwise_cons] at ha hb
    have h1 : y ≤ x := by
      rcases List.mem_cons.mp (h.subset (List.mem_cons_self ..)) with e | e
      · omega
      · exact hb.1 x e
    have h2 : x ≤ y := by
      rcases List.mem_cons.mp (h.symm.subset (List.mem_cons_self ..)) with e | e
      · omega
      · exact ha.1 y e
    obtain rfl : x = y := by omega
    rw [ints_uniq (h.cons_inv) ha.2 hb.2]
def srtK (n : Nat) (ks : List Nat) : List Nat := (List.range n).filter fun k => decide (k ∈ ks)
theorem srtK_mem {n : Nat} {ks : List Nat} {b : Nat → Int} (h : Told n ks b) {k : Nat} : k ∈ srtK n ks ↔ k ∈ ks := by
  unfold srtK
  simp only [List.mem_filter, List.mem_range, decide_eq_true_eq]
  exact ⟨fun h => h.2, fun hk => ⟨h.lt k hk, hk⟩⟩
theorem srtK_srt (n : Nat) (ks : List Nat) : (srtK n ks).Pairwise (· < ·) := List.Pairwise.filter _ List.pairwise_lt_range
theorem srtK_perm {n : Nat} {ks : List Nat} {b : Nat → Int} (h : Told n ks b) : (srtK n ks).Perm ks :=
  (List.perm_ext_iff_of_nodup ((srtK_srt n ks).imp fun h => by omega) h.nd).mpr fun k => srtK_mem h
abbrev nD (k : Nat) : D := .int (k : Int)
theorem sort_e {n i : Nat} {o : Bool} {ks : List Nat} {b : Nat → Int} {Γ : Slots} {C : Store} {Q : Cell → Store → Prop} (hi : Γ[i]? = some (some (tB o ks b))) (hT : Told n ks b) (h24 : n ≤ 24) (q : Q (.lst ((srtK n ks).map nD)) C) : fCB nSortDI (aCons (eVar i) aNil) Γ C Q := by
  have hl := hT.len
  refine ⟨_, hi, tB o ks b, ks.map fun k : Nat => (k : Int), ks.map fun k => .int (b k), rfl, ?_, by rw [List.length_map]; omega, fun qs hp hs => ?_⟩
  · show some (ks.map iK, _) = _
    rw [List.map_map]
    rfl
  · have e : qs = (srtK n ks).map fun k : Nat => (k : Int) := ints_uniq (hp.trans ((srtK_perm hT).map _).symm) hs (List.pairwise_map.mpr ((srtK_srt n ks).imp fun h => by omega))
    rw [e, List.map_map]
    exact q
theorem np_nD (l : List Nat) : noptrs (l.map nD) = true := noptrs_map _ fun _ _ => rfl
def aloneB (low high b : Nat → Int) (p : Nat) : Bool := !(decide (low p ≤ b p) && decide (b p ≤ high p)) || decide ((b p - low p) % 2 = 1)
def bothB (B : Sp) (b : Nat → Int) (z : Nat × Nat) : Bool := match B z.1 z.2 with
  | some s => decide (b z.2 - b z.1 < s)
  | none => false
def prs (qs : List Nat) : List (Nat × Nat) := qs.flatMap fun p => qs.map fun q => (p, q)
def barD (low high : Nat → Int) (B : Sp) (b : Nat → Int) (qs : List Nat) : D := match qs.find? (aloneB low high b) with
  | some p => .tup [.str "alone", nD p]
  | none => match (prs qs).find? (bothB B b) with
    | some z => .tup [.str "both", nD z.1, nD z.2]
    | none => .non
theorem find_hit {α : Type} {f : α → Bool} {P : List α} {x : α} {R : List α} (hP : ∀ y, y ∈ P → f y = false) (hx : f x = true) : (P ++ x :: R).find? f = some x := by
  induction P with
  | nil => simp [hx]
  | cons y P ih =>
    have h1 := hP y (List.mem_cons_self ..)
    simp only [List.cons_append, List.find?_cons, h1]
    exact ih fun z hz => hP z (List.mem_cons_of_mem _ hz)
theorem find_no {α : Type} {f : α → Bool} {P : List α} (hP : ∀ y, y ∈ P → f y = false) : P.find? f = none := List.find?_eq_none.mpr fun x hx => by rw [hP x hx]; simp
theorem barD_alone {low high b : Nat → Int} {B : Sp} {P R : List Nat} {p : Nat} (hP : ∀ y, y ∈ P → aloneB low high b y = false) (hx : aloneB low high b p = true) : barD low high B b (P ++ p :: R) = .tup [.str "alone", nD p] := by
  unfold barD
  rw [find_hit hP hx]
theorem barD_both {low high b : Nat → Int} {B : Sp} {qs dn rest dn2 rest2 : List Nat} {p q : Nat} (hA : ∀ y, y ∈ qs → aloneB low high b y = false) (e1 : qs = dn ++ p :: rest) (e2 : qs = dn2 ++ q :: rest2)
    (h1 : ∀ x, x ∈ dn → ∀ y, y ∈ qs → bothB B b (x, y) = false) (h2 : ∀ y, y ∈ dn2 → bothB B b (p, y) = false) (hx : bothB B b (p, q) = true) : barD low high B b qs = .tup [.str "both", nD p, nD q] := by
  unfold barD
  rw [find_no hA]
  have e : prs qs = ((dn.flatMap fun p => qs.map fun q => (p, q)) ++ dn2.map fun q => (p, q)) ++ (p, q) :: ((rest2.map fun q => (p, q)) ++ rest.flatMap fun p => qs.map fun q => (p, q)) := by
    unfold prs
    conv => lhs; rw [e1]
    rw [List.flatMap_append, List.flatMap_cons]
    rw [← e1]
    have : (qs.map fun q => (p, q)) = (dn2.map fun q => (p, q)) ++ (p, q) :: rest2.map fun q => (p, q) := by
      conv => lhs; rw [e2]
      rw [List.map_append, List.map_cons]
    rw [this]
    simp
  rw [e, find_hit (fun z hz => ?_) hx]
  rcases List.mem_append.mp hz with h | h
  · obtain ⟨x, hx, h⟩ := List.mem_flatMap.mp h
    obtain ⟨y, hy, rfl⟩ := List.mem_map.mp h
    exact h1 x hx y hy
  · obtain ⟨y, hy, rfl⟩ := List.mem_map.mp h
    exact h2 y hy
theorem barD_none {low high b : Nat → Int} {B : Sp} {qs : List Nat} (hA : ∀ y, y ∈ qs → aloneB low high b y = false) (h1 : ∀ x, x ∈ qs → ∀ y, y ∈ qs → bothB B b (x, y) = false) : barD low high B b qs = .non := by
  unfold barD
  rw [find_no hA, find_no fun z hz => ?_]
  obtain ⟨x, hx, h⟩ := List.mem_flatMap.mp hz
  obtain ⟨y, hy, rfl⟩ := List.mem_map.mp h
  exact h1 x hx y hy
structure SpD (st : Str) (rs : List (Int × Int)) (o : Bool) (l : List D) (u2 : Nat → Int → Option Int) : Prop where
  len : l.length = st.length
  at_ : ∀ p, p < st.length → ∃ ks xs, l[p]? = some (.dk o ks xs) ∧ Dic ks xs (u2 p) 5000
  bst : ∀ p : Nat, p < st.length → ∀ q, Bst st rs p q (u2 p q)
def uB (u2 : Nat → Int → Option Int) : Sp := fun p q => u2 p (q : Int)
theorem SpD.spB {st : Str} {rs : List (Int × Int)} {o : Bool} {l : List D} {u2 : Nat → Int → Option Int} (h : SpD st rs o l u2) : SpB st rs (uB u2) := fun p q hp => h.bst p hp q
end ST
end L3
namespace L3
namespace ST
open PySem PySem.Spec PyProof.Rows L2
open T0
def P_need_told : PV := fun ds C Q => ∃ (o o2 : Bool) (f st : Str) (rs : List (Int × Int)) (ks : List Nat) (b : Nat → Int), ds = [pil o f st rs, tB o2 ks b] ∧ st.length ≤ 24 ∧ Told st.length ks b ∧ Q .non C
theorem zip_tB {b : Nat → Int} : ∀ ks : List Nat, zipD ((ks.map iK).map kD) ((ks.map b).map D.int) = ks.map fun k => .tup [nD k, .int (b k)]
  | [] => rfl
  | k :: ks => by simp only [List.map_cons, zipD, zip_tB ks]; rfl
theorem v_need_told (ds : List D) (C : Store) (Q3 : D → Store → Prop) (h : P_need_told ds C Q3) (hC : C.length = 0) : T_need_told P_is_whole (enF 0 Q3) (start3 N_need_told ds) C := by
  obtain ⟨o, o2, f, st, rs, ks, b, rfl, h24, hT, q⟩ := h
  rw [List.length_eq_zero_iff] at hC
  subst hC
  have hz := sizeL
  have hln := hT.len
  unfold T_need_told
  rw [u_sSeq]
  refine ⟨_, rfl, .dict, rfl, _, rfl, ?_⟩
  refine goF rfl ?_
  rw [u_sNext]
  have ev : (ks.map fun k => D.int (b k)) = (ks.map b).map .int := by rw [List.map_map]; rfl
  refine ⟨o2, ks.map iK, ks.map b, by rw [← ev]; rfl, ?_⟩
  rw [zip_tB]
  refine ⟨rfl, noptrs_map _ fun _ _ => rfl, ?_⟩
  refine forW_run (fun ds Γ C => ∃ (dn rest : List Nat), ks = dn ++ rest ∧ ds = rest.map (fun k => .tup [nD k, .int (b k)]) ∧ C = [] ∧ ∃ x y, Γ = [some (pil o f st rs), some (tB o2 ks b), x, y]) ?step ?stop _ _ _ ⟨[], ks, rfl, rfl, rfl, _, _, rfl⟩
  case step =>
    rintro d ds Γ C ⟨dn, rest, e1, e2, rfl, x, y, rfl⟩ R hR
    cases rest with
    | nil => cases e2
    | cons k rest =>
    simp only [List.map_cons, List.cons.injEq] at e2
    obtain ⟨rfl, rfl⟩ := e2
    have hk : k ∈ ks := by rw [e1]; simp
    have h1 := hT.lt k hk
    have h2 := hT.bd k hk
    refine ⟨_, rfl, rfl, _, _, rfl, _, _, rfl, rfl, ?_⟩
    try dsimp only
    rw [u_sIf]
    refine ⟨_, rfl, _, rfl, _, _, _, rfl, rfl, rfl, PN.oIn_le h24, _, _, rfl, rfl, (k : Int), ((st.length : Nat) : Int) - 1, by rw [views_int, views_int, views_nil], rfl, _, rfl, ?_⟩
    refine goF (by rw [decide_eq_true (by omega)]; rfl) ?_
    refine ⟨_, rfl, b k, 1000000000000000000000000000000, by rw [views_int, views_int, views_nil], rfl, _, rfl, ?_⟩
    refine goF (by rw [decide_eq_true (by omega)]; rfl) ?_
    rw [u_sNext]
    exact hR _ _ ⟨dn ++ [k], rest, by rw [e1]; simp, rfl, rfl, _, _, rfl⟩
  case stop =>
    rintro Γ C ⟨dn, rest, e1, e2, rfl, x, y, rfl⟩
    exact q
def P_all_spans : PV := fun ds C Q => ∃ (o : Bool) (f st : Str) (rs : List (Int × Int)), ds = [pil o f st rs] ∧ Pil f st rs ∧ ∀ l u2, SpD st rs false l u2 → Q (.lst false l) C
theorem v_all_spans (ds : List D) (C : Store) (Q3 : D → Store → Prop) (h : P_all_spans ds C Q3) (hC : C.length = 0) : T_all_spans P_spans_from (enF 0 Q3) (start3 N_all_spans ds) C := by
  obtain ⟨o, f, st, rs, rfl, hp, q⟩ := h
  rw [List.length_eq_zero_iff] at hC
  subst hC
  have hz := sizeL
  have h24 := hp.top
  unfold T_all_spans
  rw [u_sRet]
  refine ⟨_, rfl, _, _, _, rfl, rfl, rfl, PN.oIn_le h24, (st.length : Nat), rfl, by omega, by omega, ?_⟩
  rw [PN.rgI_range]
  refine lcW_run (fun ds acc C => ∃ (k : Nat), k ≤ st.length ∧ ds = ((List.range st.length).drop k).map (fun j : Nat => D.int (j : Nat)) ∧ C = [] ∧ acc.length = k ∧
    ∃ u2 : Nat → Int → Option Int, (∀ p, p < k → ∃ ks xs, acc[p]? = some (.dk false ks xs) ∧ Dic ks xs (u2 p) 5000) ∧ (∀ p : Nat, p < k → ∀ q, Bst st rs p q (u2 p q))) ?step ?stop _ _ _ ⟨0, by omega, rfl, rfl, rfl, fun _ _ => none, fun p hp => by omega, fun p hp => by omega⟩
  case step =>
    rintro d ds acc C ⟨k, hk, eds, rfl, hal, u2, hu1, hu2⟩ R hR
    obtain ⟨hkn, rfl, rfl⟩ := PN.rg_drop eds
    rw [u_gvName, u_bYes, if_pos rfl]
    refine ⟨_, rfl, _, rfl, true, f, st, rs, (k : Int), by rw [views_pil, views_int, views_nil], hp, by omega, by omega, fun ks xs u d hb => ⟨np_dk d.flat, by omega, (fun _ h => by simp [srcOf] at h), ?_⟩⟩
    refine hR _ _ ⟨k + 1, by omega, rfl, rfl, by simp [hal], fun p => if p = k then u else u2 p, fun p hp => ?_, fun p hp => ?_⟩
    · by_cases e : p = k
      · subst e
        refine ⟨ks, xs, ?_, ?_⟩
        · rw [List.getElem?_append_right (by omega), hal]
          simp
        · simp only [if_true]; exact d
      · obtain ⟨ks', xs', h1, h2⟩ := hu1 p (by omega)
        refine ⟨ks', xs', ?_, ?_⟩
        · rw [List.getElem?_append_left (by omega)]; exact h1
        · simp only [e, if_false]; exact h2
    · by_cases e : p = k
      · subst e
        simp only [if_true]
        exact hb
      · simp only [e, if_false]
        exact hu2 p (by omega)
  case stop =>
    rintro acc C ⟨k, hk, eds, rfl, hal, u2, hu1, hu2⟩
    have ek : k = st.length := by
      have := congrArg List.length eds
      simp at this
      omega
    subst ek
    have hS : SpD st rs false acc u2 := ⟨hal, hu1, hu2⟩
    have ef : fin 0 [] (.lst false acc) = .lst false acc := by
      unfold fin
      rw [mapW]
      generalize finG 0 ([] : Store) _ = g
      have all : ∀ l : List D, (∀ d, d ∈ l → mapW id g d = d) → mapWs id g l = l := by
        intro l
        induction l with
        | nil => intro _; rfl
        | cons d l ih => intro h; rw [mapWs, h d (List.mem_cons_self ..), ih fun x hx => h x (List.mem_cons_of_mem _ hx)]
      rw [all acc fun d hd => ?_]
      · rfl
      · obtain ⟨i, hi, rfl⟩ := List.mem_iff_getElem.mp hd
        obtain ⟨ks, xs, h1, h2⟩ := hu1 i (by omega)
        rw [List.getElem?_eq_getElem hi] at h1
        rw [Option.some.inj h1, mapW, mapWs_flat h2.flat]
        rfl
    show Q3 (fin 0 [] (.lst false acc)) (finS 0 [])
    rw [finS0, ef]
    exact q acc u2 hS
end ST
end L3
namespace L3
namespace ST
open PySem PySem.Spec PyProof.Rows L2
open T0
theorem tB_get {o : Bool} {n : Nat} {ks : List Nat} {b : Nat → Int} {Γ : Slots} {C : Store} {i j k : Nat} {Q : D → Store → Prop} (hi : Γ[i]? = some (some (tB o ks b))) (hj : Γ[j]? = some (some (nD k))) (hk : k ∈ ks) (q : Q (.int (b k)) C) : eDGet (eVar i) (eVar j) Γ C Q :=
  ⟨_, hi, _, hj, ks.map iK, ks.map fun k => .int (b k), iK k, .int (b k), rfl, rfl, by rw [dAt_iK, if_pos hk], q⟩
theorem alone_e {o o1 o2 : Bool} {n il ih it ip p : Nat} {low high b : Nat → Int} {ks : List Nat} {op : O2} {c : Int} {Γ : Slots} {C : Store} {R : Bool → Store → Prop} (hl : Γ[il]? = some (some (.lst o1 (wL n low)))) (hh : Γ[ih]? = some (some (.lst o2 (wL n high)))) (ht : Γ[it]? = some (some (tB o ks b))) (hp : Γ[ip]? = some (some (nD p)))
    (hk : p ∈ ks) (hn : p < n) (hop : ∀ (x : Int) (Q : D → Prop), Q (.bl (decide (x % 2 = 1))) → op C (.int (x % 2)) (.int c) Q) (q : R (aloneB low high b p) C) :
    bOr (bNot (bB (eChain oLe oLe (eBin oIxL (eVar il) (eVar ip)) (eDGet (eVar it) (eVar ip)) (eBin oIxL (eVar ih) (eVar ip))))) (bB (eBin op (eBin oMod (eBin oSub (eDGet (eVar it) (eVar ip)) (eBin oIxL (eVar il) (eVar ip))) (eC (.int 2))) (eC (.int c)))) Γ C R := by
  have fin : (decide (low p ≤ b p) && decide (b p ≤ high p)) = true → bB (eBin op (eBin oMod (eBin oSub (eDGet (eVar it) (eVar ip)) (eBin oIxL (eVar il) (eVar ip))) (eC (.int 2))) (eC (.int c))) Γ C R := fun h => by
    rw [u_bB, u_eBin, u_eBin, u_eBin]
    refine tB_get (n := n) ht hp hk ?_
    refine ⟨_, hl, _, hp, _, _, _, rfl, rfl, wL_at hn, _, _, rfl, rfl, _, _, rfl, rfl, (show (0 : Int) < 2 by decide), ?_⟩
    refine hop _ _ ⟨_, rfl, ?_⟩
    unfold aloneB at q
    rw [h] at q
    exact q
  have no : (decide (low p ≤ b p) && decide (b p ≤ high p)) = false → R true C := fun h => by
    unfold aloneB at q
    rw [h] at q
    exact q
  refine ⟨_, hl, _, hp, _, _, _, rfl, rfl, wL_at hn, ?_⟩
  refine tB_get (n := n) ht hp hk ?_
  refine ⟨_, _, rfl, rfl, _, rfl, ?_⟩
  by_cases h1 : low p ≤ b p
  · refine goT (by simp [h1]) ?_
    refine ⟨_, hh, _, hp, _, _, _, rfl, rfl, wL_at hn, _, _, rfl, rfl, _, rfl, ?_⟩
    by_cases h2 : b p ≤ high p
    · exact goF (by simp [h2]) (fin (by simp [h1, h2]))
    · exact goT (by simp [h2]) (no (by simp [h2]))
  · refine goF (by simp [h1]) ⟨_, rfl, ?_⟩
    exact goT rfl (no (by simp [h1]))
theorem aloneC1 {C : Store} (x : Int) (Q : D → Prop) (h : Q (.bl (decide (x % 2 = 1)))) : oEq false C (.int (x % 2)) (.int 1) Q := by
  show Q (.bl (false != decide (x % 2 = 1)))
  rw [eqN]
  exact h
def P_bars_by : PV := fun ds C Q => ∃ (o o1 o2 o3 : Bool) (n : Nat) (low high b : Nat → Int) (ks : List Nat) (st : Str) (rs : List (Int × Int)) (l : List D) (u2 : Nat → Int → Option Int) (ob : Bool), ds = [.lst ob l, .lst o1 (wL n low), .lst o2 (wL n high), tB o3 ks b] ∧ n ≤ 24 ∧ Told n ks b ∧ (n = st.length ∧ SpD st rs o l u2) ∧ Q (barD low high (uB u2) b (srtK n ks)) C
theorem v_bars_by (ds : List D) (C : Store) (Q3 : D → Store → Prop) (h : P_bars_by ds C Q3) (hC : C.length = 0) : T_bars_by (enF 0 Q3) (start3 N_bars_by ds) C := by
  obtain ⟨o, o1, o2, o3, n, low, high, b, ks, st, rs, l, u2, ob, rfl, h24, hT, ⟨hst, hD⟩, q⟩ := h
  rw [List.length_eq_zero_iff] at hC
  subst hC
  have hz := sizeL
  have hm := fun {k : Nat} => srtK_mem hT (k := k)
  generalize eq : srtK n ks = qs at hm q
  have hql : ∀ k, k ∈ qs → k ∈ ks ∧ k < n := fun k hk => ⟨hm.mp hk, hT.lt k (hm.mp hk)⟩
  unfold T_bars_by
  rw [u_sSeq]
  refine sort_e (o := o3) (b := b) rfl hT h24 ⟨_, rfl, rfl, np_nD _, ?_⟩
  rw [eq]
  refine forW_run (fun ds Γ C => ∃ (dn rest : List Nat), qs = dn ++ rest ∧ ds = rest.map nD ∧ C = [] ∧ (∀ y, y ∈ dn → aloneB low high b y = false) ∧ ∃ x y, Γ = [some (.lst ob l), some (.lst o1 (wL n low)), some (.lst o2 (wL n high)), some (tB o3 ks b), x, y]) ?step ?stop _ _ _ ⟨[], qs, rfl, rfl, rfl, (fun y hy => by cases hy), _, _, rfl⟩
  case step =>
    rintro d ds Γ C ⟨dn, rest, e1, e2, rfl, hdn, x, y, rfl⟩ R hR
    cases rest with
    | nil => cases e2
    | cons p rest =>
    simp only [List.map_cons, List.cons.injEq] at e2
    obtain ⟨rfl, rfl⟩ := e2
    obtain ⟨hk, hn⟩ := hql p (by rw [e1]; simp)
    rw [u_gvName]
    try dsimp only
    rw [u_sIf]
    refine alone_e (o := o3) (o1 := o1) (o2 := o2) (n := n) (low := low) (high := high) (b := b) (ks := ks) (p := p) rfl rfl rfl rfl hk hn aloneC1 ?_
    cases ha : aloneB low high b p with
    | true =>
      refine goT rfl ?_
      rw [u_sRet]
      refine ⟨_, rfl, le5 _ (by simp), ?_⟩
      show Q3 (fin 0 [] (.tup [.str "alone", nD p])) (finS 0 [])
      rw [finS0]
      rw [e1, barD_alone hdn ha] at q
      exact q
    | false =>
      refine goF rfl ?_
      rw [u_sNext]
      refine hR _ _ ⟨dn ++ [p], rest, by rw [e1]; simp, rfl, rfl, fun y hy => ?_, _, _, rfl⟩
      rcases List.mem_append.mp hy with h | h
      · exact hdn y h
      · obtain rfl : y = p := by simpa using h
        exact ha
  case stop =>
    rintro Γ C ⟨dn, rest, e1, e2, rfl, hdn, x, y, rfl⟩
    cases rest with
    | cons p rest => cases e2
    | nil =>
    rw [List.append_nil] at e1
    subst e1
    try dsimp only
    rw [u_sSeq]
    refine sort_e (o := o3) (b := b) rfl hT h24 ⟨_, rfl, rfl, np_nD _, ?_⟩
    rw [eq]
    refine forW_run (fun ds Γ C => ∃ (dn rest : List Nat), qs = dn ++ rest ∧ ds = rest.map nD ∧ C = [] ∧ (∀ x, x ∈ dn → ∀ y, y ∈ qs → bothB (uB u2) b (x, y) = false) ∧ ∃ x y, Γ = [some (.lst ob l), some (.lst o1 (wL n low)), some (.lst o2 (wL n high)), some (tB o3 ks b), x, y]) ?step2 ?stop2 _ _ _ ⟨[], qs, rfl, rfl, rfl, (fun y hy => by cases hy), _, _, rfl⟩
    case step2 =>
      rintro d ds Γ C ⟨dn, rest, e1, e2, rfl, hd1, x, y, rfl⟩ R hR
      cases rest with
      | nil => cases e2
      | cons p rest =>
      simp only [List.map_cons, List.cons.injEq] at e2
      obtain ⟨rfl, rfl⟩ := e2
      obtain ⟨hk, hn⟩ := hql p (by rw [e1]; simp)
      rw [u_gvName]
      try dsimp only
      refine sort_e (o := o3) (b := b) rfl hT h24 ⟨_, rfl, rfl, np_nD _, ?_⟩
      rw [eq]
      refine forW_run (fun ds Γ C => ∃ (dn2 rest2 : List Nat), qs = dn2 ++ rest2 ∧ ds = rest2.map nD ∧ C = [] ∧ (∀ y, y ∈ dn2 → bothB (uB u2) b (p, y) = false) ∧ ∃ y, Γ = [some (.lst ob l), some (.lst o1 (wL n low)), some (.lst o2 (wL n high)), some (tB o3 ks b), some (nD p), y]) ?step3 ?stop3 _ _ _ ⟨[], qs, rfl, rfl, rfl, (fun y hy => by cases hy), _, rfl⟩
      case step3 =>
        rintro d ds Γ C ⟨dn2, rest2, e3, e4, rfl, hd2, y, rfl⟩ R2 hR2
        cases rest2 with
        | nil => cases e4
        | cons r rest2 =>
        simp only [List.map_cons, List.cons.injEq] at e4
        obtain ⟨rfl, rfl⟩ := e4
        obtain ⟨hkr, hnr⟩ := hql r (by rw [e3]; simp)
        rw [u_gvName]
        try dsimp only
        rw [u_sIf]
        have next : bothB (uB u2) b (p, r) = false → R2 ([some (.lst ob l), some (.lst o1 (wL n low)), some (.lst o2 (wL n high)), some (tB o3 ks b), some (nD p), some (nD r)]) [] := fun h => hR2 _ _ ⟨dn2 ++ [r], rest2, by rw [e3]; simp, rfl, rfl, fun y hy => (by
          rcases List.mem_append.mp hy with h' | h'
          · exact hd2 y h'
          · obtain rfl : y = r := by simpa using h'
            exact h), _, rfl⟩
        obtain ⟨kk, xx, hat, hDic⟩ := hD.at_ p (by omega)
        have hatI : atI l (p : Int) = some (.dk o kk xx) := by
          unfold atI
          rw [ix_nat (by rw [hD.len]; omega)]
          exact hat
        refine ⟨_, rfl, _, rfl, _, rfl, l, _, _, rfl, rfl, hatI, kk, xx, .inl (r : Int), rfl, rfl, _, rfl, ?_⟩
        rw [hDic.some]
        cases hu : u2 p (r : Int) with
        | none =>
          refine goF rfl ?_
          refine goF rfl ?_
          rw [u_sNext]
          exact next (by unfold bothB uB; simp only [hu])
        | some s =>
          refine goT rfl ?_
          rw [u_bB, u_eBin, u_eBin]
          refine tB_get (n := n) rfl rfl hkr ?_
          refine tB_get (n := n) rfl rfl hk ?_
          refine ⟨_, _, rfl, rfl, _, rfl, _, rfl, l, _, _, rfl, rfl, hatI, _, rfl, kk, xx, .inl (r : Int), .int s, rfl, rfl, by rw [hDic.at_, hu]; rfl, _, _, rfl, rfl, _, rfl, ?_⟩
          by_cases hl : b r - b p < s
          · refine goT (by simp [hl]) ?_
            have hb : bothB (uB u2) b (p, r) = true := by unfold bothB uB; simp only [hu]; simp [hl]
            rw [u_sRet]
            refine ⟨_, rfl, _, rfl, le5 _ (by simp), ?_⟩
            show Q3 (fin 0 [] (.tup [.str "both", nD p, nD r])) (finS 0 [])
            rw [finS0]
            rw [barD_both (dn := dn) (rest := rest) (dn2 := dn2) (rest2 := rest2) (p := p) (q := r) hdn e1 e3 hd1 hd2 hb] at q
            exact q
          · refine goF (by simp [hl]) ?_
            rw [u_sNext]
            exact next (by unfold bothB uB; simp only [hu]; simp [hl])
      case stop3 =>
        rintro Γ C ⟨dn2, rest2, e3, e4, rfl, hd2, y, rfl⟩
        cases rest2 with
        | cons p rest => cases e4
        | nil =>
        rw [List.append_nil] at e3
        subst e3
        refine hR _ _ ⟨dn ++ [p], rest, by rw [e1]; simp, rfl, rfl, fun x hx y hy => ?_, _, _, rfl⟩
        rcases List.mem_append.mp hx with h | h
        · exact hd1 x h y hy
        · obtain rfl : x = p := by simpa using h
          exact hd2 y hy
    case stop2 =>
      rintro Γ C ⟨dn, rest, e1, e2, rfl, hd1, x, y, rfl⟩
      cases rest with
      | cons p rest => cases e2
      | nil =>
      rw [List.append_nil] at e1
      subst e1
      show Q3 (fin 0 [] .non) (finS 0 [])
      rw [finS0]
      rw [barD_none hdn hd1] at q
      exact q
end ST
end L3
namespace L3
namespace ST
open PySem PySem.Spec PyProof.Rows L2
open T0
theorem barD_cases (low high : Nat → Int) (B : Sp) (b : Nat → Int) (qs : List Nat) : (∃ p, p ∈ qs ∧ barD low high B b qs = .tup [.str "alone", nD p]) ∨ (∃ p q, p ∈ qs ∧ q ∈ qs ∧ barD low high B b qs = .tup [.str "both", nD p, nD q]) ∨ barD low high B b qs = .non := by
  unfold barD
  cases h : qs.find? (aloneB low high b) with
  | some p => exact .inl ⟨p, List.mem_of_find?_eq_some h, rfl⟩
  | none =>
    cases h2 : (prs qs).find? (bothB B b) with
    | some z =>
      have := List.mem_of_find?_eq_some h2
      obtain ⟨x, hx, h⟩ := List.mem_flatMap.mp this
      obtain ⟨y, hy, rfl⟩ := List.mem_map.mp h
      exact .inr (.inl ⟨x, y, hx, hy, rfl⟩)
    | none => exact .inr (.inr rfl)
theorem np_barD {low high : Nat → Int} {B : Sp} {b : Nat → Int} {qs : List Nat} : (noold (barD low high B b qs) && noptr (barD low high B b qs)) = true := by
  rcases barD_cases low high B b qs with ⟨p, _, e⟩ | ⟨p, q, _, _, e⟩ | e <;> rw [e] <;> rfl
theorem fin_barD {n : Nat} {C : Store} {low high : Nat → Int} {B : Sp} {b : Nat → Int} {qs : List Nat} : fin n C (barD low high B b qs) = barD low high B b qs := by
  rcases barD_cases low high B b qs with ⟨p, _, e⟩ | ⟨p, q, _, _, e⟩ | e <;> rw [e] <;> rfl
theorem views_barD {C : Store} {low high : Nat → Int} {B : Sp} {b : Nat → Int} {qs : List Nat} {ds : List D} : views [] C (barD low high B b qs :: ds) = barD low high B b qs :: views [] C ds := by
  rcases barD_cases low high B b qs with ⟨p, _, e⟩ | ⟨p, q, _, _, e⟩ | e <;> rw [e] <;> rfl
theorem barD_congr {low low' high high' : Nat → Int} {B B' : Sp} {b : Nat → Int} {qs : List Nat} (h1 : ∀ k, k ∈ qs → low k = low' k) (h2 : ∀ k, k ∈ qs → high k = high' k) (h3 : ∀ p, p ∈ qs → ∀ q, q ∈ qs → B p q = B' p q) : barD low high B b qs = barD low' high' B' b qs := by
  have find_congr : ∀ {α : Type} {f g : α → Bool} {l : List α}, (∀ x, x ∈ l → f x = g x) → l.find? f = l.find? g := fun {α f g l} h => by
    induction l with
    | nil => rfl
    | cons x l ih =>
      rw [List.find?_cons, List.find?_cons, h x (List.mem_cons_self ..), ih fun y hy => h y (List.mem_cons_of_mem _ hy)]
  unfold barD
  rw [find_congr (f := aloneB low high b) (g := aloneB low' high' b) fun k hk => by unfold aloneB; rw [h1 k hk, h2 k hk]]
  rw [find_congr (l := prs qs) (f := bothB B b) (g := bothB B' b) fun z hz => by
    obtain ⟨x, hx, h⟩ := List.mem_flatMap.mp hz
    obtain ⟨y, hy, rfl⟩ := List.mem_map.mp h
    unfold bothB
    simp only
    rw [h3 x hx y hy]]
theorem mapWs_get {h : Bool → Bool} {g : Nat → D} : ∀ (l : List D) (i : Nat), (mapWs h g l)[i]? = (l[i]?).map (mapW h g)
  | [], i => by simp [mapWs]
  | x :: l, 0 => by simp [mapWs]
  | x :: l, i + 1 => by simp only [mapWs, List.getElem?_cons_succ]; exact mapWs_get l i
theorem mapWs_len {h : Bool → Bool} {g : Nat → D} : ∀ l : List D, (mapWs h g l).length = l.length
  | [] => rfl
  | x :: l => by simp [mapWs, mapWs_len l]
theorem SpD.view {st : Str} {rs : List (Int × Int)} {o : Bool} {l : List D} {u2 : Nat → Int → Option Int} (h : SpD st rs o l u2) (g : Nat → D) : SpD st rs true (mapWs (fun _ => true) g l) u2 := by
  refine ⟨by rw [mapWs_len]; exact h.len, fun p hp => ?_, h.bst⟩
  obtain ⟨ks, xs, h1, h2⟩ := h.at_ p hp
  refine ⟨ks, xs, ?_, h2⟩
  rw [mapWs_get, h1]
  show some (mapW _ _ _) = _
  rw [mapW, mapWs_flat h2.flat]
theorem SpD.np {st : Str} {rs : List (Int × Int)} {l : List D} {u2 : Nat → Int → Option Int} (h : SpD st rs false l u2) : (noold (.lst false l) && noptr (.lst false l)) = true := by
  have all : ∀ l : List D, (∀ d, d ∈ l → (noold d && noptr d) = true) → okWs (fun o => !o) l = true ∧ noptrs l = true := by
    intro l
    induction l with
    | nil => intro _; exact ⟨rfl, rfl⟩
    | cons d l ih =>
      intro h
      have h1 := h d (List.mem_cons_self ..)
      obtain ⟨h2, h3⟩ := ih fun x hx => h x (List.mem_cons_of_mem _ hx)
      simp only [Bool.and_eq_true] at h1
      refine ⟨?_, ?_⟩
      · rw [okWs, h2, Bool.and_true]; exact h1.1
      · rw [noptrs, h3, Bool.and_true]; exact h1.2
  have := all l fun d hd => by
    obtain ⟨i, hi, rfl⟩ := List.mem_iff_getElem.mp hd
    obtain ⟨ks, xs, h1, h2⟩ := h.at_ i (by rw [← h.len]; exact hi)
    rw [List.getElem?_eq_getElem hi] at h1
    rw [Option.some.inj h1]
    exact np_dk h2.flat
  simp only [noold, okW, noptr, this.1, this.2]
  rfl
def P_bars : PV := fun ds C Q => ∃ (o o2 : Bool) (f st : Str) (rs : List (Int × Int)) (top : Int) (ks : List Nat) (b : Nat → Int), ds = [pil o f st rs, .int top, tB o2 ks b] ∧ Pil f st rs ∧ Most f st rs top ∧ Told st.length ks b ∧ ∀ v u B, PFix f st rs v → OFix st rs u → SpB st rs B → Q (barD v (late top v u) B b (srtK st.length ks)) C
theorem views_w1 {C : Store} {o : Bool} {n : Nat} {w : Nat → Int} {ds : List D} : views [] C (.lst o (wL n w) :: ds) = .lst true (wL n w) :: views [] C ds := by rw [wL_ints, views_ints]
theorem v_bars (ds : List D) (C : Store) (Q3 : D → Store → Prop) (h : P_bars ds C Q3) (hC : C.length = 0) : T_bars P_latest P_earliest P_need_told P_bars_by P_all_spans (enF 0 Q3) (start3 N_bars ds) C := by
  obtain ⟨o, o2, f, st, rs, top, ks, b, rfl, hp, ht, hT, q⟩ := h
  rw [List.length_eq_zero_iff] at hC
  subst hC
  have h24 := hp.top
  unfold T_bars
  rw [u_sSeq]
  refine ⟨_, rfl, true, f, st, rs, views_pil1, hp, fun v V => ⟨np_wL, ?_⟩⟩
  refine ⟨_, rfl, _, rfl, true, f, st, rs, top, by rw [views_pil, views_int, views_nil], hp, ht, fun v' u V' U => ⟨np_wL, _, _, rfl, ?_⟩⟩
  try dsimp only
  rw [u_sSeq, u_sDrop]
  refine ⟨_, rfl, _, rfl, true, true, f, st, rs, ks, b, by rw [views_pil, views_tB, views_nil], h24, hT, rfl, ?_⟩
  try dsimp only
  rw [u_sRet]
  refine ⟨_, rfl, true, f, st, rs, views_pil1, hp, fun l u2 hD => ⟨hD.np, ?_⟩⟩
  refine ⟨_, rfl, _, rfl, _, rfl, true, true, true, true, st.length, v, late top v' u, b, ks, st, rs, _, u2, true, ?_, h24, hT, ⟨rfl, hD.view (viewG [] [] 2)⟩, np_barD, ?_⟩
  · show views [] [] [.lst false l, .lst false (wL st.length v), .lst false (wL st.length (late top v' u)), tB o2 ks b] = _
    have : ∀ ds : List D, views [] [] (.lst false l :: ds) = .lst true (mapWs (fun _ => true) (viewG [] [] 2) l) :: views [] [] ds := fun ds => by unfold views; rw [mapWs, mapW]
    rw [this, views_w1, views_w1, views_tB, views_nil]
  · show Q3 (fin 0 [] (barD v (late top v' u) (uB u2) b (srtK st.length ks))) (finS 0 [])
    rw [fin_barD, finS0]
    have e : barD v (late top v' u) (uB u2) b (srtK st.length ks) = barD v (late top v u) (uB u2) b (srtK st.length ks) := barD_congr (fun _ _ => rfl) (fun k hk => late_congr hp V' U V U k (hT.lt k ((srtK_mem hT).mp hk))) fun _ _ _ _ => rfl
    rw [e]
    exact q v u (uB u2) V U hD.spB
end ST
end L3
namespace L3
open PySem PySem.Spec PyProof.Rows L2
mutual
/-- data that may be shown: no instance, no cell -/
def anyD : D → Bool
  | .non => true
  | .bl _ => true
  | .int _ => true
  | .str _ => true
  | .lst _ xs => anyDs xs
  | .tup xs => anyDs xs
  | .dk _ _ xs => anyDs xs
  | _ => false
def anyDs : List D → Bool
  | [] => true
  | x :: xs => anyD x && anyDs xs
end
def vw (d : D) : D := mapW (fun _ => true) (fun _ => .bad) d
def vws (ds : List D) : List D := mapWs (fun _ => true) (fun _ => .bad) ds
mutual
theorem vw_any {g : Nat → D} : ∀ d : D, anyD d = true → mapW (fun _ => true) g d = vw d ∧ anyD (vw d) = true ∧ noptr d = true
  | .non, _ => ⟨rfl, rfl, rfl⟩
  | .bl _, _ => ⟨rfl, rfl, rfl⟩
  | .int _, _ => ⟨rfl, rfl, rfl⟩
  | .str _, _ => ⟨rfl, rfl, rfl⟩
  | .lst o xs, h => by
    obtain ⟨h1, h2, h3⟩ := vws_any (g := g) xs h
    exact ⟨by unfold vw; rw [mapW, mapW, h1]; rfl, h2, h3⟩
  | .tup xs, h => by
    obtain ⟨h1, h2, h3⟩ := vws_any (g := g) xs h
    exact ⟨by unfold vw; rw [mapW, mapW, h1]; rfl, h2, h3⟩
  | .dk o ks xs, h => by
    obtain ⟨h1, h2, h3⟩ := vws_any (g := g) xs h
    exact ⟨by unfold vw; rw [mapW, mapW, h1]; rfl, h2, h3⟩
  | .bad, h => by cases h
  | .dt _ _ _, h => by cases h
  | .obj _ _ _, h => by cases h
  | .exc _ _ _, h => by cases h
  | .ptr _, h => by cases h
theorem vws_any {g : Nat → D} : ∀ ds : List D, anyDs ds = true → mapWs (fun _ => true) g ds = vws ds ∧ anyDs (vws ds) = true ∧ noptrs ds = true
  | [], _ => ⟨rfl, rfl, rfl⟩
  | d :: ds, h => by
    rw [anyDs, Bool.and_eq_true] at h
    obtain ⟨h1, h2, h3⟩ := vw_any (g := g) d h.1
    obtain ⟨h4, h5, h6⟩ := vws_any (g := g) ds h.2
    refine ⟨by rw [mapWs, h1, h4]; rfl, ?_, ?_⟩
    · show (anyD (vw d) && anyDs (vws ds)) = true
      rw [h2, h5]
      rfl
    · rw [noptrs, h3, h6]
      rfl
end
theorem vws_map : ∀ ds : List D, vws ds = ds.map vw
  | [] => rfl
  | d :: ds => by
    show vw d :: vws ds = _
    rw [vws_map ds]
    rfl
def betD (d : D) (a b : Int) : Bool := match d with
  | .int i => decide (a ≤ i ∧ i ≤ b)
  | _ => false
theorem betD_iff {d : D} {a b : Int} : betD d a b = true ↔ ∃ i, d = .int i ∧ a ≤ i ∧ i ≤ b := by
  cases d <;> simp [betD]
namespace X
def P_is_between : PV := fun ds C Q => ∃ (d : D) (a b : Int), ds = [d, .int a, .int b] ∧ anyD d = true ∧ Q (.bl (betD d a b)) C
theorem v_is_between (ds : List D) (C : Store) (Q3 : D → Store → Prop) (h : P_is_between ds C Q3) (hC : C.length = 0) : T_is_between (enF 0 Q3) (start3 N_is_between ds) C := by
  obtain ⟨d, a, b, rfl, hd, q⟩ := h
  rw [List.length_eq_zero_iff] at hC
  subst hC
  unfold T_is_between
  cases d with
  | int i => exact ⟨_, rfl, .int, rfl, true, rfl, goT rfl ⟨_, rfl, .int, rfl, false, rfl, true, rfl, goT rfl ⟨_, rfl, _, rfl, by
      refine ⟨_, _, rfl, rfl, _, rfl, ?_⟩
      by_cases h1 : a ≤ i
      · refine goT (decide_eq_true h1) ⟨_, rfl, _, _, rfl, rfl, ?_⟩
        have e : decide (i ≤ b) = betD (.int i) a b := by simp [betD, h1]
        show Q3 (.bl (decide (i ≤ b))) []
        rw [e]
        exact q
      · refine goF (decide_eq_false h1) ?_
        have e : false = betD (.int i) a b := by simp [betD, h1]
        show Q3 (.bl false) []
        rw [e]
        exact q⟩⟩⟩
  | bl k => exact ⟨_, rfl, .bool, rfl, true, rfl, goT rfl ⟨_, rfl, .bool, rfl, true, rfl, false, rfl, goF rfl q⟩⟩
  | non => exact ⟨_, rfl, .non, rfl, false, rfl, goF rfl q⟩
  | str s => exact ⟨_, rfl, .str, rfl, false, rfl, goF rfl q⟩
  | lst o xs => exact ⟨_, rfl, .list, rfl, false, rfl, goF rfl q⟩
  | tup xs => exact ⟨_, rfl, .tuple, rfl, false, rfl, goF rfl q⟩
  | dk o ks xs => exact ⟨_, rfl, .dict, rfl, false, rfl, goF rfl q⟩
  | _ => cases hd
theorem v_is_rule (ds : List D) (C : Store) (Q3 : D → Store → Prop) (h : P_is_rule ds C Q3) (hC : C.length = 0) : T_is_rule P_is_between (enF 0 Q3) (start3 N_is_rule ds) C := by
  obtain ⟨z, n, rfl, h1, h2, h3, h4, h5, q⟩ := h
  rw [List.length_eq_zero_iff] at hC
  subst hC
  refine ⟨_, rfl, .tuple, rfl, true, rfl, ?_⟩
  refine goF rfl ?_
  refine ⟨_, rfl, _, _, rfl, rfl, _, rfl, ?_⟩
  refine goF rfl ?_
  refine ⟨_, rfl, _, rfl, ?_⟩
  refine lc_map (fun _ => .bl true) [.int z.1, .int z.2] (fun _ _ => rfl) (by rw [sizeL]; show 2 ≤ 16777216; decide) (fun d hd R hR => ?_) ?_
  · obtain ⟨i, rfl, hi1, hi2⟩ : ∃ i : Int, d = .int i ∧ 0 ≤ i ∧ i < n := by
      simp at hd
      rcases hd with rfl | rfl
      · exact ⟨_, rfl, h1, h2⟩
      · exact ⟨_, rfl, h3, h4⟩
    refine ⟨_, rfl, _, rfl, _, _, rfl, rfl, .int i, 0, n - 1, by rw [views_int, views_int, views_int, views_nil], rfl, rfl, ?_⟩
    rw [betD_iff.mpr ⟨i, rfl, by omega, by omega⟩]
    exact hR
  · refine ⟨_, [true, true], rfl, rfl, _, rfl, ?_⟩
    refine goF rfl ?_
    refine ⟨_, rfl, _, _, _, rfl, rfl, rfl, _, rfl, _, _, _, rfl, rfl, rfl, ?_⟩
    show Q3 (.bl (true != decide (z.1 = z.2))) _
    rw [decide_eq_false h5]
    exact q
end X
end L3
namespace L3
open PySem PySem.Spec PyProof.Rows L2
def IsI (P : List Int → Prop) (d : D) : Prop := ∃ o l, d = .lst o (l.map .int) ∧ P l
theorem vw_int {x : D} {i : Int} (h : vw x = .int i) : x = .int i := by
  cases x <;> simp [vw, mapW] at h
  rw [h]
theorem vws_ints : ∀ {xs : List D} {l : List Int}, vws xs = l.map .int → xs = l.map .int
  | [], [], _ => rfl
  | [], _ :: _, h => by cases h
  | _ :: _, [], h => by cases h
  | x :: xs, i :: l, h => by
    obtain ⟨h1, h2⟩ := List.cons.inj (show vw x :: vws xs = .int i :: l.map .int from h)
    rw [vw_int h1, vws_ints h2]
    rfl
theorem IsI.vw {P : List Int → Prop} {d : D} : IsI P (vw d) ↔ IsI P d := by
  constructor
  · rintro ⟨o, l, e, hl⟩
    cases d with
    | lst o2 xs =>
      have e2 : vws xs = l.map .int := by
        have : D.lst true (vws xs) = .lst o (l.map .int) := e
        simpa using (D.lst.inj this).2
      exact ⟨o2, l, by rw [vws_ints e2], hl⟩
    | tup xs => cases e
    | dk _ _ xs => cases e
    | dt _ _ xs => cases e
    | obj _ _ xs => cases e
    | exc _ _ xs => cases e
    | _ => cases e
  · rintro ⟨o, l, rfl, hl⟩
    refine ⟨true, l, ?_, hl⟩
    show D.lst true (mapWs _ _ (l.map .int)) = _
    rw [mapWs_ints]
theorem IsI.no {P : List Int → Prop} {d : D} (h : ∀ o xs, d ≠ .lst o xs) : ¬ IsI P d := fun ⟨o, l, e, _⟩ => h o _ e
def ShortD (d : D) : Prop := ∀ o xs, d = .lst o xs → xs.length ≤ 10 ^ 6
theorem ShortD.vw {d : D} (h : ShortD d) : ShortD (vw d) := fun o xs e => by
  cases d with
  | lst o2 ys =>
    have : D.lst true (vws ys) = .lst o xs := e
    obtain ⟨_, rfl⟩ := D.lst.inj this
    rw [vws_map, List.length_map]
    exact h o2 ys rfl
  | _ => cases e
section
variable {α : Type} {G : GV} {B : BV} {E : EV} {Γ : Slots} {ok : Store → Prop} {Q : Cell → Store → Prop} {C : Store}
end
end L3
namespace L3
open PySem PySem.Spec PyProof.Rows L2
theorem shw_neg {i : Int} {d : Nat} (h : i.natAbs < 10 ^ 12) : Shw (.int i) d 40 := by
  refine ⟨?_, rfl, by simp [PyData.depth], Nat.le_trans (PyData.shown_int_le h) (by decide)⟩
  rw [PyData.showable]
  refine decide_eq_true ?_
  have hz : i.natAbs < 2 ^ 200 := Nat.lt_trans h (by decide)
  exact Nat.lt_trans (log_of (k := 200) hz (by decide)) (by decide)
structure ShwX (p : PyData) (d n : Nat) : Prop where
  ok : p.showable = true
  dp : p.depth ≤ d
  ln : p.shown.length ≤ n
theorem Shw.x {p : PyData} {d n : Nat} (h : Shw p d n) : ShwX p d n := ⟨h.ok, h.dp, h.ln⟩
theorem ShwX.le {p : PyData} {d n d' n' : Nat} (a : ShwX p d n) (h : d ≤ d') (h' : n ≤ n') : ShwX p d' n' := ⟨a.ok, Nat.le_trans a.dp h, Nat.le_trans a.ln h'⟩
structure ShwsX (ps : List PyData) (d n : Nat) : Prop where
  ok : PyData.showableAll ps = true
  dp : PyData.depthAll ps ≤ d
  ln : ((PyData.shownAll ps).map (·.length)).sum + 2 * ps.length ≤ n
theorem ShwsX.nil {d n : Nat} : ShwsX [] d n := ⟨rfl, Nat.zero_le _, by simp [PyData.shownAll]⟩
theorem ShwsX.cons {p : PyData} {ps : List PyData} {d n m : Nat} (a : ShwX p d n) (b : ShwsX ps d m) : ShwsX (p :: ps) d (n + m + 2) := by
  have h1 := a.ln
  have h2 := b.ln
  refine ⟨by simp [PyData.showableAll, a.ok, b.ok], ?_, ?_⟩
  · have h3 := a.dp
    have h4 := b.dp
    simp only [PyData.depthAll]
    omega
  · simp only [PyData.shownAll, List.map_cons, List.sum_cons, List.length_cons]
    omega
theorem ShwX.list {ps : List PyData} {d n : Nat} (a : ShwsX ps d n) : ShwX (.list ps) (d + 1) (n + 3) := by
  have h := listText_len_le (PyData.shownAll ps)
  have h1 := a.ln
  have h2 := a.dp
  rw [shownAll_len] at h
  refine ⟨by rw [PyData.showable]; exact a.ok, by rw [PyData.depth]; omega, ?_⟩
  rw [PyData.shown]
  omega
theorem ShwX.tuple {ps : List PyData} {d n : Nat} (a : ShwsX ps d n) : ShwX (.tuple ps) (d + 1) (n + 3) := by
  have h := tupleText_len_le (PyData.shownAll ps)
  have h1 := a.ln
  have h2 := a.dp
  rw [shownAll_len] at h
  refine ⟨by rw [PyData.showable]; exact a.ok, by rw [PyData.depth]; omega, ?_⟩
  rw [PyData.shown]
  omega
structure Thn (d n : Nat) (x : D) : Prop where
  any : anyD x = true
  nw : noold x = true
  py : ∃ p, (∀ g, pyXW g x = some p) ∧ ShwX p d n
theorem Thn.np {d n : Nat} {x : D} (h : Thn d n x) : (noold x && noptr x) = true := by rw [h.nw, (vw_any (g := fun _ => .bad) x h.any).2.2]; rfl
theorem Thn.le {d n d' n' : Nat} {x : D} (a : Thn d n x) (h : d ≤ d') (h' : n ≤ n') : Thn d' n' x := by
  obtain ⟨p, h1, h2⟩ := a.py
  exact ⟨a.any, a.nw, p, h1, h2.le h h'⟩
theorem Thn.int {i : Int} {d : Nat} (h : (0 ≤ i ∧ i < 10 ^ 40) ∨ i.natAbs < 10 ^ 12) : Thn d 40 (.int i) := ⟨rfl, rfl, .int i, fun _ => rfl, by
  rcases h with h | h
  · exact (Shw.int h.1 h.2).x
  · exact (shw_neg h).x⟩
theorem Thn.bl {b : Bool} {d : Nat} : Thn d 5 (.bl b) := ⟨rfl, rfl, .bool b, fun _ => rfl, by cases b <;> exact ⟨by decide +kernel, by rw [PyData.depth]; omega, by decide +kernel⟩⟩
theorem Thn.non {d : Nat} : Thn d 4 .non := ⟨rfl, rfl, .none, fun _ => rfl, ⟨by decide +kernel, by rw [PyData.depth]; omega, by decide +kernel⟩⟩
theorem Thn.str {s : Str} {d n : Nat} (h : ∀ c, c ∈ s.cps.toList → c < 16 ^ 8) (hl : s.length ≤ n) : Thn d (10 * n + 2) (.str s) := ⟨rfl, rfl, .str s, fun _ => rfl, (Shw.str (d := d) h hl).x⟩
theorem thns {d n : Nat} : ∀ {xs : List D}, (∀ x, x ∈ xs → Thn d n x) → anyDs xs = true ∧ okWs (fun o => !o) xs = true ∧ ∃ ps, (∀ g, pyXWs g xs = some ps) ∧ ShwsX ps d (xs.length * (n + 2))
  | [], _ => ⟨rfl, rfl, [], fun _ => rfl, .nil⟩
  | x :: xs, h => by
    have hx := h x (List.mem_cons_self ..)
    obtain ⟨h1, h2, ps, h3, h4⟩ := thns (xs := xs) fun y hy => h y (List.mem_cons_of_mem _ hy)
    obtain ⟨p, g1, g2⟩ := hx.py
    refine ⟨by rw [anyDs, hx.any, h1]; rfl, by rw [okWs, h2, Bool.and_true]; exact hx.nw, p :: ps, fun g => by rw [pyXWs, g1, h3]; rfl, ?_⟩
    have := ShwsX.cons g2 h4
    have e : (x :: xs).length * (n + 2) = xs.length * (n + 2) + (n + 2) := by rw [List.length_cons, Nat.add_mul, Nat.one_mul]
    exact ⟨this.ok, this.dp, by rw [e]; have := this.ln; omega⟩
theorem Thn.lst {d n : Nat} {xs : List D} (h : ∀ x, x ∈ xs → Thn d n x) : Thn (d + 1) (xs.length * (n + 2) + 3) (.lst false xs) := by
  obtain ⟨h1, h2, ps, h3, h4⟩ := thns h
  exact ⟨h1, by show okW _ _ = true; rw [okW, h2]; rfl, .list ps, fun g => by rw [pyXW, h3]; rfl, .list h4⟩
theorem Thn.tup {d n : Nat} {xs : List D} (h : ∀ x, x ∈ xs → Thn d n x) : Thn (d + 1) (xs.length * (n + 2) + 3) (.tup xs) := by
  obtain ⟨h1, h2, ps, h3, h4⟩ := thns h
  exact ⟨h1, h2, .tuple ps, fun g => by rw [pyXW, h3]; rfl, .tuple h4⟩
theorem Thn.ints {ns : List Int} {d : Nat} (h : ∀ n, n ∈ ns → (0 ≤ n ∧ n < 10 ^ 40) ∨ n.natAbs < 10 ^ 12) : Thn (d + 1) (ns.length * 42 + 3) (.lst false (ns.map .int)) := by
  have := Thn.lst (d := d) (n := 40) (xs := ns.map .int) fun x hx => by
    obtain ⟨i, hi, rfl⟩ := List.mem_map.mp hx
    exact .int (h i hi)
  rwa [List.length_map] at this
theorem oReprX_of {C : Store} {d : D} {xs : List D} {ps : List PyData} {n : Nat} {Q : D → Prop} (e : lstOf C d = some xs) (hne : xs ≠ []) (e2 : pyXWs (pyXG C 2) xs = some ps) (h : ShwX (.list ps) 60 n) (hn : n ≤ 16777216) (q : Q (.str (PyData.list ps).shown)) : oReprX C [d] Q :=
  ⟨d, xs, ps, rfl, e, hne, e2, h.ok, h.dp, by have := h.ln; have := sizeL; omega, q⟩
theorem pyX_pairs {g : Nat → Option PyData} : ∀ rs : List (Int × Int), pyXWs g (rs.map pD) = some (rs.map fun z => .tuple [.int z.1, .int z.2])
  | [] => rfl
  | z :: rs => by
    rw [List.map_cons, List.map_cons]
    simp only [pyXWs, pyX_pairs rs]
    rfl
end L3
namespace L3
namespace ST
open PySem PySem.Spec PyProof.Rows L2
open T0
theorem dictText_len_le (ts : List Str) : (dictText ts).length ≤ (ts.map (·.length)).sum + 2 * ts.length + 2 := by
  have e : (dictText ts).length = 1 + (Str.join ", " ts).length + 1 := by
    unfold dictText
    rw [Str.length_append, Str.length_append]
    rfl
  by_cases h : ts = []
  · subst h
    rw [e]
    decide
  · have h2 := join_length_add ts h
    have h3 : piled ts = (ts.map (·.length)).sum + 2 * ts.length := by
      clear e h h2
      induction ts with
      | nil => rfl
      | cons t ts ih => rw [piled_cons, ih]; simp only [List.map_cons, List.sum_cons, List.length_cons]; omega
    omega
def tBP (ks : List Nat) (b : Nat → Int) : PyData := .dict ((ks.map fun k : Nat => PyData.int (k : Int)).zip (ks.map fun k => .int (b k)))
theorem pyX_tB {g : Nat → Option PyData} {o : Bool} {ks : List Nat} {b : Nat → Int} : pyXW g (tB o ks b) = some (tBP ks b) := by
  have h : ∀ ks : List Nat, pyXWs g (ks.map fun k => D.int (b k)) = some (ks.map fun k => PyData.int (b k)) := by
    intro ks
    induction ks with
    | nil => rfl
    | cons k ks ih => simp only [List.map_cons, pyXWs, pyXW, ih]; rfl
  unfold tB tBP
  rw [pyXW, h]
  simp only [Option.map_some, List.map_map]
  rfl
theorem shw_tB {n : Nat} {ks : List Nat} {b : Nat → Int} (hT : Told n ks b) (h24 : n ≤ 24) : ShwX (tBP ks b) 1 3000 := by
  have hI : ∀ i : Int, 0 ≤ i → i ≤ 10 ^ 30 → Shw (.int i) 0 40 := fun i h0 h1 => Shw.int h0 (by omega)
  have hl := hT.len
  have all : ∀ ks : List Nat, (∀ k, k ∈ ks → k < 24 ∧ 0 ≤ b k ∧ b k ≤ 10 ^ 30) → PyData.showableKv ((ks.map fun k : Nat => PyData.int (k : Int)).zip (ks.map fun k => .int (b k))) = true ∧ PyData.depthKv ((ks.map fun k : Nat => PyData.int (k : Int)).zip (ks.map fun k => .int (b k))) = 0 ∧
      ((PyData.shownKv ((ks.map fun k : Nat => PyData.int (k : Int)).zip (ks.map fun k => .int (b k)))).map (·.length)).sum ≤ 82 * ks.length ∧ (PyData.shownKv ((ks.map fun k : Nat => PyData.int (k : Int)).zip (ks.map fun k => .int (b k)))).length = ks.length := by
    intro ks
    induction ks with
    | nil => intro _; exact ⟨rfl, rfl, by simp [PyData.shownKv], rfl⟩
    | cons k ks ih =>
      intro h
      obtain ⟨h1, h2, h3⟩ := h k (List.mem_cons_self ..)
      obtain ⟨i1, i2, i3, i4⟩ := ih fun x hx => h x (List.mem_cons_of_mem _ hx)
      have a := hI (k : Int) (by omega) (by omega)
      have c := hI (b k) h2 h3
      have a1 := a.ok
      have a2 := a.dp
      have a3 := a.ln
      have c1 := c.ok
      have c2 := c.dp
      have c3 := c.ln
      simp only [List.map_cons, List.zip_cons_cons, PyData.showableKv, PyData.depthKv, PyData.shownKv, List.sum_cons, List.length_cons]
      refine ⟨by rw [a1, c1, i1]; rfl, by omega, ?_, by omega⟩
      rw [Str.length_append, Str.length_append]
      have : (": " : Str).length = 2 := rfl
      omega
  obtain ⟨h1, h2, h3, h4⟩ := all ks fun k hk => ⟨by have := hT.lt k hk; omega, hT.bd k hk⟩
  have h5 := dictText_len_le (PyData.shownKv ((ks.map fun k : Nat => PyData.int (k : Int)).zip (ks.map fun k => .int (b k))))
  rw [h4] at h5
  unfold tBP
  refine ⟨by rw [PyData.showable]; exact h1, by rw [PyData.depth, h2]; omega, ?_⟩
  rw [PyData.shown]
  omega
theorem mono_told {ds : List D} {C : Store} (R R' : D → Store → Prop) (h : ∀ d Cc, R d Cc → R' d Cc) : P_Lw_told ds C R → P_Lw_told ds C R' := fun ⟨o, n, w, top, c, x, e1, e2, e3, e4, e5, e6, e7, e8, q⟩ => ⟨o, n, w, top, c, x, e1, e2, e3, e4, e5, e6, e7, e8, fun ks b c' y a b' d => h _ _ (q ks b c' y a b' d)⟩
theorem mono_plan {ds : List D} {C : Store} (R R' : D → Store → Prop) (h : ∀ d Cc, R d Cc → R' d Cc) : P_Lw_plan ds C R → P_Lw_plan ds C R' := fun ⟨o, f, st, rs, top, c, x, e1, e2, e3, e4, e5, e6, q⟩ => ⟨o, f, st, rs, top, c, x, e1, e2, e3, e4, e5, e6, fun w c' y a b d => h _ _ (q w c' y a b d)⟩
theorem told_c {k n : Nat} {o : Bool} {w : Nat → Int} {top c : Int} {x : Cell} {C1 : Store} {Q : D → Store → Prop} (hk : C1[k]? = some x) (hx : Jar c x) (hc : c < 10 ^ 5) (h24 : n ≤ 24) (h0 : 0 ≤ top) (h30 : top ≤ 10 ^ 30) (hw : ∀ j, j < n → 0 ≤ w j ∧ w j ≤ 10 ^ 30)
    (q : ∀ ks b c' y, Told n ks b → Jar c' y → c' ≤ c + 96 → Q (tB false ks b) (C1.set k y)) : callK 1 kf1 P_Lw_told [.ptr k, .lst o (wL n w), .int top] C1 Q := by
  refine callJ (k := k) (es' := [.lst true (wL n w), .int top]) hk hx ?_ ?_ mono_told
  · rw [wL_ints]
    simp only [mapWs, mapW, mapWs_ints]
  · exact ⟨true, n, w, top, c, x, rfl, rfl, hx, hc, h24, h0, h30, hw, fun ks b c' y hT hy hc' => ⟨y, c', rfl, hy, np_tB, q ks b c' y hT hy hc'⟩⟩
theorem plan_c {k : Nat} {pd : D} {f st : Str} {rs : List (Int × Int)} {top c : Int} {x : Cell} {C1 : Store} {Q : D → Store → Prop} (hk : C1[k]? = some x) (hx : Jar c x) (hc : c < 10 ^ 5) (hv : mapWs (fun _ => true) (viewG [k] C1 2) [pd, .int top] = [pil true f st rs, .int top]) (hp : Pil f st rs) (ht : Most f st rs top)
    (q : ∀ w c' y, Plan f st rs top w → Jar c' y → c' ≤ c + 72 → Q (.lst false (wL st.length w)) (C1.set k y)) : callK 1 kf1 P_Lw_plan [.ptr k, pd, .int top] C1 Q := by
  refine callJ (k := k) (es' := [pil true f st rs, .int top]) hk hx hv ?_ mono_plan
  exact ⟨true, f, st, rs, top, c, x, rfl, rfl, hx, hc, hp, ht, fun w c' y hw hy hc' => ⟨y, c', rfl, hy, np_wL, q w c' y hw hy hc'⟩⟩
end ST
end L3
namespace L3
namespace ST
open PySem PySem.Spec PyProof.Rows L2
open T0
open PN (lc_of)
inductive Se : Nat → D → D → Prop
  | int {k : Nat} {n : Int} : Se k (.int n) (.int n)
  | str {k : Nat} {s : Str} : Se k (.str s) (.str s)
  | non {k : Nat} : Se k .non .non
  | lst {k : Nat} {o o' : Bool} {xs ys : List D} : xs.length = ys.length → ys.length ≤ 10000 → (∀ (i : Nat) (x y : D), xs[i]? = some x → ys[i]? = some y → Se k x y) → Se (k + 1) (.lst o xs) (.lst o' ys)
  | tup {k : Nat} {xs ys : List D} : xs.length = ys.length → ys.length ≤ 10000 → (∀ (i : Nat) (x y : D), xs[i]? = some x → ys[i]? = some y → Se k x y) → Se (k + 1) (.tup xs) (.tup ys)
theorem Se.view {k : Nat} {x y : D} (s : Se k x y) {h h' : Bool → Bool} {g g' : Nat → D} : Se k (mapW h g x) (mapW h' g' y) := by
  induction s with
  | int => exact .int
  | str => exact .str
  | non => exact .non
  | lst e hl _ ih =>
    refine .lst (by rw [PN.mapWs_len, PN.mapWs_len, e]) (by rw [PN.mapWs_len]; exact hl) fun i x y e1 e2 => ?_
    obtain ⟨x', f1, rfl⟩ := PN.mapWs_get e1
    obtain ⟨y', f2, rfl⟩ := PN.mapWs_get e2
    exact ih i x' y' f1 f2
  | tup e hl _ ih =>
    refine .tup (by rw [PN.mapWs_len, PN.mapWs_len, e]) (by rw [PN.mapWs_len]; exact hl) fun i x y e1 e2 => ?_
    obtain ⟨x', f1, rfl⟩ := PN.mapWs_get e1
    obtain ⟨y', f2, rfl⟩ := PN.mapWs_get e2
    exact ih i x' y' f1 f2
theorem Se_np {k : Nat} {x y : D} (s : Se k x y) : noptr x = true ∧ noptr y = true := by
  have key : ∀ {xs ys : List D}, xs.length = ys.length → (∀ (i : Nat) (x y : D), xs[i]? = some x → ys[i]? = some y → noptr x = true ∧ noptr y = true) → noptrs xs = true ∧ noptrs ys = true := fun {xs ys} e h => by
    refine ⟨noptrs_all fun x hx => ?_, noptrs_all fun y hy => ?_⟩
    · obtain ⟨i, hi, rfl⟩ := List.mem_iff_getElem.mp hx
      exact (h i _ _ (List.getElem?_eq_getElem hi) (List.getElem?_eq_getElem (by omega))).1
    · obtain ⟨i, hi, rfl⟩ := List.mem_iff_getElem.mp hy
      exact (h i _ _ (List.getElem?_eq_getElem (by omega)) (List.getElem?_eq_getElem hi)).2
  induction s with
  | int => exact ⟨rfl, rfl⟩
  | str => exact ⟨rfl, rfl⟩
  | non => exact ⟨rfl, rfl⟩
  | lst e hl _ ih =>
    have := key e ih
    exact ⟨by simp [noptr, this.1], by simp [noptr, this.2]⟩
  | tup e hl _ ih =>
    have := key e ih
    exact ⟨by simp [noptr, this.1], by simp [noptr, this.2]⟩
def P_se (k : Nat) : PV := fun ds C Q => ∃ x y, ds = [x, y] ∧ Se k x y ∧ Q (.bl true) C
theorem v_se {P : PV} (k : Nat) (hP : ∀ j, k = j + 1 → P = P_se j) (ds : List D) (C : Store) (Q3 : D → Store → Prop) (h : P_se k ds C Q3) (hC : C.length = 0) : T_Lw_same P (enF 0 Q3) (start3 N_Lw_same ds) C := by
  obtain ⟨x, y, rfl, s, q⟩ := h
  rw [List.length_eq_zero_iff] at hC
  subst hC
  have hz := sizeL
  have tr : ∀ l : List (D × D), (l.map fun _ => true).all (fun b => b) = true := fun n => by simp
  have hnp := Se_np s
  cases s with
  | @int _ n =>
    refine ⟨_, rfl, .int, rfl, _, rfl, ?_⟩
    refine goF rfl ?_
    refine ⟨_, rfl, rfl, false, rfl, _, rfl, ?_⟩
    refine goF rfl ?_
    refine ⟨_, rfl, rfl, false, rfl, _, rfl, ?_⟩
    refine goF rfl ?_
    refine ⟨_, rfl, .int, rfl, _, rfl, ?_⟩
    refine goF rfl ?_
    refine ⟨_, rfl, .int, rfl, _, rfl, ?_⟩
    refine goF rfl ?_
    refine ⟨_, rfl, .int, rfl, _, rfl, .int, rfl, _, rfl, ?_⟩
    refine goT rfl ?_
    refine ⟨_, rfl, _, rfl, ?_⟩
    show Q3 (.bl (false != decide (n = n))) []
    rw [decide_eq_true rfl]
    exact q
  | @str _ s =>
    refine ⟨_, rfl, .str, rfl, _, rfl, ?_⟩
    refine goF rfl ?_
    refine ⟨_, rfl, rfl, false, rfl, _, rfl, ?_⟩
    refine goF rfl ?_
    refine ⟨_, rfl, rfl, false, rfl, _, rfl, ?_⟩
    refine goF rfl ?_
    refine ⟨_, rfl, .str, rfl, _, rfl, ?_⟩
    refine goF rfl ?_
    refine ⟨_, rfl, .str, rfl, _, rfl, ?_⟩
    refine goF rfl ?_
    refine ⟨_, rfl, .str, rfl, _, rfl, .str, rfl, _, rfl, ?_⟩
    refine goT rfl ?_
    refine ⟨_, rfl, _, rfl, ?_⟩
    show Q3 (.bl (false != decide (s = s))) []
    rw [decide_eq_true rfl]
    exact q
  | @non _ =>
    refine ⟨_, rfl, .non, rfl, _, rfl, ?_⟩
    refine goF rfl ?_
    refine ⟨_, rfl, rfl, true, rfl, _, rfl, ?_⟩
    refine goT rfl ?_
    refine ⟨_, rfl, rfl, true, rfl, true, rfl, ?_⟩
    rw [if_pos rfl]
    refine ⟨_, rfl, rfl, true, rfl, ?_⟩
    exact q
  | @lst j o o' xs ys e hl ih =>
    refine ⟨_, rfl, .list, rfl, _, rfl, ?_⟩
    refine goT rfl ?_
    refine ⟨_, rfl, .list, rfl, _, rfl, .list, rfl, _, rfl, ?_⟩
    refine goF rfl ?_
    refine ⟨_, rfl, .list, rfl, _, rfl, .list, rfl, _, rfl, ?_⟩
    refine goF rfl ?_
    refine ⟨_, rfl, _, _, rfl, rfl, _, rfl, _, _, rfl, rfl, _, rfl, ?_⟩
    refine goT (by rw [eqN, decide_eq_true (by rw [e])]) ?_
    refine ⟨_, rfl, _, rfl, _, _, xs, ys, rfl, .inl ⟨rfl, rfl⟩, ?_, ?_⟩
    · simpa [noptr] using hnp
    rw [zipD_zip]
    refine lc_of (xs.zip ys) _ (fun _ => .bl true) (fun _ h => by simp [srcOf] at h) (by rw [List.length_zip]; omega) (fun z hz' R hR => ?_) ?_
    · obtain ⟨i, hi⟩ := List.mem_iff_getElem?.mp hz'
      obtain ⟨h1, h2⟩ := List.getElem?_zip_eq_some.mp hi
      refine ⟨_, rfl, rfl, _, _, rfl, _, _, rfl, rfl, ?_⟩
      refine ⟨_, rfl, _, rfl, ?_⟩
      rw [hP j rfl]
      exact ⟨_, _, rfl, (ih i _ _ h1 h2).view, rfl, hR⟩
    refine ⟨_, (xs.zip ys).map fun _ => true, rfl, by simp [lstOf, Cell.frz], ?_⟩
    show Q3 (.bl (((xs.zip ys).map fun _ => true).all fun b => b)) []
    rw [tr]
    exact q
  | @tup j xs ys e hl ih =>
    refine ⟨_, rfl, .tuple, rfl, _, rfl, ?_⟩
    refine goT rfl ?_
    refine ⟨_, rfl, .tuple, rfl, _, rfl, .tuple, rfl, _, rfl, ?_⟩
    refine goF rfl ?_
    refine ⟨_, rfl, .tuple, rfl, _, rfl, .tuple, rfl, _, rfl, ?_⟩
    refine goF rfl ?_
    refine ⟨_, rfl, _, _, rfl, rfl, _, rfl, _, _, rfl, rfl, _, rfl, ?_⟩
    refine goT (by rw [eqN, decide_eq_true (by rw [e])]) ?_
    refine ⟨_, rfl, _, rfl, _, _, xs, ys, rfl, .inr ⟨rfl, rfl⟩, ?_, ?_⟩
    · simpa [noptr] using hnp
    rw [zipD_zip]
    refine lc_of (xs.zip ys) _ (fun _ => .bl true) (fun _ h => by simp [srcOf] at h) (by rw [List.length_zip]; omega) (fun z hz' R hR => ?_) ?_
    · obtain ⟨i, hi⟩ := List.mem_iff_getElem?.mp hz'
      obtain ⟨h1, h2⟩ := List.getElem?_zip_eq_some.mp hi
      refine ⟨_, rfl, rfl, _, _, rfl, _, _, rfl, rfl, ?_⟩
      refine ⟨_, rfl, _, rfl, ?_⟩
      rw [hP j rfl]
      exact ⟨_, _, rfl, (ih i _ _ h1 h2).view, rfl, hR⟩
    refine ⟨_, (xs.zip ys).map fun _ => true, rfl, by simp [lstOf, Cell.frz], ?_⟩
    show Q3 (.bl (((xs.zip ys).map fun _ => true).all fun b => b)) []
    rw [tr]
    exact q
abbrev P_se0 : PV := P_se 0
abbrev P_se1 : PV := P_se 1
abbrev P_se2 : PV := P_se 2
theorem v_se0 (ds : List D) (C : Store) (Q3 : D → Store → Prop) (h : P_se0 ds C Q3) (hC : C.length = 0) : T_Lw_same P_never (enF 0 Q3) (start3 N_Lw_same ds) C := v_se 0 (fun j e => by cases e) ds C Q3 h hC
theorem v_se1 (ds : List D) (C : Store) (Q3 : D → Store → Prop) (h : P_se1 ds C Q3) (hC : C.length = 0) : T_Lw_same P_se0 (enF 0 Q3) (start3 N_Lw_same ds) C := v_se 1 (fun j e => by cases e; rfl) ds C Q3 h hC
theorem v_se2 (ds : List D) (C : Store) (Q3 : D → Store → Prop) (h : P_se2 ds C Q3) (hC : C.length = 0) : T_Lw_same P_se1 (enF 0 Q3) (start3 N_Lw_same ds) C := v_se 2 (fun j e => by cases e; rfl) ds C Q3 h hC
end ST
end L3
namespace L3
namespace ST
open PySem PySem.Spec PyProof.Rows L2
open T0
theorem key_e {o : Bool} {ks : List Nat} {b : Nat → Int} {i : Nat} {Γ : Slots} {C : Store} {Q : List D → List Nat → Store → Prop} (hi : Γ[i]? = some (some (tB o ks b))) (q : Q (ks.map nD) [] C) : iKk i Γ C Q := by
  refine ⟨o, ks.map iK, _, hi, ?_⟩
  rw [List.map_map]
  exact q
end ST
end L3
namespace L3
namespace ST
open PySem PySem.Spec PyProof.Rows L2
end ST
end L3
namespace L3
namespace ST
open PySem PySem.Spec PyProof.Rows L2
open T0
def nearW (n : Nat) (up dn w : Nat → Int) : Nat → Int := fun j => max (up j) (min (dn j) (w j))
end ST
end L3
namespace L3
namespace ST
open PySem PySem.Spec PyProof.Rows L2
open T0
structure Okb (v hi : Nat → Int) (B : Sp) (ks : List Nat) (b : Nat → Int) : Prop where
  alone : ∀ k, k ∈ ks → v k ≤ b k ∧ b k ≤ hi k ∧ (b k - v k) % 2 = 0
  both : ∀ p, p ∈ ks → ∀ q, q ∈ ks → ∀ s, B p q = some s → b p + s ≤ b q
theorem alone_no {low high b : Nat → Int} {p : Nat} : aloneB low high b p = false ↔ low p ≤ b p ∧ b p ≤ high p ∧ (b p - low p) % 2 = 0 := by
  unfold aloneB
  simp only [Bool.or_eq_false_iff, Bool.not_eq_false', Bool.and_eq_true, decide_eq_true_eq, decide_eq_false_iff_not]
  omega
theorem both_no {B : Sp} {b : Nat → Int} {z : Nat × Nat} : bothB B b z = false ↔ ∀ s, B z.1 z.2 = some s → b z.1 + s ≤ b z.2 := by
  unfold bothB
  cases h : B z.1 z.2 with
  | none => simp
  | some s =>
    simp only [decide_eq_false_iff_not, Option.some.injEq, forall_eq']
    omega
theorem bar_non {low high b : Nat → Int} {B : Sp} {n : Nat} {ks : List Nat} (hT : Told n ks b) : barD low high B b (srtK n ks) = .non ↔ Okb low high B ks b := by
  constructor
  · intro h
    unfold barD at h
    cases h1 : (srtK n ks).find? (aloneB low high b) with
    | some p => rw [h1] at h; cases h
    | none =>
      rw [h1] at h
      cases h2 : (prs (srtK n ks)).find? (bothB B b) with
      | some z => rw [h2] at h; cases h
      | none =>
        have a1 := List.find?_eq_none.mp h1
        have a2 := List.find?_eq_none.mp h2
        refine ⟨fun k hk => alone_no.mp (by simpa using a1 k ((srtK_mem hT).mpr hk)), fun p hp q hq => (both_no (z := (p, q))).mp ?_⟩
        have := a2 (p, q) (List.mem_flatMap.mpr ⟨p, (srtK_mem hT).mpr hp, List.mem_map.mpr ⟨q, (srtK_mem hT).mpr hq, rfl⟩⟩)
        simpa using this
  · intro h
    exact barD_none (fun k hk => alone_no.mpr (h.alone k ((srtK_mem hT).mp hk))) fun p hp q hq => both_no.mpr (h.both p ((srtK_mem hT).mp hp) q ((srtK_mem hT).mp hq))
section
variable {f st : Str} {rs : List (Int × Int)} {B : Sp} {top : Int} {v u w b : Nat → Int} {ks : List Nat}
structure Ends (f st : Str) (rs : List (Int × Int)) (top : Int) (v u : Nat → Int) : Prop where
  hp : Pil f st rs
  ht : Most f st rs top
  V : PFix f st rs v
  U : OFix st rs u
theorem Ends.pv (E : Ends f st rs top v u) : Plan f st rs top v := by
  obtain ⟨m, M⟩ := wMax E.hp.pos v
  exact plan_v E.hp E.V M (E.ht.2 v m E.V M)
theorem Ends.pl (E : Ends f st rs top v u) : Plan f st rs top (late top v u) := by
  obtain ⟨m, M⟩ := wMax E.hp.pos v
  exact plan_late E.hp E.V E.U M (E.ht.2 v m E.V M)
theorem Ends.low (E : Ends f st rs top v u) (W : Plan f st rs top w) : ∀ j, j < st.length → v j ≤ w j := plan_low E.hp E.V W
theorem Ends.high (E : Ends f st rs top v u) (W : Plan f st rs top w) : ∀ j, j < st.length → w j ≤ late top v u j := by
  intro j hj
  exact plan_up E.hp E.V E.U W j hj
theorem Ends.two (E : Ends f st rs top v u) {j : Nat} (hj : j < st.length) : (v j - bsOf f st j) % 2 = 0 := fix_par' E.hp E.V hj
theorem Okb.par (E : Ends f st rs top v u) (hT : Told st.length ks b) (h : Okb v (late top v u) B ks b) : ∀ k, k ∈ ks → (b k - bsOf f st k) % 2 = 0 := fun k hk => by
  have h1 := (h.alone k hk).2.2
  have h2 := E.two (hT.lt k hk)
  omega
theorem Okb.up (E : Ends f st rs top v u) (hB : SpB st rs B) (hT : Told st.length ks b) (h : Okb v (late top v u) B ks b) : Plan f st rs top (upS v b ks B) ∧ ∀ k, k ∈ ks → upS v b ks B k = b k := by
  refine ⟨upS_plan E.hp hB hT.lt E.pv E.pl (fun j hj => E.high E.pv j hj) (fun k hk => (h.alone k hk).2.1) (h.par E hT), fun k hk => ?_⟩
  have h1 := upS_k (v := v) (g := b) hk (hB.own E.hp (hT.lt k hk))
  rcases upS_cases v b ks B k with e | ⟨p, hp, s, hs, e⟩
  · have := (h.alone k hk).1
    omega
  · have := h.both p hp k hk s hs
    omega
theorem Okb.dn (E : Ends f st rs top v u) (hB : SpB st rs B) (hT : Told st.length ks b) (h : Okb v (late top v u) B ks b) : Plan f st rs top (dnS (late top v u) b ks B) ∧ ∀ k, k ∈ ks → dnS (late top v u) b ks B k = b k := by
  refine ⟨dnS_plan E.hp hB E.pl E.pv (fun j hj => E.high E.pv j hj) (fun k hk => (h.alone k hk).1) (h.par E hT), fun k hk => ?_⟩
  have h1 := dnS_k (v := late top v u) (g := b) hk (hB.own E.hp (hT.lt k hk))
  rcases dnS_cases (late top v u) b ks B k with e | ⟨p, hp, s, hs, e⟩
  · have := (h.alone k hk).2.1
    omega
  · have := h.both k hk p hp s hs
    omega
theorem le_dn (E : Ends f st rs top v u) (hB : SpB st rs B) (W : Plan f st rs top w) (hw : ∀ k, k ∈ ks → w k = b k) {j : Nat} (hj : j < st.length) : w j ≤ dnS (late top v u) b ks B j :=
  dnS_most E.hp hB W (E.high W) (fun k hk => by rw [hw k hk]; exact Int.le_refl _) hj
theorem Okb.of (E : Ends f st rs top v u) (hB : SpB st rs B) (hT : Told st.length ks b) (W : Plan f st rs top w) (hw : ∀ k, k ∈ ks → w k = b k) : Okb v (late top v u) B ks b := by
  refine ⟨fun k hk => ?_, fun p hp q hq s hs => ?_⟩
  · have hk' := hT.lt k hk
    have h1 := E.low W k hk'
    have h2 := E.high W k hk'
    have h3 := (W.blk k hk').2.2
    have h4 := E.two hk'
    rw [hw k hk] at h1 h2 h3
    omega
  · have := hB.led E.hp W (hT.lt p hp) hs
    rw [hw p hp, hw q hq] at this
    exact this
theorem okb_iff (E : Ends f st rs top v u) (hB : SpB st rs B) (hT : Told st.length ks b) : Okb v (late top v u) B ks b ↔ ∃ w, Plan f st rs top w ∧ ∀ k, k ∈ ks → w k = b k :=
  ⟨fun h => ⟨_, h.up E hB hT⟩, fun ⟨w, W, hw⟩ => Okb.of E hB hT W hw⟩
theorem Okb.le (E : Ends f st rs top v u) (hB : SpB st rs B) (hT : Told st.length ks b) (h : Okb v (late top v u) B ks b) {j : Nat} (hj : j < st.length) : upS v b ks B j ≤ dnS (late top v u) b ks B j := by
  obtain ⟨P, hw⟩ := h.up E hB hT
  exact le_dn E hB P hw hj
theorem Okb.near (E : Ends f st rs top v u) (hB : SpB st rs B) (hT : Told st.length ks b) (h : Okb v (late top v u) B ks b) (W : Plan f st rs top w) : Plan f st rs top (nearW st.length (upS v b ks B) (dnS (late top v u) b ks B) w) ∧ ∀ k, k ∈ ks → nearW st.length (upS v b ks B) (dnS (late top v u) b ks B) w k = b k := by
  obtain ⟨P1, w1⟩ := h.up E hB hT
  obtain ⟨P2, w2⟩ := h.dn E hB hT
  refine ⟨⟨fun j hj => ?_, fun z hz => ?_⟩, fun k hk => ?_⟩
  · obtain ⟨a1, a2, a3⟩ := P1.blk j hj
    obtain ⟨b1, b2, b3⟩ := P2.blk j hj
    obtain ⟨c1, c2, c3⟩ := W.blk j hj
    unfold nearW
    omega
  · have h1 := P1.led z hz
    have h2 := P2.led z hz
    have h3 := W.led z hz
    unfold nearW
    omega
  · have h1 := w1 k hk
    have h2 := w2 k hk
    unfold nearW
    omega
end
end ST
end L3
namespace L3
namespace ST
open PySem PySem.Spec PyProof.Rows L2
open T0
def hasB (ks : List Nat) (b : Nat → Int) (l : List Int) : Bool := decide (∀ k, k ∈ ks → l.getD k 0 = b k)
theorem has_e {n x c it : Nat} {o o2 : Bool} {l : List Int} {ks : List Nat} {b : Nat → Int} {Γ : Slots} {C : Store} {R : Bool → Store → Prop} (hl : l.length = n) (hT : Told n ks b) (h24 : n ≤ 24) (ht : (wipe3 Γ [c])[it]? = some (some (tB o ks b)) ∧ Γ[it]? = some (some (tB o ks b)))
    (h1 : ∀ a : D, ((wipe3 Γ [c]).set c (some a))[x]? = some (some (.lst o2 (l.map .int)))) (h2 : ∀ a : D, ((wipe3 Γ [c]).set c (some a))[it]? = some (some (tB o ks b))) (h3 : ∀ a : D, ((wipe3 Γ [c]).set c (some a))[c]? = some (some a)) (q : R (hasB ks b l) C) :
    bB (eBin (oEq false) (eFrz (fLc [c] (iKk it) (gvName c) (bB (eBin (oEq true) (eBin oIxL (eVar x) (eVar c)) (eDGet (eVar it) (eVar c)))) (eVar c))) (eFrz (fLst aNil))) Γ C R := by
  have hz := sizeL
  have hln := hT.len
  rw [u_bB, u_eBin, u_eFrz]
  refine key_e (o := o) (b := b) (ks := ks) ht.2 ?_
  refine PN.lc_ofF ks nD nD (fun k => decide (l.getD k 0 ≠ b k)) (fun _ h => by simp [srcOf] at h) (by omega) (fun k hk R1 R2 g1 g2 => ?_) ?_
  · have hkn := hT.lt k hk
    rw [u_gvName]
    refine ⟨_, h1 _, _, h3 _, _, _, _, rfl, rfl, ints_at (a := l.getD k 0) ?_, ?_⟩
    · rw [List.getD_eq_getElem?_getD, List.getElem?_eq_getElem (by omega)]; rfl
    refine tB_get (n := n) (h2 _) (h3 _) hk ?_
    refine ⟨_, rfl, ?_⟩
    by_cases e : l.getD k 0 = b k
    · exact goF (by rw [decide_eq_true e]; rfl) (g2 (decide_eq_false fun h => h e))
    · refine goT (by rw [decide_eq_false e]; rfl) ?_
      exact ⟨_, h3 _, g1 (decide_eq_true e)⟩
  · refine ⟨le5 _ (by simp), ?_⟩
    have e1 : ((ks.filter fun k => decide (l.getD k 0 ≠ b k)).map nD) = ((ks.filter fun k => decide (l.getD k 0 ≠ b k)).map fun k : Nat => (k : Int)).map .int := by rw [List.map_map]; rfl
    show oEq false C (.lst false ((ks.filter fun k => decide (l.getD k 0 ≠ b k)).map nD)) (.lst false (([] : List Int).map .int)) _
    rw [e1]
    refine oEq_ints ?_
    refine ⟨_, rfl, ?_⟩
    have e2 : (false != decide ((ks.filter fun k => decide (l.getD k 0 ≠ b k)).map (fun k : Nat => (k : Int)) = [])) = hasB ks b l := by
      rw [eqN]
      unfold hasB
      refine decide_eq_decide.mpr ?_
      rw [List.map_eq_nil_iff, List.filter_eq_nil_iff]
      constructor
      · intro h k hk
        have h1 := h k hk
        rw [decide_eq_true_eq] at h1
        exact Classical.not_not.mp h1
      · intro h k hk h1
        rw [decide_eq_true_eq] at h1
        exact h1 (h k hk)
    rw [e2]
    exact q
theorem allP_size5 {f st : Str} {rs : List (Int × Int)} {top : Int} (hn : st.length ≤ 5) (h : top ≤ 10) : (allP f st rs top).length ≤ 7776 := by
  have htm : top + 2 ≤ 2 * ((6 : Nat) : Int) := by omega
  have h1 := plansK_size (f := f) (st := st) htm st.length
  have h2 : 6 ^ st.length ≤ 6 ^ 5 := Nat.pow_le_pow_right (by decide) hn
  have h3 : 6 ^ 5 = 7776 := by decide
  have := List.length_filter_le (ledB rs) (plansK f st top st.length)
  unfold allP
  omega
theorem np_rDs {ls : List (List Int)} : (noold (.lst false (ls.map rD)) && noptr (.lst false (ls.map rD))) = true := by
  have h1 := np_rD ls
  have h2 : okWs (fun o => !o) (ls.map rD) = true := by
    induction ls with
    | nil => rfl
    | cons l ls ih =>
      rw [List.map_cons, okWs, ih (np_rD ls), Bool.and_true, rD]
      have := np_ints (o := false) (ns := l)
      simp only [Bool.and_eq_true] at this
      exact this.1
  simp only [noold, okW, noptr, h1, h2]
  rfl
section
variable {f st : Str} {rs : List (Int × Int)} {B : Sp} {top : Int} {v u w b : Nat → Int} {ks : List Nat}
def someP (f st : Str) (rs : List (Int × Int)) (top : Int) (ks : List Nat) (b : Nat → Int) : List (List Int) := (allP f st rs top).filter (hasB ks b)
theorem someP_mem {l : List Int} : l ∈ someP f st rs top ks b ↔ l.length = st.length ∧ Plan f st rs top (fun j => l.getD j 0) ∧ ∀ k, k ∈ ks → l.getD k 0 = b k := by
  unfold someP
  rw [List.mem_filter, allP_plan]
  unfold hasB
  rw [decide_eq_true_eq, and_assoc]
theorem someP_asL (hp : Pil f st rs) (hT : Told st.length ks b) (W : Plan f st rs top w) (hw : ∀ k, k ∈ ks → w k = b k) : asL st.length w ∈ someP f st rs top ks b := by
  unfold someP
  rw [List.mem_filter]
  refine ⟨asL_mem hp W, ?_⟩
  unfold hasB
  rw [decide_eq_true_eq]
  intro k hk
  rw [asL_get (hT.lt k hk), hw k hk]
theorem someP_ne (E : Ends f st rs top v u) (hB : SpB st rs B) (hT : Told st.length ks b) : someP f st rs top ks b ≠ [] ↔ Okb v (late top v u) B ks b := by
  rw [okb_iff E hB hT]
  constructor
  · intro h
    obtain ⟨l, hl⟩ := List.exists_mem_of_ne_nil _ h
    obtain ⟨_, P, hw⟩ := someP_mem.mp hl
    exact ⟨_, P, hw⟩
  · rintro ⟨w, W, hw⟩
    exact List.ne_nil_of_mem (someP_asL E.hp hT W hw)
end
end ST
end L3
namespace L3
namespace ST
open PySem PySem.Spec PyProof.Rows L2
open T0
theorem way_rk {st : Str} {rs : List (Int × Int)} {rk : Int → Nat} (h : ∀ z, z ∈ rs → rk z.1 < rk z.2) {p q m : Int} (w : Way st rs p q m) : p = q ∨ rk p < rk q := by
  induction w with
  | nil => exact .inl rfl
  | snoc _ hz ih =>
    have := h _ hz
    rcases ih with e | e
    · subst e; exact .inr this
    · exact .inr (Nat.lt_trans e this)
section
variable {f st : Str} {rs : List (Int × Int)} {B : Sp} {top : Int} {v u b : Nat → Int} {ks : List Nat}
theorem sp_anti (hp : Pil f st rs) (hB : SpB st rs B) {p q : Nat} (hpn : p < st.length) (hqn : q < st.length) (hne : p ≠ q) {s : Int} (h : B p q = some s) : B q p = none := by
  obtain ⟨rk, hr⟩ := hp.acy
  have h1 := hB p q hpn
  rw [h] at h1
  cases e : B q p with
  | none => rfl
  | some s2 =>
    have h2 := hB q p hqn
    rw [e] at h2
    rcases way_rk hr h1.1 with a | a
    · omega
    · rcases way_rk hr h2.1 with c | c <;> omega
theorem sp_self (hp : Pil f st rs) (hB : SpB st rs B) {p : Nat} (hpn : p < st.length) {s : Int} (h : B p p = some s) : s = 0 := by
  obtain ⟨rk, hr⟩ := hp.acy
  have h1 := hB p p hpn
  rw [h] at h1
  have key : ∀ {x y m : Int}, Way st rs x y m → x = y → m = 0 := by
    intro x y m w e
    cases w with
    | nil => rfl
    | snoc w' hz =>
      have h2 := hr _ hz
      simp only at h2
      subst e
      rcases way_rk hr w' with a | a
      · rw [← a] at h2; omega
      · omega
  exact key h1.1 rfl
theorem one_in (E : Ends f st rs top v u) (hB : SpB st rs B) (hT : Told st.length ks b) {k : Nat} (hk : k ∈ ks) : (∃ w, Plan f st rs top w ∧ w k = b k) ↔ aloneB v (late top v u) b k = false := by
  have hT1 : Told st.length [k] b := ⟨by simp, fun j hj => by simp at hj; subst hj; exact hT.lt j hk, fun j hj => by simp at hj; subst hj; exact hT.bd j hk⟩
  have := okb_iff E hB hT1
  constructor
  · rintro ⟨w, W, e⟩
    exact alone_no.mpr ((this.mpr ⟨w, W, fun j hj => by simp at hj; subst hj; exact e⟩).alone k (by simp))
  · intro h
    obtain ⟨w, W, e⟩ := this.mp ⟨fun j hj => by simp at hj; subst hj; exact alone_no.mp h, fun p hp q hq s hs => by
      simp at hp hq
      subst hp
      subst hq
      have := sp_self E.hp hB (hT.lt _ hk) hs
      omega⟩
    exact ⟨w, W, e k (by simp)⟩
theorem two_in (E : Ends f st rs top v u) (hB : SpB st rs B) (hT : Told st.length ks b) {p q : Nat} (hpk : p ∈ ks) (hqk : q ∈ ks) (hne : p ≠ q) (hp1 : aloneB v (late top v u) b p = false) (hq1 : aloneB v (late top v u) b q = false) {s : Int} (hs : B p q = some s) :
    (∃ w, Plan f st rs top w ∧ w p = b p ∧ w q = b q) ↔ bothB B b (p, q) = false := by
  have hT1 : Told st.length [p, q] b := ⟨by simp [hne], fun j hj => by simp at hj; (rcases hj with rfl | rfl; exact hT.lt _ hpk; exact hT.lt _ hqk), fun j hj => by simp at hj; (rcases hj with rfl | rfl; exact hT.bd _ hpk; exact hT.bd _ hqk)⟩
  have := okb_iff E hB hT1
  constructor
  · rintro ⟨w, W, e1, e2⟩
    exact both_no.mpr ((this.mpr ⟨w, W, fun j hj => by simp at hj; (rcases hj with rfl | rfl; exact e1; exact e2)⟩).both p (by simp) q (by simp))
  · intro h
    have h' := both_no.mp h
    obtain ⟨w, W, e⟩ := this.mp ⟨fun j hj => by simp at hj; (rcases hj with rfl | rfl; exact alone_no.mp hp1; exact alone_no.mp hq1), fun x hx y hy s' hs' => by
      simp at hx hy
      rcases hx with rfl | rfl <;> rcases hy with rfl | rfl
      · have := sp_self E.hp hB (hT.lt _ hpk) hs'; omega
      · exact h' s' hs'
      · rw [sp_anti E.hp hB (hT.lt _ hpk) (hT.lt _ hqk) hne hs] at hs'; cases hs'
      · have := sp_self E.hp hB (hT.lt _ hqk) hs'; omega⟩
    exact ⟨w, W, e p (by simp), e q (by simp)⟩
theorem one_mem (E : Ends f st rs top v u) (hB : SpB st rs B) (hT : Told st.length ks b) {k : Nat} (hk : k ∈ ks) : b k ∈ (allP f st rs top).map (fun l => l.getD k 0) ↔ aloneB v (late top v u) b k = false := by
  rw [← one_in E hB hT hk, List.mem_map]
  constructor
  · rintro ⟨l, hl, e⟩
    exact ⟨_, (allP_plan.mp hl).2, e⟩
  · rintro ⟨w, W, e⟩
    exact ⟨_, asL_mem E.hp W, by rw [asL_get (hT.lt k hk)]; exact e⟩
theorem two_mem (E : Ends f st rs top v u) (hB : SpB st rs B) (hT : Told st.length ks b) {p q : Nat} (hpk : p ∈ ks) (hqk : q ∈ ks) (hne : p ≠ q) (hp1 : aloneB v (late top v u) b p = false) (hq1 : aloneB v (late top v u) b q = false) {s : Int} (hs : B p q = some s) :
    (b p, b q) ∈ (allP f st rs top).map (fun l => (l.getD p 0, l.getD q 0)) ↔ bothB B b (p, q) = false := by
  rw [← two_in E hB hT hpk hqk hne hp1 hq1 hs, List.mem_map]
  constructor
  · rintro ⟨l, hl, e⟩
    simp only [Prod.mk.injEq] at e
    exact ⟨_, (allP_plan.mp hl).2, e.1, e.2⟩
  · rintro ⟨w, W, e1, e2⟩
    exact ⟨_, asL_mem E.hp W, by rw [asL_get (hT.lt p hpk), asL_get (hT.lt q hqk), e1, e2]⟩
end
end ST
end L3
namespace L3
namespace ST
open PySem PySem.Spec PyProof.Rows L2
open T0
theorem views_dtF {C : Store} {o : Bool} {L : List (Int × Int)} {F : Int × Int → Int} {ds : List D} : views [] C (.dt o (L.map kP) (L.map (fD F)) :: ds) = .dt true (L.map kP) (L.map (fD F)) :: views [] C ds := by
  unfold views
  have f : flatDs (L.map (fD F)) = true := by
    induction L with
    | nil => rfl
    | cons z L ih => simp only [List.map_cons, flatDs, ih, Bool.and_true]; rfl
  simp only [mapWs, mapW, mapWs_flat f]
theorem Se.atm {k : Nat} {l : List D} (h : ∀ d, d ∈ l → (∃ i, d = .int i) ∨ ∃ s, d = .str s) (hl : l.length ≤ 10000) : Se (k + 1) (.tup l) (.tup l) := .tup rfl hl fun i x y e1 e2 => by
  rw [e1] at e2
  cases e2
  rcases h x (List.mem_of_getElem? e1) with ⟨i, rfl⟩ | ⟨s, rfl⟩
  · exact .int
  · exact .str
theorem Se.bar {k : Nat} {low high : Nat → Int} {B : Sp} {b : Nat → Int} {qs : List Nat} : Se (k + 1) (barD low high B b qs) (barD low high B b qs) := by
  rcases barD_cases low high B b qs with ⟨p, _, e⟩ | ⟨p, q, _, _, e⟩ | e <;> rw [e]
  · exact .atm (fun d hd => by simp only [List.mem_cons, List.not_mem_nil, or_false] at hd; rcases hd with rfl | rfl <;> first | exact .inr ⟨_, rfl⟩ | exact .inl ⟨_, rfl⟩) (by show 2 ≤ 10000; decide)
  · exact .atm (fun d hd => by simp only [List.mem_cons, List.not_mem_nil, or_false] at hd; rcases hd with rfl | rfl | rfl <;> first | exact .inr ⟨_, rfl⟩ | exact .inl ⟨_, rfl⟩) (by show 3 ≤ 10000; decide)
  · exact .non
end ST
end L3
namespace L3
namespace ST
open PySem PySem.Spec PyProof.Rows L2
open T0
end ST
end L3
namespace L3
namespace ST
open PySem PySem.Spec PyProof.Rows L2
open T0
theorem Se.two {k : Nat} {o o' : Bool} {a b a' b' : D} (h1 : Se k a a') (h2 : Se k b b') : Se (k + 1) (.lst o [a, b]) (.lst o' [a', b']) := .lst rfl (by show 2 ≤ 10000; decide) fun i x y e1 e2 => by
  match i with
  | 0 => cases e1; cases e2; exact h1
  | 1 => cases e1; cases e2; exact h2
  | i + 2 => simp at e1
end ST
end L3
namespace L3
namespace ST
open PySem PySem.Spec PyProof.Rows L2
open T0
theorem beh_in {L : List (Int × Int)} {F : Int × Int → Int} {z : Int × Int} : (tAt (kP z) (L.map kP) (L.map (fD F))).isSome = decide (z ∈ L) := by
  rw [tAt_far]
  by_cases h : z ∈ L <;> simp [h]
abbrev eO (b : Bool) (l : List Int) : D := .lst b (l.map .int)
theorem views_eO {C : Store} {o a : Bool} {ps : List (List Int)} {ds : List D} : views [] C (.lst o (ps.map (eO a)) :: ds) = .lst true (ps.map (eO true)) :: views [] C ds := by
  have e : ∀ ps : List (List Int), mapWs (fun _ => true) (viewG [] C 2) (ps.map (eO a)) = ps.map (eO true) := by
    intro ps
    induction ps with
    | nil => rfl
    | cons l ps ih => simp only [List.map_cons, mapWs, mapW, mapWs_ints, ih]
  unfold views
  rw [mapWs, mapW, e]
def P_Lw_by_plans : PV := fun ds C Q => ∃ (o o1 o3 o4 : Bool) (f st : Str) (rs : List (Int × Int)) (top : Int) (L : List (Int × Int)) (F : Int × Int → Int) (ks : List Nat) (b : Nat → Int), ds = [.lst o ((allP f st rs top).map (eO o4)), .dt o1 (L.map kP) (L.map (fD F)), tB o3 ks b] ∧ Pil f st rs ∧ Most f st rs top ∧ (allP f st rs top).length ≤ 7776 ∧ FarD st rs L F ∧ Told st.length ks b ∧
  ∀ v u, PFix f st rs v → OFix st rs u → Q (barD v (late top v u) (fB L F) b (srtK st.length ks)) C
theorem v_Lw_by_plans (ds : List D) (C : Store) (Q3 : D → Store → Prop) (h : P_Lw_by_plans ds C Q3) (hC : C.length = 0) : T_Lw_by_plans (enF 0 Q3) (start3 N_Lw_by_plans ds) C := by
  obtain ⟨o, o1, o3, o4, f, st, rs, top, L, F, ks, b, rfl, hp, ht, hsz, hF, hT, q⟩ := h
  rw [List.length_eq_zero_iff] at hC
  subst hC
  obtain ⟨v, V⟩ := hp.pfix
  obtain ⟨u, U⟩ := hp.ofix
  have E : Ends f st rs top v u := ⟨hp, ht, V, U⟩
  have q := q v u V U
  have hB := hF.spB
  have hz := sizeL
  have h24 := hp.top
  have hne := someP_ne E hB hT
  have h1m := fun {k : Nat} (hk : k ∈ ks) => one_mem E hB hT hk
  have h2m := fun {p q' : Nat} (hpk : p ∈ ks) (hqk : q' ∈ ks) (hne : p ≠ q') (hp1 : aloneB v (late top v u) b p = false) (hq1 : aloneB v (late top v u) b q' = false) {s : Int} (hs : fB L F p q' = some s) => two_mem E hB hT hpk hqk hne hp1 hq1 hs
  have hself := fun {p : Nat} (hpn : p < st.length) {s : Int} (hs : fB L F p p = some s) => sp_self hp hB hpn hs
  have hm := fun {k : Nat} => srtK_mem hT (k := k)
  have hon : barD v (late top v u) (fB L F) b (srtK st.length ks) = .non ↔ Okb v (late top v u) (fB L F) ks b := bar_non hT
  have hSl : ∀ l, l ∈ allP f st rs top → l.length = st.length := fun l hl => (allP_plan.mp hl).1
  have hsome : someP f st rs top ks b = (allP f st rs top).filter (hasB ks b) := rfl
  rw [hsome] at hne
  generalize allP f st rs top = S at *
  generalize hlate : late top v u = hi at *
  unfold T_Lw_by_plans
  rw [u_sSeq, u_sIf]
  -- some plan has them all
  rw [u_bB, u_eBin, u_eFrz]
  refine ⟨_, rfl, _, rfl, ?_⟩
  refine PN.lc_ofF S (eO o4) (fun _ => .int 1) (hasB ks b) (fun _ h => by simp [srcOf] at h) (by omega) (fun l hl R1 R2 g1 g2 => ?_) ?_
  · rw [u_gvName]
    refine has_e (n := st.length) (o := o3) (o2 := o4) (l := l) (ks := ks) (b := b) (hSl l hl) hT h24 ⟨rfl, rfl⟩ (fun _ => rfl) (fun _ => rfl) (fun _ => rfl) ?_
    cases hb : hasB ks b l with
    | true => exact goT rfl (g1 hb)
    | false => exact goF rfl (g2 hb)
  refine ⟨le5 _ (by simp), ?_⟩
  have e1 : ((S.filter (hasB ks b)).map fun _ => D.int 1) = ((S.filter (hasB ks b)).map fun _ => (1 : Int)).map .int := by rw [List.map_map]; rfl
  rw [e1]
  show oEq true [] (.lst false (((S.filter (hasB ks b)).map fun _ => (1 : Int)).map .int)) (.lst false (([] : List Int).map .int)) _
  refine oEq_ints ?_
  refine ⟨_, rfl, ?_⟩
  by_cases hS : S.filter (hasB ks b) = []
  case neg =>
    refine goT (by rw [decide_eq_false (by simpa using hS)]; rfl) ?_
    rw [u_sRet]
    show Q3 (fin 0 [] .non) (finS 0 [])
    rw [finS0]
    rw [hon.mpr (hne.mp hS)] at q
    exact q
  refine goF (by rw [decide_eq_true (by simp [hS])]; rfl) ?_
  rw [u_sNext]
  have hnO : ¬ Okb v hi (fB L F) ks b := fun h => hne.mpr h hS
  generalize eq : srtK st.length ks = qs at hm q
  have hql : ∀ k, k ∈ qs → k ∈ ks ∧ k < st.length := fun k hk => ⟨hm.mp hk, hT.lt k (hm.mp hk)⟩
  try dsimp only
  rw [u_sSeq]
  refine sort_e (o := o3) (b := b) rfl hT h24 ⟨_, rfl, rfl, np_nD _, ?_⟩
  rw [eq]
  refine forW_run (fun ds Γ C => ∃ (dn rest : List Nat), qs = dn ++ rest ∧ ds = rest.map nD ∧ C = [] ∧ (∀ y, y ∈ dn → aloneB v hi b y = false) ∧ ∃ x y z w a, Γ = [some (.lst o (S.map (eO o4))), some (.dt o1 (L.map kP) (L.map (fD F))), some (tB o3 ks b), x, y, z, w, a, none]) ?step ?stop _ _ _ ⟨[], qs, rfl, rfl, rfl, (fun y hy => by cases hy), _, _, _, _, _, rfl⟩
  case step =>
    rintro d ds Γ C ⟨dn, rest, e1, e2, rfl, hdn, x, y, z, w, a, rfl⟩ R hR
    cases rest with
    | nil => cases e2
    | cons p rest =>
    simp only [List.map_cons, List.cons.injEq] at e2
    obtain ⟨rfl, rfl⟩ := e2
    obtain ⟨hk, hn⟩ := hql p (by rw [e1]; simp)
    rw [u_gvName]
    try dsimp only
    rw [u_sIf, u_bB, u_eBin]
    refine tB_get (n := st.length) (o := o3) (ks := ks) (b := b) (k := p) rfl rfl hk ?_
    rw [u_eFrz]
    refine ⟨_, rfl, _, rfl, ?_⟩
    refine PN.lc_of S (eO o4) (fun l => .int (l.getD p 0)) (fun _ h => by simp [srcOf] at h) (by omega) (fun l hl R4 g2 => ?_) ?_
    · have hll := hSl l hl
      rw [u_gvName]
      refine ⟨_, rfl, _, rfl, _, _, _, rfl, rfl, ints_at (a := l.getD p 0) ?_, g2⟩
      rw [List.getD_eq_getElem?_getD, List.getElem?_eq_getElem (by omega)]; rfl
    have e3 : (S.map fun l => D.int (l.getD p 0)) = (S.map fun l => l.getD p 0).map .int := by rw [List.map_map]; rfl
    show oIn true _ (.int (b p)) (.lst false (S.map fun l => D.int (l.getD p 0))) _
    rw [e3]
    refine in_ints ?_
    refine ⟨_, rfl, ?_⟩
    cases ha : aloneB v hi b p with
    | true =>
      have : ¬ (b p ∈ S.map fun l => l.getD p 0) := fun h => by rw [(h1m hk).mp h] at ha; cases ha
      refine goT (by rw [decide_eq_false this]; rfl) ?_
      rw [u_sRet]
      refine ⟨_, rfl, le5 _ (by simp), ?_⟩
      show Q3 (fin 0 [] (.tup [.str "alone", nD p])) (finS 0 [])
      rw [finS0]
      rw [e1, barD_alone hdn ha] at q
      exact q
    | false =>
      refine goF (by rw [decide_eq_true ((h1m hk).mpr ha)]; rfl) ?_
      rw [u_sNext]
      refine hR _ _ ⟨dn ++ [p], rest, by rw [e1]; simp, rfl, rfl, fun y hy => ?_, _, _, _, _, _, rfl⟩
      rcases List.mem_append.mp hy with h | h
      · exact hdn y h
      · obtain rfl : y = p := by simpa using h
        exact ha
  case stop =>
    rintro Γ C ⟨dn, rest, e1, e2, rfl, hdn, x, y, z, w, a, rfl⟩
    cases rest with
    | cons p rest => cases e2
    | nil =>
    rw [List.append_nil] at e1
    subst e1
    try dsimp only
    rw [u_sSeq]
    refine sort_e (o := o3) (b := b) rfl hT h24 ⟨_, rfl, rfl, np_nD _, ?_⟩
    rw [eq]
    refine forW_run (fun ds Γ C => ∃ (dn rest : List Nat), qs = dn ++ rest ∧ ds = rest.map nD ∧ C = [] ∧ (∀ x, x ∈ dn → ∀ y, y ∈ qs → bothB (fB L F) b (x, y) = false) ∧ ∃ x y z w a c, Γ = [some (.lst o (S.map (eO o4))), some (.dt o1 (L.map kP) (L.map (fD F))), some (tB o3 ks b), x, y, z, w, a, c]) ?step2 ?stop2 _ _ _ ⟨[], qs, rfl, rfl, rfl, (fun y hy => by cases hy), _, _, _, _, _, _, rfl⟩
    case step2 =>
      rintro d ds Γ C ⟨dn, rest, e1, e2, rfl, hd1, x, y, z, w, a, c, rfl⟩ R hR
      cases rest with
      | nil => cases e2
      | cons p rest =>
      simp only [List.map_cons, List.cons.injEq] at e2
      obtain ⟨rfl, rfl⟩ := e2
      obtain ⟨hk, hn⟩ := hql p (by rw [e1]; simp)
      have hpa := hdn p (by rw [e1]; simp)
      rw [u_gvName]
      try dsimp only
      refine sort_e (o := o3) (b := b) rfl hT h24 ⟨_, rfl, rfl, np_nD _, ?_⟩
      rw [eq]
      refine forW_run (fun ds Γ C => ∃ (dn2 rest2 : List Nat), qs = dn2 ++ rest2 ∧ ds = rest2.map nD ∧ C = [] ∧ (∀ y, y ∈ dn2 → bothB (fB L F) b (p, y) = false) ∧ ∃ x y w a c, Γ = [some (.lst o (S.map (eO o4))), some (.dt o1 (L.map kP) (L.map (fD F))), some (tB o3 ks b), x, y, some (nD p), w, a, c]) ?step3 ?stop3 _ _ _ ⟨[], qs, rfl, rfl, rfl, (fun y hy => by cases hy), _, _, _, _, _, rfl⟩
      case step3 =>
        rintro d ds Γ C ⟨dn2, rest2, e3, e4, rfl, hd2, x, y, w, a, c, rfl⟩ R2 hR2
        cases rest2 with
        | nil => cases e4
        | cons r rest2 =>
        simp only [List.map_cons, List.cons.injEq] at e4
        obtain ⟨rfl, rfl⟩ := e4
        obtain ⟨hkr, hnr⟩ := hql r (by rw [e3]; simp)
        have hra := hdn r (by rw [e3]; simp)
        rw [u_gvName]
        try dsimp only
        rw [u_sSeq, u_sAsg, u_eTup, u_aCons]
        refine tB_get (n := st.length) (o := o3) (ks := ks) (b := b) (k := p) rfl rfl hk ?_
        rw [u_aCons]
        refine tB_get (n := st.length) (o := o3) (ks := ks) (b := b) (k := r) rfl rfl hkr ?_
        rw [u_aNil]
        refine ⟨le5 _ (by simp), ?_⟩
        try dsimp only
        rw [u_gvName, u_sSeq, u_sAsg, u_eFrz]
        refine ⟨_, rfl, _, rfl, ?_⟩
        refine PN.lc_of S (eO o4) (fun l => pD (l.getD p 0, l.getD r 0)) (fun _ h => by simp [srcOf] at h) (by omega) (fun l hl R4 g2 => ?_) ?_
        · have hll := hSl l hl
          rw [u_gvName]
          refine ⟨_, rfl, _, rfl, _, _, _, rfl, rfl, ints_at (a := l.getD p 0) ?_, _, rfl, _, rfl, _, _, _, rfl, rfl, ints_at (a := l.getD r 0) ?_, le5 _ (by simp), g2⟩
          · rw [List.getD_eq_getElem?_getD, List.getElem?_eq_getElem (by omega)]; rfl
          · rw [List.getD_eq_getElem?_getD, List.getElem?_eq_getElem (by omega)]; rfl
        have e5 : (S.map fun l => pD (l.getD p 0, l.getD r 0)) = (S.map fun l => (l.getD p 0, l.getD r 0)).map pD := by rw [List.map_map]; rfl
        rw [e5]
        try dsimp only
        rw [u_gvName, u_sIf]
        have next : bothB (fB L F) b (p, r) = false → R2 ([some (.lst o (S.map (eO o4))), some (.dt o1 (L.map kP) (L.map (fD F))), some (tB o3 ks b), x, y, some (nD p), some (nD r), some (.tup [.int (b p), .int (b r)]), some (.lst false ((S.map fun l => (l.getD p 0, l.getD r 0)).map pD))]) [] := fun h => hR2 _ _ ⟨dn2 ++ [r], rest2, by rw [e3]; simp, rfl, rfl, fun y hy => (by
          rcases List.mem_append.mp hy with h' | h'
          · exact hd2 y h'
          · obtain rfl : y = r := by simpa using h'
            exact h), _, _, _, _, _, rfl⟩
        refine ⟨_, rfl, _, rfl, _, rfl, ?_⟩
        by_cases hpr : p = r
        · subst hpr
          refine goF (by simp) ?_
          refine goF rfl ?_
          rw [u_sNext]
          refine next (both_no.mpr fun s hs => ?_)
          have := hself hn hs
          show b p + s ≤ b p
          omega
        refine goT (by simp; omega) ?_
        refine ⟨_, rfl, _, rfl, le5 _ (by simp), _, rfl, L.map kP, L.map (fD F), kP ((p : Int), (r : Int)), rfl, rfl, _, rfl, ?_⟩
        rw [beh_in]
        have eU : fB L F p r = if ((p : Int), (r : Int)) ∈ L then some (F ((p : Int), (r : Int))) else none := rfl
        by_cases hmem : ((p : Int), (r : Int)) ∈ L
        · rw [if_pos hmem] at eU
          have h2 := h2m hk hkr hpr hpa hra eU
          refine goT (by simp [hmem]) ?_
          rw [u_bB, u_eBin]
          refine ⟨_, rfl, _, rfl, ?_⟩
          refine in_pairsD (z := (b p, b r)) ?_
          refine ⟨_, rfl, ?_⟩
          cases hb : bothB (fB L F) b (p, r) with
          | true =>
            have : ¬ ((b p, b r) ∈ S.map fun l => (l.getD p 0, l.getD r 0)) := fun h => by rw [h2.mp h] at hb; cases hb
            refine goT (by rw [decide_eq_false this]; rfl) ?_
            rw [u_sRet]
            refine ⟨_, rfl, _, rfl, le5 _ (by simp), ?_⟩
            show Q3 (fin 0 [] (.tup [.str "both", nD p, nD r])) (finS 0 [])
            rw [finS0]
            rw [barD_both (dn := dn) (rest := rest) (dn2 := dn2) (rest2 := rest2) (p := p) (q := r) hdn e1 e3 hd1 hd2 hb] at q
            exact q
          | false =>
            refine goF (by rw [decide_eq_true (h2.mpr hb)]; rfl) ?_
            rw [u_sNext]
            exact next hb
        · rw [if_neg hmem] at eU
          refine goF (by simp [hmem]) ?_
          refine goF rfl ?_
          rw [u_sNext]
          exact next (both_no.mpr fun s hs => by rw [show fB L F (p, r).1 (p, r).2 = none from eU] at hs; cases hs)
      case stop3 =>
        rintro Γ C ⟨dn2, rest2, e3, e4, rfl, hd2, x, y, w, a, c, rfl⟩
        cases rest2 with
        | cons p rest => cases e4
        | nil =>
        rw [List.append_nil] at e3
        subst e3
        refine hR _ _ ⟨dn ++ [p], rest, by rw [e1]; simp, rfl, rfl, fun x hx y hy => ?_, _, _, _, _, _, _, rfl⟩
        rcases List.mem_append.mp hx with h | h
        · exact hd1 x h y hy
        · obtain rfl : x = p := by simpa using h
          exact hd2 y hy
    case stop2 =>
      rintro Γ C ⟨dn, rest, e1, e2, rfl, hd1, x, y, z, w, a, c, rfl⟩
      cases rest with
      | cons p rest => cases e2
      | nil =>
      rw [List.append_nil] at e1
      subst e1
      exact absurd ⟨fun k hk => alone_no.mp (hdn k (hm.mpr hk)), fun p hp' r hr => both_no.mp (hd1 p (hm.mpr hp') r (hm.mpr hr))⟩ hnO
end ST
end L3
namespace L3
namespace ST
namespace K49
open PySem PySem.Spec PyProof.Rows L2
def T_law (P_Lw_jar P_Lw_pile P_Lw_size P_Lw_most P_Lw_far P_Lw_plans P_Lw_told P_Lw_plan P_Lw_by_plans P_Lw_same P_bars : PV) : SV :=
  (sSeq (sFor (iRange1 (aCons (eCB oMax2 (aCons (eC (.int 1)) (aCons (eCB oMin2 (aCons (eC (.int 4)) (aCons (eCB oLenA (aCons (eVar 0) aNil)) aNil))) aNil))) aNil)) (gvName 1) (sSeq (sAsg (eCell (fCall P_Lw_jar (aCons (eVar 0) (aCons (eVar 1) aNil)))) (gvName 2))
  (sSeq (sAsg (eCallT 1 kf1 P_Lw_pile (aCons (eVar 2) (aCons (eCallK 1 kf1 P_Lw_size (aCons (eVar 2) (aCons (eVar 0) (aCons (eC (.int 5)) aNil)))) aNil))) (gvName 3))
  (sSeq (sAsg (eCallK 1 kf1 P_Lw_most (aCons (eVar 2) (aCons (eVar 0) (aCons (eVar 3) (aCons (eFrz (fLst (aCons (eC (.int 0)) (aCons (eC (.int 1)) (aCons (eC (.int 2)) (aCons (eC (.int 3)) aNil)))))) aNil))))) (gvName 4))
  (sSeq (sPar 5 6 (aCons (eCall P_Lw_plans (aCons (eVar 3) (aCons (eVar 4) aNil))) (aCons (eCall P_Lw_far (aCons (eVar 3) aNil)) aNil)))
  (sFor (iRange1 (aCons (eC (.int 3)) aNil)) (gvName 7) (sSeq (sAsg (eCallK 1 kf1 P_Lw_told (aCons (eVar 2) (aCons (eCallK 1 kf1 P_Lw_plan (aCons (eVar 2) (aCons (eVar 3) (aCons (eVar 4) aNil)))) (aCons (eVar 4) aNil)))) (gvName 8))
  (sSeq (sAsg (eCB oReprX (aCons (eFrz (fLst (aCons (eVar 3) (aCons (eVar 8) aNil)))) aNil)) (gvName 9))
  (sSeq (sAsg (eCall P_Lw_by_plans (aCons (eVar 5) (aCons (eVar 6) (aCons (eVar 8) aNil)))) (gvName 10))
  (sSeq (sIf (bOr (bNot (bB (eCall P_Lw_same (aCons (eCall P_bars (aCons (eVar 3) (aCons (eVar 4) (aCons (eVar 8) aNil)))) (aCons (eVar 10) aNil))))) (bB (eBin (oEq true) (eCB oReprX (aCons (eFrz (fLst (aCons (eVar 3) (aCons (eVar 8) aNil)))) aNil)) (eVar 9)))) (sRet (eC (.bl false))) sNext)
  (sSeq (sAsg (eFrz (fCB nList (aCons (eBin oIxT (eVar 3) (eC (.int 2))) aNil))) (gvName 11))
  (sSeq (sAsg (eFrz (fSlL (eVar 11) (oSome (eC (.int 1))) oNone)) (gvAll (eBin oIxT (eVar 3) (eC (.int 2)))))
  (sSeq (sAsg (eCall P_Lw_by_plans (aCons (eCall P_Lw_plans (aCons (eVar 3) (aCons (eVar 4) aNil))) (aCons (eCall P_Lw_far (aCons (eVar 3) aNil)) (aCons (eVar 8) aNil)))) (gvName 10))
  (sSeq (sIf (bNot (bB (eCall P_Lw_same (aCons (eCall P_bars (aCons (eVar 3) (aCons (eVar 4) (aCons (eVar 8) aNil)))) (aCons (eVar 10) aNil))))) (sRet (eC (.bl false))) sNext)
  (sSeq (sAsg (eVar 11) (gvAll (eBin oIxT (eVar 3) (eC (.int 2)))))
  (sIf (bNot (bB (eCall P_Lw_same (aCons (eCall P_bars (aCons (eVar 3) (aCons (eVar 4) (aCons (eVar 8) aNil)))) (aCons (eCall P_Lw_by_plans (aCons (eVar 5) (aCons (eVar 6) (aCons (eVar 8) aNil)))) aNil))))) (sRet (eC (.bl false))) sNext))))))))))))))))
  (sRet (eC (.bl true))))
abbrev N_law : List Str := ["_law_script", "_law_k", "_law_jar_here", "_law_heap", "_law_top", "_law_plans_here", "_law_far_here", "_law_spin", "_law_blocks", "_law_kept", "_law_due", "_law_rules"]
end K49
end ST
end L3
namespace L3
namespace ST
namespace K49
open PySem PySem.Spec PyProof.Rows L2
open T0
theorem pyX_pilC {C : Store} {n m : Nat} {f st : Str} {rs : List (Int × Int)} (hm : C[m]? = some (.lst (rs.map pD))) : pyXW (pyXG C (n + 1)) (pilC m f st) = some (pilP f st rs) := by
  unfold pilC
  simp only [pyXW, pyXWs, pyXG, hm, pyX_pairs, Option.map_some, Option.bind_some]
  rfl
theorem repr_C {Γ : Slots} {C : Store} {i j n m : Nat} {o2 : Bool} {f st : Str} {rs : List (Int × Int)} {ks : List Nat} {b : Nat → Int} {Q : D → Store → Prop} (hi : Γ[i]? = some (some (pilC m f st))) (hm : C[m]? = some (.lst (rs.map pD))) (hj : Γ[j]? = some (some (tB o2 ks b))) (hp : Pil f st rs) (hT : Told n ks b) (h24 : n ≤ 24)
    (q : Q (.str (PyData.list [pilP f st rs, tBP ks b]).shown) C) : eCB oReprX (aCons (eFrz (fLst (aCons (eVar i) (aCons (eVar j) aNil)))) aNil) Γ C Q := by
  refine ⟨_, hi, _, hj, le5 _ (by simp), ?_⟩
  have S1 := (shw_pil hp).x.le (d' := 59) (n' := 6000) (by decide) (by decide)
  have S2 := (shw_tB hT h24).le (d' := 59) (n' := 3000) (by decide) (by decide)
  refine oReprX_of (Q := fun d => Q d C) (xs := [pilC m f st, tB o2 ks b]) (ps := [pilP f st rs, tBP ks b]) rfl (by simp) ?_ (ShwX.list (ShwsX.cons S1 (ShwsX.cons S2 (ShwsX.nil (n := 0))))) (by decide) q
  simp only [pyXWs, pyX_pilC (n := 1) hm, pyX_tB]
  rfl
theorem most4 {ij is ip : Nat} {o : Bool} {k m : Nat} {c : Int} {x : Cell} {C1 : Store} {Γ : Slots} {ns : List Int} {f st : Str} {rs : List (Int × Int)} {Q : D → Store → Prop} (hj : Γ[ij]? = some (some (.ptr k))) (hs : Γ[is]? = some (some (.lst o (ns.map .int)))) (hp' : Γ[ip]? = some (some (pilC m f st))) (hk : C1[k]? = some x) (hm : C1[m]? = some (.lst (rs.map pD))) (hne : m ≠ k) (hx : Jar c x) (hp : Pil f st rs) (hc : c < 10 ^ 5)
    (q : ∀ r y, 0 ≤ r → r ≤ 10 ^ 30 → (∀ v n, PFix f st rs v → IsMax st.length v n → n ≤ r ∧ r ≤ n + 3) → Jar (c + 1) y → Q (.int r) (C1.set k y)) :
    eCallK 1 kf1 P_Lw_most (aCons (eVar ij) (aCons (eVar is) (aCons (eVar ip) (aCons (eFrz (fLst (aCons (eC (.int 0)) (aCons (eC (.int 1)) (aCons (eC (.int 2)) (aCons (eC (.int 3)) aNil)))))) aNil)))) Γ C1 Q := by
  have hz := sizeL
  rw [u_eCallK, u_aCons]
  refine ⟨_, hj, ?_⟩
  show aCons _ _ _ _ _
  rw [u_aCons]
  refine ⟨_, hs, ?_⟩
  show aCons _ _ _ _ _
  rw [u_aCons]
  refine ⟨_, hp', ?_⟩
  show aCons _ _ _ _ _
  rw [u_aCons]
  refine ⟨le5 _ (by simp), ?_⟩
  show callK 1 kf1 P_Lw_most [.ptr k, .lst o (ns.map .int), pilC m f st, .lst false ([0, 1, 2, 3].map .int)] C1 Q
  refine callJ (k := k) (es' := [.lst true (ns.map .int), pil true f st rs, .lst true ([0, 1, 2, 3].map .int)]) hk hx ?_ ?_ mono_most
  · unfold pilC pil
    have : posOf [k] m = none := by simp [posOf]; omega
    simp only [mapWs, mapW, mapWs_ints, viewG, this, hm, mapWs_flat (flat_pairs rs)]
  refine ⟨true, true, true, ns, [0, 1, 2, 3], 3, c, f, st, rs, x, rfl, rfl, hx, hc, hp, by simp, by simp, by decide, ?_, fun r y h0 h1 h2 hy => ⟨y, c + 1, rfl, hy, rfl, q r y h0 h1 h2 hy⟩⟩
  intro s hs
  simp only [List.mem_cons, List.not_mem_nil, or_false] at hs
  rcases hs with rfl | rfl | rfl | rfl <;> omega
theorem bar_any {f st : Str} {rs : List (Int × Int)} {top : Int} {v v' u u' b : Nat → Int} {B B' : Sp} {ks : List Nat} (hp : Pil f st rs) (hT : Told st.length ks b) (V : PFix f st rs v) (V' : PFix f st rs v') (U : OFix st rs u) (U' : OFix st rs u') (hB : SpB st rs B) (hB' : SpB st rs B') : barD v (late top v u) B b (srtK st.length ks) = barD v' (late top v' u') B' b (srtK st.length ks) := by
  have hlt : ∀ k, k ∈ srtK st.length ks → k < st.length := fun k hk => hT.lt k ((srtK_mem hT).mp hk)
  exact barD_congr (fun k hk => hp.peq V V' k (hlt k hk)) (fun k hk => late_congr hp V U V' U' k (hlt k hk)) fun p hp' q hq => hB.eq hB' (hlt p hp')
def P_law : PV := fun ds C Q => ∃ ns : List Int, ds = [.lst true (ns.map .int)] ∧ C = [] ∧ ns.length ≤ 63 ∧ Q (.bl true) []
theorem v_law (ds : List D) (C : Store) (Q3 : D → Store → Prop) (h : P_law ds C Q3) (hC : C.length = 0) : T_law P_Lw_jar P_Lw_pile P_Lw_size P_Lw_most P_Lw_far P_Lw_plans P_Lw_told P_Lw_plan P_Lw_by_plans P_se2 P_bars (enF 0 Q3) (start3 N_law ds) C := by
  obtain ⟨ns, rfl, rfl, hl, q⟩ := h
  have hz := sizeL
  unfold T_law
  rw [u_sSeq]
  refine ⟨_, rfl, _, _, rfl, rfl, _, _, rfl, _, _, rfl, _, rfl, by omega, by omega, rfl, np_rg' 0 _, ?_⟩
  generalize eN : (max (1 : Int) (min 4 (((ns.map D.int).length : Nat) : Int))).toNat = N
  have hN : N ≤ 4 := by omega
  have erg : rgI 0 N = (List.range N).map fun i : Nat => D.int (i : Nat) := by
    unfold rgI
    exact List.map_congr_left fun j _ => by rw [Int.zero_add]
  refine forW_run (fun ds Γ C => ∃ (k : Nat), k ≤ N ∧ ds = ((List.range N).drop k).map (fun i : Nat => D.int (i : Nat)) ∧ Flat C ∧ ∃ z1 z2 z3 z4 z5 z6 z7 z8 z9 z10 z11, Γ = [some (.lst true (ns.map .int)), z1, z2, z3, z4, z5, z6, z7, z8, z9, z10, z11]) ?step ?stop _ _ _ ⟨0, by omega, erg, Flat.nil, _, _, _, _, _, _, _, _, _, _, _, rfl⟩
  case stop =>
    rintro Γ C ⟨k, hk, eds, hF, z1, z2, z3, z4, z5, z6, z7, z8, z9, z10, z11, rfl⟩
    try dsimp only
    rw [u_sRet]
    show Q3 (.bl true) (finS 0 C)
    rw [finS0]
    exact q
  case step =>
    rintro d ds Γ C0 ⟨k, hk, eds, hF, z1, z2, z3, z4, z5, z6, z7, z8, z9, z10, z11, rfl⟩ R hR
    obtain ⟨hkn, rfl, rfl⟩ := PN.rg_drop eds
    refine ⟨_, rfl, _, rfl, true, ns, k, by rw [views_ints, views_int, views_nil], by omega, by omega, fun xs hx hf => ⟨xs, rfl, hf, ?_⟩⟩
    have hkk : (C0 ++ [Cell.lst xs])[C0.length]? = some (.lst xs) := by simp
    have hFl : Flat (C0 ++ [Cell.lst xs]) := hF.snoc hx.flat
    have hlen : (C0 ++ [Cell.lst xs]).length = C0.length + 1 := by simp
    try dsimp only
    show sSeq (sAsg (eCallT 1 kf1 P_Lw_pile _) (gvName 3)) _ _ [some (.lst true (ns.map .int)), some (.int (k : Nat)), some (.ptr C0.length), z3, z4, z5, z6, z7, z8, z9, z10, z11] (C0 ++ [Cell.lst xs])
    generalize C0 ++ [Cell.lst xs] = C at hkk hFl hlen
    rw [u_sSeq, u_sAsg]
    refine draw_P (k := C0.length) (ns := ns) (o := true) rfl rfl hkk hx hFl (by decide) (by decide) (by omega) fun f st rs c1 y1 hp hl5 hy1 hc1 => ?_
    have hF1 : Flat (C.set C0.length y1 ++ [.lst (rs.map pD)]) := (hFl.set hy1.flat).snoc (flat_rs rs)
    have hk1 : (C.set C0.length y1 ++ [.lst (rs.map pD)])[C0.length]? = some y1 := app_get (set_get hkk)
    have hm1 : (C.set C0.length y1 ++ [.lst (rs.map pD)])[C.length]? = some (.lst (rs.map pD)) := by
      have := get_last (C.set C0.length y1) (Cell.lst (rs.map pD))
      rw [List.length_set] at this
      exact this
    have hne : C.length ≠ C0.length := by omega
    try dsimp only
    show sSeq (sAsg (eCallK 1 kf1 P_Lw_most _) (gvName 4)) _ _ [some (.lst true (ns.map .int)), some (.int (k : Nat)), some (.ptr C0.length), some (pilC C.length f st), z4, z5, z6, z7, z8, z9, z10, z11] (C.set C0.length y1 ++ [.lst (rs.map pD)])
    generalize C.set C0.length y1 ++ [.lst (rs.map pD)] = C1 at hF1 hk1 hm1
    generalize C.length = m at *
    generalize C0.length = kj at *
    rw [u_sSeq, u_sAsg]
    refine most4 (o := true) (ns := ns) (m := m) rfl rfl rfl hk1 hm1 hne hy1 hp (by omega) fun top y2 h0 h30 hb hy2 => ?_
    have hF2 : Flat (C1.set kj y2) := hF1.set hy2.flat
    have hk2 : (C1.set kj y2)[kj]? = some y2 := set_get hk1
    have hm2 : (C1.set kj y2)[m]? = some (.lst (rs.map pD)) := by rw [set_other (Ne.symm hne)]; exact hm1
    have ht : Most f st rs top := ⟨h30, fun v k V M => (hb v k V M).1⟩
    have ht10 : top ≤ 10 := by
      obtain ⟨v, V⟩ := hp.pfix
      obtain ⟨k, M⟩ := wMax hp.pos v
      have h1 := (hb v k V M).2
      have h2 := (max_n hp V M).2
      omega
    have hn5 : st.length ≤ 5 := by omega
    have h24 := hp.top
    have hrl := hp.rul.few
    have hsz := allP_size5 (f := f) (rs := rs) hn5 ht10
    have hsz1 := allP_size5 (f := f) (rs := rs.drop 1) hn5 ht10
    have hp1 := pil_d1 hp
    have ht1 := most_d1 hp ht
    have pw : ∀ {w : Nat → Int}, Plan f st rs top w → ∀ j, j < st.length → 0 ≤ w j ∧ w j ≤ 10 ^ 30 := fun {w} W j hj => by
      obtain ⟨b1, b2, _⟩ := W.blk j hj
      have b3 : 0 ≤ bsOf f st j := (neq01 _ _).1
      omega
    try dsimp only
    rw [u_gvName]
    generalize C1.set kj y2 = C2 at hF2 hk2 hm2
    rw [u_sSeq]
    refine ⟨_, rfl, _, rfl, true, f, st, rs, top, by show views [] C2 [pilC m f st, .int top] = _; rw [views_pilC hm2, views_int, views_nil], hp, hn5, h0, ht10, np_rDs, ?_⟩
    refine ⟨_, rfl, true, f, st, rs, by show views [] C2 [pilC m f st] = _; rw [views_pilC hm2, views_nil], hp, fun L F hF' => ⟨np_dtF, _, _, rfl, ?_⟩⟩
    try dsimp only
    refine ⟨3, rfl, by decide, by decide, rfl, rfl, ?_⟩
    refine forW_run (fun ds Γ C => ∃ (c' : Int) (y : Cell), ds.length ≤ 3 ∧ Flat C ∧ C[kj]? = some y ∧ C[m]? = some (.lst (rs.map pD)) ∧ Jar c' y ∧ c' ≤ 3000 - 200 * (ds.length : Int) ∧ ∃ u7 u8 u9 u10 u11, Γ = [some (.lst true (ns.map .int)), some (.int (k : Nat)), some (.ptr kj), some (pilC m f st), some (.int top), some (.lst false ((allP f st rs top).map rD)), some (.dt false (L.map kP) (L.map (fD F))), u7, u8, u9, u10, u11]) ?step2 ?stop2 _ _ _ ⟨c1 + 1, y2, by decide, hF2, hk2, hm2, hy2, by show c1 + 1 ≤ 3000 - 200 * 3; omega, _, _, _, _, _, rfl⟩
    case stop2 =>
      rintro Γ C ⟨c', y, _, hFC, hkC, hmC, hy, hcc, u7, u8, u9, u10, u11, rfl⟩
      exact hR _ _ ⟨k + 1, by omega, rfl, hFC, _, _, _, _, _, _, _, _, _, _, _, rfl⟩
    case step2 =>
      rintro d ds Γ C ⟨c', y, hd3, hFC, hkC, hmC, hy, hcc, u7, u8, u9, u10, u11, rfl⟩ R2 hR2
      simp only [List.length_cons] at hd3 hcc
      rw [u_gvName]
      try dsimp only
      rw [u_sSeq, u_sAsg, u_eCallK, u_aCons]
      refine ⟨_, rfl, ?_⟩
      show aCons _ _ _ _ _
      rw [u_aCons, u_eCallK, u_aCons]
      refine ⟨_, rfl, ?_⟩
      show aCons _ _ _ _ _
      rw [u_aCons]
      refine ⟨_, rfl, ?_⟩
      show aCons _ _ _ _ _
      rw [u_aCons]
      refine ⟨_, rfl, ?_⟩
      dsimp only
      rw [u_aNil]
      refine plan_c (top := top) hkC hy (by omega) ?_ hp ht fun w c2 y2 W hy2 hc2 => ?_
      · unfold pilC pil
        have : posOf [kj] m = none := by simp [posOf]; omega
        show mapWs _ _ [.tup [.str f, .str st, .ptr m], .int top] = _
        simp only [mapWs, mapW, viewG, this, hmC, mapWs_flat (flat_pairs rs)]
      have hkC2 : (C.set kj y2)[kj]? = some y2 := set_get hkC
      have hmC2 : (C.set kj y2)[m]? = some (.lst (rs.map pD)) := by rw [set_other (Ne.symm hne)]; exact hmC
      have hFC2 : Flat (C.set kj y2) := hFC.set hy2.flat
      generalize C.set kj y2 = C4 at hkC2 hmC2 hFC2
      show aCons _ _ _ _ _
      rw [u_aCons]
      refine ⟨_, rfl, ?_⟩
      dsimp only
      rw [u_aNil]
      refine told_c (top := top) hkC2 hy2 (by omega) h24 h0 h30 (pw W) fun ks bl c3 y4 hT hy4 hc3 => ?_
      have hkC3 : (C4.set kj y4)[kj]? = some y4 := set_get hkC2
      have hmC3 : (C4.set kj y4)[m]? = some (.lst (rs.map pD)) := by rw [set_other (Ne.symm hne)]; exact hmC2
      have hFC3 : Flat (C4.set kj y4) := hFC2.set hy4.flat
      generalize C4.set kj y4 = C5 at hkC3 hmC3 hFC3
      try dsimp only
      rw [u_gvName, u_sSeq, u_sAsg]
      refine repr_C (m := m) (i := 3) (j := 8) rfl hmC3 rfl hp hT h24 ?_
      try dsimp only
      rw [u_gvName, u_sSeq, u_sAsg]
      have rEq : ∀ ps : List (List Int), ps.map rD = ps.map (eO false) := fun ps => rfl
      have due : ∀ {C : Store} {o : Bool} {rs' : List (Int × Int)} {L' : List (Int × Int)} {F' : Int × Int → Int} {Q : D → Prop}, Pil f st rs' → Most f st rs' top → (allP f st rs' top).length ≤ 7776 → FarD st rs' L' F' → (∀ v u, PFix f st rs' v → OFix st rs' u → Q (barD v (late top v u) (fB L' F') bl (srtK st.length ks))) →
          P_Lw_by_plans (views [] C [.lst o ((allP f st rs' top).map rD), .dt false (L'.map kP) (L'.map (fD F')), tB false ks bl]) [] fun d _ => (noold d && noptr d) = true ∧ Q d := fun {C o rs' L' F' Q} p t z hf q => by
        refine ⟨true, true, true, true, f, st, rs', top, L', F', ks, bl, ?_, p, t, z, hf, hT, fun v u V U => ⟨np_barD, q v u V U⟩⟩
        rw [rEq, views_eO, views_dtF, views_tB, views_nil]
      have bars : ∀ {C : Store} {rs' : List (Int × Int)} {Q : D → Prop}, C[m]? = some (.lst (rs'.map pD)) → Pil f st rs' → Most f st rs' top → (∀ v u B, PFix f st rs' v → OFix st rs' u → SpB st rs' B → Q (barD v (late top v u) B bl (srtK st.length ks))) →
          P_bars (views [] C [pilC m f st, .int top, tB false ks bl]) [] fun d _ => (noold d && noptr d) = true ∧ Q d := fun {C rs' Q} hmC p t q => by
        refine ⟨true, true, f, st, rs', top, ks, bl, ?_, p, t, hT, fun v u B V U hB => ⟨np_barD, q v u B V U hB⟩⟩
        rw [views_pilC hmC, views_int, views_tB, views_nil]
      -- the law's own and the program's, of the pile as it is
      refine ⟨_, rfl, _, rfl, _, rfl, ?_⟩
      dsimp only
      rw [u_aNil]
      refine due hp ht hsz hF' fun v1 u1 V1 U1 => ?_
      try dsimp only
      rw [u_gvName, u_sSeq, u_sIf]
      refine ⟨_, rfl, _, rfl, _, rfl, ?_⟩
      dsimp only
      rw [u_aNil]
      refine bars hmC3 hp ht fun v2 u2 B2 V2 U2 hB2 => ?_
      rw [bar_any hp hT V2 V1 U2 U1 hB2 hF'.spB]
      refine ⟨_, rfl, _, _, by rw [views_barD, views_barD, views_nil], Se.bar (k := 1), rfl, _, rfl, ?_⟩
      refine goF rfl ?_
      rw [u_bB, u_eBin]
      refine repr_C (m := m) (i := 3) (j := 8) rfl hmC3 rfl hp hT h24 ?_
      refine ⟨_, rfl, ?_⟩
      refine ⟨_, rfl, ?_⟩
      refine goF (by simp) ?_
      rw [u_sNext]
      try dsimp only
      -- a rule less
      rw [u_sSeq, u_sAsg, u_eFrz, u_fCB, u_aCons]
      refine ⟨_, rfl, _, _, _, rfl, rfl, rfl, _, rs.map pD, rfl, by simp only [seqOf, lstOf, hmC3], ?_⟩
      try dsimp only
      rw [u_gvName, u_sSeq, u_sAsg, u_eFrz]
      refine ⟨_, rfl, _, rfl, rs.map pD, rfl, ?_⟩
      show gvAll _ (.lst false (cutD (rs.map pD) (some 1) none)) _ _ _
      rw [cut_tail, ← List.map_drop, u_gvAll]
      refine ⟨_, rfl, _, _, _, rfl, rfl, rfl, m, rs.map pD, (rs.drop 1).map pD, rfl, hmC3, rfl, (fun h => by cases h), by simp only [List.length_map, List.length_drop]; omega, ?_⟩
      have hkC4 : (C5.set m (.lst ((rs.drop 1).map pD)))[kj]? = some y4 := by rw [set_other hne]; exact hkC3
      have hmC4 : (C5.set m (.lst ((rs.drop 1).map pD)))[m]? = some (.lst ((rs.drop 1).map pD)) := set_get hmC3
      have hFC4 : Flat (C5.set m (.lst ((rs.drop 1).map pD))) := hFC3.set (flat_rs _)
      generalize C5.set m (.lst ((rs.drop 1).map pD)) = C6 at hkC4 hmC4 hFC4
      try dsimp only
      rw [u_sSeq, u_sAsg, u_eCall, u_aCons, u_eCall]
      refine ⟨_, rfl, _, rfl, true, f, st, rs.drop 1, top, by show views [] C6 [pilC m f st, .int top] = _; rw [views_pilC hmC4, views_int, views_nil], hp1, hn5, h0, ht10, np_rDs, ?_⟩
      refine ⟨_, rfl, true, f, st, rs.drop 1, by show views [] C6 [pilC m f st] = _; rw [views_pilC hmC4, views_nil], hp1, fun L1 F1 hF1' => ⟨np_dtF, _, rfl, ?_⟩⟩
      dsimp only
      rw [u_aNil]
      refine due hp1 ht1 hsz1 hF1' fun v3 u3 V3 U3 => ?_
      try dsimp only
      rw [u_gvName, u_sSeq, u_sIf]
      refine ⟨_, rfl, _, rfl, _, rfl, ?_⟩
      dsimp only
      rw [u_aNil]
      refine bars hmC4 hp1 ht1 fun v4 u4 B4 V4 U4 hB4 => ?_
      rw [bar_any hp1 hT V4 V3 U4 U3 hB4 hF1'.spB]
      refine ⟨_, rfl, _, _, by rw [views_barD, views_barD, views_nil], Se.bar (k := 1), rfl, _, rfl, ?_⟩
      refine goF rfl ?_
      rw [u_sNext]
      try dsimp only
      -- all rules again
      rw [u_sSeq, u_sAsg, u_eVar]
      refine ⟨_, rfl, ?_⟩
      rw [u_gvAll]
      refine ⟨_, rfl, _, _, _, rfl, rfl, rfl, m, (rs.drop 1).map pD, rs.map pD, rfl, hmC4, rfl, (fun h => by cases h), by simp only [List.length_map, List.length_drop]; omega, ?_⟩
      have hkC5 : (C6.set m (.lst (rs.map pD)))[kj]? = some y4 := by rw [set_other hne]; exact hkC4
      have hmC5 : (C6.set m (.lst (rs.map pD)))[m]? = some (.lst (rs.map pD)) := set_get hmC4
      have hFC5 : Flat (C6.set m (.lst (rs.map pD))) := hFC4.set (flat_rs _)
      generalize C6.set m (.lst (rs.map pD)) = C7 at hkC5 hmC5 hFC5
      try dsimp only
      rw [u_sIf]
      refine ⟨_, rfl, _, rfl, _, rfl, ?_⟩
      dsimp only
      rw [u_aNil]
      refine bars hmC5 hp ht fun v5 u5 B5 V5 U5 hB5 => ?_
      refine ⟨_, rfl, _, rfl, _, rfl, ?_⟩
      dsimp only
      rw [u_aNil]
      refine due hp ht hsz hF' fun v6 u6 V6 U6 => ?_
      rw [bar_any hp hT V5 V6 U5 U6 hB5 hF'.spB]
      refine ⟨_, _, by rw [views_barD, views_barD, views_nil], Se.bar (k := 1), rfl, _, rfl, ?_⟩
      refine goF rfl ?_
      rw [u_sNext]
      exact hR2 _ _ ⟨c3, y4, by omega, hFC5, hkC5, hmC5, hy4, by omega, _, _, _, _, _, rfl⟩
end K49
end ST
end L3
namespace L3
open PySem PySem.Spec PyProof.Rows L2
namespace ST
namespace K49
def top (i : Nat) : Stmt := PySem.Challenge.pw_twostamps_k49_what_bars_by_all_plans.main.body.getD i (.Pass ⟨0, 0, 0, 0⟩)
section
variable {P : Program} {w : World} {K : PySem.W.Frag} {mg : Str → Option Value} {base : Heap}
abbrev s_Lw_jar : Stmt := top 44
theorem sc_Lw_jar : FnScope N_Lw_jar ["_law_script", "_law_k"] (defScope s_Lw_jar) := ⟨rfl, rfl, rfl, by decide +kernel, rfl, by decide +kernel, by decide +kernel⟩
theorem d_Lw_jar {f : Addr} {fd : FuncData} (F : FnD K "_law_jar" s_Lw_jar f fd) (g : mg "_law_jar" = some (.ref f)) {P_Lw_jar : PV} (l : ∀ ds C Q, P_Lw_jar ds C Q → ds.length = 2) (v : ∀ ds C Q3, P_Lw_jar ds C Q3 → C.length = 0 → T_Lw_jar (enF 0 Q3) (start3 N_Lw_jar ds) C) (m_len : mg "len" = none) (m_max : mg "max" = none) : Cal P w K mg base 1 "_law_jar" s_Lw_jar ["_law_script", "_law_k"] 0 P_Lw_jar := by
  have nd : (N_Lw_jar).Nodup := sc_Lw_jar.nd
  exact ⟨f, fd, ok3 (T := T_Lw_jar) F sc_Lw_jar l (fun cdv A outer s H E hr => (vss_cons (vs_set 2 nd ve_int)
  (vss_cons (vs_if (vt_cmp op_lt sr_lt (ve_var 1) (ve_callB (call_lenAA rfl) sc_lenA m_len (va_cons (ve_var 0) va_nil)) (nomark _)) (vss_one (vs_set 2 nd (ve_ix (ix_listA rfl) sr_ixL (ve_var 0) (ve_var 1)))) vss_nil)
  (vss_one (vs_ret (VF.frz (vf_lst (va_cons (ve_callB (call_max2 rfl) sc_max2 m_max (va_cons ve_int (va_cons (ve_op op_sub sr_sub (ve_var 2) (ve_op op_powW sr_powW ve_int ve_int)) va_nil))) (va_cons (ve_op op_add sr_add (ve_op op_mulW sr_mulW (ve_op op_mod sr_mod (ve_var 2) (ve_op op_add sr_add (ve_op op_powW sr_powW ve_int ve_int) ve_int)) ve_int) (ve_op op_mod sr_mod (ve_var 1) ve_int)) (va_cons ve_int va_nil)))))))))) v, g, F.kp, FunD.bindsN F fun _ _ _ _ _ _ us hl => match us, hl with | [_, _], _ => rfl, F⟩
abbrev s_Lw_dip : Stmt := top 45
theorem sc_Lw_dip : FnScope N_Lw_dip ["_law_jar_here", "_law_below"] (defScope s_Lw_dip) := ⟨rfl, rfl, rfl, by decide +kernel, rfl, by decide +kernel, by decide +kernel⟩
theorem d_Lw_dip {f : Addr} {fd : FuncData} (F : FnD K "_law_dip" s_Lw_dip f fd) (g : mg "_law_dip" = some (.ref f)) {P_Lw_dip : PV} (l : ∀ ds C Q, P_Lw_dip ds C Q → ds.length = 2) (v : ∀ ds C Q3, P_Lw_dip ds C Q3 → C.length = 1 → T_Lw_dip (enF 1 Q3) (start3 N_Lw_dip ds) C) : Cal P w K mg base 1 "_law_dip" s_Lw_dip ["_law_jar_here", "_law_below"] 1 P_Lw_dip := by
  have nd : (N_Lw_dip).Nodup := sc_Lw_dip.nd
  exact ⟨f, fd, ok3 (T := T_Lw_dip) F sc_Lw_dip l (fun cdv A outer s H E hr => (vss_cons (vs_if (vt_cmp op_gt sr_gt (ve_ix (ix_listA rfl) sr_ixL (ve_var 0) ve_int) ve_int (nomark _)) (vss_cons (vs_set 2 nd (ve_op op_mod sr_mod (ve_ix (ix_listA rfl) sr_ixL (ve_var 0) ve_int) (ve_var 1)))
  (vss_cons (vs_asg (ve_op op_fdivW sr_divW (ve_ix (ix_listA rfl) sr_ixL (ve_var 0) ve_int) (ve_var 1)) (vg_subL (ve_var 0) ve_int))
  (vss_one (vs_ret (ve_var 2))))) vss_nil)
  (vss_cons (vs_asg (ve_op op_add sr_add (ve_ix (ix_listA rfl) sr_ixL (ve_var 0) ve_int) ve_int) (vg_subL (ve_var 0) ve_int))
  (vss_cons (vs_set 3 nd (ve_op op_mod sr_mod (ve_op op_powW sr_powW (ve_op op_add sr_add (ve_op op_add sr_add (ve_ix (ix_listA rfl) sr_ixL (ve_var 0) ve_int) (ve_op op_mulW sr_mulW (ve_op op_mulW sr_mulW ve_int (ve_ix (ix_listA rfl) sr_ixL (ve_var 0) ve_int)) (ve_ix (ix_listA rfl) sr_ixL (ve_var 0) ve_int))) ve_int) ve_int) ve_int))
  (vss_cons (vs_set 3 nd (ve_op op_mod sr_mod (ve_op op_powW sr_powW (ve_op op_add sr_add (ve_var 3) (ve_op op_mulW sr_mulW ve_int (ve_ix (ix_listA rfl) sr_ixL (ve_var 0) ve_int))) ve_int) ve_int))
  (vss_one (vs_ret (ve_op op_mod sr_mod (ve_op op_fdivW sr_divW (ve_var 3) ve_int) (ve_var 1))))))))) v, g, F.kp, FunD.bindsN F fun _ _ _ _ _ _ us hl => match us, hl with | [_, _], _ => rfl, F⟩
abbrev s_Lw_pile : Stmt := top 47
theorem sc_Lw_pile : FnScope N_Lw_pile ["_law_jar_here", "_law_papers"] (defScope s_Lw_pile) := ⟨rfl, rfl, rfl, by decide +kernel, rfl, by decide +kernel, by decide +kernel⟩
theorem d_Lw_pile {f : Addr} {fd : FuncData} (F : FnD K "_law_pile" s_Lw_pile f fd) (g : mg "_law_pile" = some (.ref f)) {P_Lw_pile P_Lw_dip : PV} (l : ∀ ds C Q, P_Lw_pile ds C Q → ds.length = 2) (v : ∀ ds C Q3, P_Lw_pile ds C Q3 → C.length = 1 → T_Lw_pile P_Lw_dip (enF 1 Q3) (start3 N_Lw_pile ds) C) (C_Lw_dip : Cal P w K mg base 1 "_law_dip" s_Lw_dip ["_law_jar_here", "_law_below"] 1 P_Lw_dip) (m_range : mg "range" = none) (m_int : mg "int" = none) (m_list : mg "list" = none) (m_len : mg "len" = none) (m_min : mg "min" = none) (m_sorted : mg "sorted" = none) : Cal P w K mg base 2 "_law_pile" s_Lw_pile ["_law_jar_here", "_law_papers"] 1 P_Lw_pile := by
  obtain ⟨f_Lw_dip, fd_Lw_dip, G_Lw_dip, g_Lw_dip, kp_Lw_dip, b_Lw_dip, F_Lw_dip⟩ := C_Lw_dip
  have nd : (N_Lw_pile).Nodup := sc_Lw_pile.nd
  exact ⟨f, fd, ok3 (T := T_Lw_pile P_Lw_dip) F sc_Lw_pile l (fun cdv A outer s H E hr => (vss_cons (vs_set 2 nd (ve_callK (kf := kf1) (G_Lw_dip.mono (by decide)) hr g_Lw_dip kp_Lw_dip b_Lw_dip (va_cons (ve_var 0) (va_cons ve_int va_nil))))
  (vss_cons (vs_setLc 3 false (own := [("_law_k", 4)]) rfl nd (vi_range1 m_range (va_cons (ve_var 1) va_nil)) (blkOk_by (by kernel_rfl)) (own_name (by decide)) (fun _ _ _ _ _ => (vg_name 4 nd)) (fun _ _ _ _ _ => vts_nil) (fun _ _ _ _ _ => (ve_ix (ix_listA rfl) sr_ixL (VF.frz (vf_lst (va_cons (ve_callK (kf := kf1) (G_Lw_dip.mono (by decide)) hr g_Lw_dip kp_Lw_dip b_Lw_dip (va_cons (ve_var 0) (va_cons ve_int va_nil))) (va_cons (ve_op op_mod sr_mod (ve_var 4) ve_int) (va_cons (ve_callTy call_int1 sc_int m_int (va_cons (ve_cmp (op_eqA rfl hr.units) sr_eq (ve_callK (kf := kf1) (G_Lw_dip.mono (by decide)) hr g_Lw_dip kp_Lw_dip b_Lw_dip (va_cons (ve_var 0) (va_cons ve_int va_nil))) ve_int (nomark _)) va_nil)) va_nil))))) (ve_var 2))))
  (vss_cons (vs_set 5 nd (VF.cell (vf_listRange rfl m_list m_range (ve_var 1))))
  (vss_cons (vs_setLc 6 false (own := [("_law_k", 4)]) rfl nd (vi_range1 m_range (va_cons (ve_var 1) va_nil)) (blkOk_by (by kernel_rfl)) (own_name (by decide)) (fun _ _ _ _ _ => (vg_name 4 nd)) (fun _ _ _ _ _ => vts_nil) (fun _ _ _ _ _ => (ve_ml rfl PySem.F.plainAttrs_list PySem.F.slot_list_pop PySem.F.type_list_pop mt_popAt sm_popAt (ve_var 5) (va_cons (ve_callK (kf := kf1) (G_Lw_dip.mono (by decide)) hr g_Lw_dip kp_Lw_dip b_Lw_dip (va_cons (ve_var 0) (va_cons (ve_callB (call_lenAA rfl) sc_lenA m_len (va_cons (ve_var 5) va_nil)) va_nil))) va_nil))))
  (vss_cons (vs_par 7 8 rfl nd (va_cons (ve_ix (ix_listA rfl) sr_ixL (VF.frz (vf_lst (va_cons ve_int (va_cons ve_int (va_cons ve_int (va_cons ve_int va_nil)))))) (ve_callK (kf := kf1) (G_Lw_dip.mono (by decide)) hr g_Lw_dip kp_Lw_dip b_Lw_dip (va_cons (ve_var 0) (va_cons ve_int va_nil)))) (va_cons (ve_ix (ix_listA rfl) sr_ixL (VF.frz (vf_lst (va_cons (ve_var 1) (va_cons ve_int (va_cons ve_int va_nil))))) (ve_callK (kf := kf1) (G_Lw_dip.mono (by decide)) hr g_Lw_dip kp_Lw_dip b_Lw_dip (va_cons (ve_var 0) (va_cons ve_int va_nil)))) va_nil)) (ps := fun h => ps_par rfl nd rfl rfl (by decide) rfl rfl h rfl))
  (vss_cons (vs_set 9 nd (VF.cell (vf_lst va_nil)))
  (vss_cons (vs_for PassesOwn.never rfl (vi_range1 m_range (va_cons (ve_var 1) va_nil)) (vg_name 4 nd) (vss_one (vs_for PassesOwn.never rfl (vi_range2 m_range (va_cons (ve_op op_add sr_add (ve_var 4) ve_int) (va_cons (ve_callB (call_min2 rfl) sc_min2 m_min (va_cons (ve_var 1) (va_cons (ve_op op_add sr_add (ve_var 4) (ve_var 8)) va_nil))) va_nil))) (vg_name 10 nd) (vss_one (vs_if (VW.vt (vw_and (vt_cmp op_lt sr_lt (ve_callK (kf := kf1) (G_Lw_dip.mono (by decide)) hr g_Lw_dip kp_Lw_dip b_Lw_dip (va_cons (ve_var 0) (va_cons ve_int va_nil))) (ve_var 7) (nomark _)) (vw_and1 (vt_cmp op_lt sr_lt (ve_callB (call_lenAA rfl) sc_lenA m_len (va_cons (ve_var 9) va_nil)) ve_int (nomark _))))) (vss_one (vs_expr (ve_ml rfl PySem.F.plainAttrs_list PySem.F.slot_list_append PySem.F.type_list_append mt_append sm_append (ve_var 9) (va_cons (ve_tup (va_cons (ve_ix (ix_listA rfl) sr_ixL (ve_var 6) (ve_var 4)) (va_cons (ve_ix (ix_listA rfl) sr_ixL (ve_var 6) (ve_var 10)) va_nil))) va_nil)))) vss_nil)))))
  (vss_one (vs_ret (ve_tup (va_cons (ve_ix ix_str sr_ixS ve_str (ve_callK (kf := kf1) (G_Lw_dip.mono (by decide)) hr g_Lw_dip kp_Lw_dip b_Lw_dip (va_cons (ve_var 0) (va_cons ve_int va_nil)))) (va_cons (ve_join rfl ve_str (VF.frz (vf_lc (own := [("_law_one", 11)]) rfl nd (vi_list rfl (ve_var 3)) (blkOk_by (by kernel_rfl)) (own_name (by decide)) (fun _ _ _ _ _ => (vg_name 11 nd)) (fun _ _ _ _ _ => vts_nil) (fun _ _ _ _ _ => (ve_ix ix_str sr_ixS ve_str (ve_var 11)))))) (va_cons (VF.frz (vf_callB (call_sortP rfl) sf_sortP m_sorted (va_cons (ve_var 9) va_nil))) va_nil)))))))))))))) v, g, F.kp, FunD.bindsN F fun _ _ _ _ _ _ us hl => match us, hl with | [_, _], _ => rfl, F⟩
abbrev s_Lw_low : Stmt := top 49
theorem sc_Lw_low : FnScope N_Lw_low ["_law_heap"] (defScope s_Lw_low) := ⟨rfl, rfl, rfl, by decide +kernel, rfl, by decide +kernel, by decide +kernel⟩
theorem d_Lw_low {f : Addr} {fd : FuncData} (F : FnD K "_law_low" s_Lw_low f fd) (g : mg "_law_low" = some (.ref f)) {P_Lw_low : PV} (l : ∀ ds C Q, P_Lw_low ds C Q → ds.length = 1) (v : ∀ ds C Q3, P_Lw_low ds C Q3 → C.length = 0 → T_Lw_low (enF 0 Q3) (start3 N_Lw_low ds) C) (m_int : mg "int" = none) (m_len : mg "len" = none) (m_range : mg "range" = none) (m_max : mg "max" = none) : Cal P w K mg base 1 "_law_low" s_Lw_low ["_law_heap"] 0 P_Lw_low := by
  have nd : (N_Lw_low).Nodup := sc_Lw_low.nd
  exact ⟨f, fd, ok3 (T := T_Lw_low) F sc_Lw_low l (fun cdv A outer s H E hr => (vss_cons (vs_setLc 1 true (own := [("_law_sign", 2)]) rfl nd (vi_str (ve_ix (ix_tupA rfl) sr_ixT (ve_var 0) ve_int)) (blkOk_by (by kernel_rfl)) (own_name (by decide)) (fun _ _ _ _ _ => (vg_name 2 nd)) (fun _ _ _ _ _ => vts_nil) (fun _ _ _ _ _ => (ve_callTy call_int1 sc_int m_int (va_cons (ve_cmp (op_neA rfl hr.units) sr_ne (ve_var 2) (ve_ix (ix_tupA rfl) sr_ixT (ve_var 0) ve_int) (nomark _)) va_nil))))
  (vss_cons (vs_for PassesOwn.never rfl (vi_range1 m_range (va_cons (ve_callB (call_lenAA rfl) sc_lenA m_len (va_cons (ve_var 1) va_nil)) va_nil)) (vg_name 3 nd) (vss_one (vs_for PassesOwn.never rfl (vi_list rfl (ve_ix (ix_tupA rfl) sr_ixT (ve_var 0) ve_int)) (vg_tup rfl rfl (vgs_cons (vg_name 4 nd) (vgs_cons (vg_name 5 nd) vgs_nil))) (vss_one (vs_asg (ve_callB (call_max2 rfl) sc_max2 m_max (va_cons (ve_ix (ix_listA rfl) sr_ixL (ve_var 1) (ve_var 5)) (va_cons (ve_op op_add sr_add (ve_ix (ix_listA rfl) sr_ixL (ve_var 1) (ve_var 4)) (ve_callTy call_int1 sc_int m_int (va_cons (ve_cmp (op_neA rfl hr.units) sr_ne (ve_ix ix_str sr_ixS (ve_ix (ix_tupA rfl) sr_ixT (ve_var 0) ve_int) (ve_var 4)) (ve_ix ix_str sr_ixS (ve_ix (ix_tupA rfl) sr_ixT (ve_var 0) ve_int) (ve_var 5)) (nomark _)) va_nil))) va_nil))) (vg_subL (ve_var 1) (ve_var 5)))))))
  (vss_one (vs_ret (ve_var 1)))))) v, g, F.kp, FunD.bindsN F fun _ _ _ _ _ _ us hl => match us, hl with | [_], _ => rfl, F⟩
abbrev s_Lw_most : Stmt := top 55
theorem sc_Lw_most : FnScope N_Lw_most ["_law_jar_here", "_law_script", "_law_heap", "_law_some"] (defScope s_Lw_most) := ⟨rfl, rfl, rfl, by decide +kernel, rfl, by decide +kernel, by decide +kernel⟩
theorem d_Lw_most {f : Addr} {fd : FuncData} (F : FnD K "_law_most" s_Lw_most f fd) (g : mg "_law_most" = some (.ref f)) {P_Lw_most P_Lw_low P_Lw_dip : PV} (l : ∀ ds C Q, P_Lw_most ds C Q → ds.length = 4) (v : ∀ ds C Q3, P_Lw_most ds C Q3 → C.length = 1 → T_Lw_most P_Lw_low P_Lw_dip (enF 1 Q3) (start3 N_Lw_most ds) C) (C_Lw_low : Cal P w K mg base 1 "_law_low" s_Lw_low ["_law_heap"] 0 P_Lw_low) (C_Lw_dip : Cal P w K mg base 1 "_law_dip" s_Lw_dip ["_law_jar_here", "_law_below"] 1 P_Lw_dip) (m_max : mg "max" = none) (m_len : mg "len" = none) (m_min : mg "min" = none) : Cal P w K mg base 2 "_law_most" s_Lw_most ["_law_jar_here", "_law_script", "_law_heap", "_law_some"] 1 P_Lw_most := by
  obtain ⟨f_Lw_low, fd_Lw_low, G_Lw_low, g_Lw_low, kp_Lw_low, b_Lw_low, F_Lw_low⟩ := C_Lw_low
  obtain ⟨f_Lw_dip, fd_Lw_dip, G_Lw_dip, g_Lw_dip, kp_Lw_dip, b_Lw_dip, F_Lw_dip⟩ := C_Lw_dip
  have nd : (N_Lw_most).Nodup := sc_Lw_most.nd
  exact ⟨f, fd, ok3 (T := T_Lw_most P_Lw_low P_Lw_dip) F sc_Lw_most l (fun cdv A outer s H E hr => (vss_cons (vs_set 4 nd (ve_callB (call_maxL rfl rfl) sc_maxL m_max (va_cons (ve_call (G_Lw_low.mono (by decide)) hr g_Lw_low kp_Lw_low b_Lw_low (va_cons (ve_var 2) va_nil)) va_nil)))
  (vss_one (vs_ret (ve_ifExp (vt_cmp (op_eqA rfl hr.units) sr_eq (ve_var 1) (VF.frz (vf_lst va_nil)) (nomark _)) (ve_op op_add sr_add (ve_op op_add sr_add (ve_var 4) ve_int) (ve_callK (kf := kf1) (G_Lw_dip.mono (by decide)) hr g_Lw_dip kp_Lw_dip b_Lw_dip (va_cons (ve_var 0) (va_cons ve_int va_nil)))) (ve_callB (call_min2 rfl) sc_min2 m_min (va_cons (ve_op op_powW sr_powW ve_int ve_int) (va_cons (ve_op op_add sr_add (ve_var 4) (ve_ix (ix_listA rfl) sr_ixL (ve_var 3) (ve_callK (kf := kf1) (G_Lw_dip.mono (by decide)) hr g_Lw_dip kp_Lw_dip b_Lw_dip (va_cons (ve_var 0) (va_cons (ve_callB (call_lenAA rfl) sc_lenA m_len (va_cons (ve_var 3) va_nil)) va_nil))))) va_nil)))))))) v, g, F.kp, FunD.bindsN F fun _ _ _ _ _ _ us hl => match us, hl with | [_, _, _, _], _ => rfl, F⟩
abbrev s_Lw_size : Stmt := top 48
theorem sc_Lw_size : FnScope N_Lw_size ["_law_jar_here", "_law_script", "_law_top"] (defScope s_Lw_size) := ⟨rfl, rfl, rfl, by decide +kernel, rfl, by decide +kernel, by decide +kernel⟩
theorem d_Lw_size {f : Addr} {fd : FuncData} (F : FnD K "_law_size" s_Lw_size f fd) (g : mg "_law_size" = some (.ref f)) {P_Lw_size P_Lw_dip : PV} (l : ∀ ds C Q, P_Lw_size ds C Q → ds.length = 3) (v : ∀ ds C Q3, P_Lw_size ds C Q3 → C.length = 1 → T_Lw_size P_Lw_dip (enF 1 Q3) (start3 N_Lw_size ds) C) (C_Lw_dip : Cal P w K mg base 1 "_law_dip" s_Lw_dip ["_law_jar_here", "_law_below"] 1 P_Lw_dip) : Cal P w K mg base 2 "_law_size" s_Lw_size ["_law_jar_here", "_law_script", "_law_top"] 1 P_Lw_size := by
  obtain ⟨f_Lw_dip, fd_Lw_dip, G_Lw_dip, g_Lw_dip, kp_Lw_dip, b_Lw_dip, F_Lw_dip⟩ := C_Lw_dip
  have nd : (N_Lw_size).Nodup := sc_Lw_size.nd
  exact ⟨f, fd, ok3 (T := T_Lw_size P_Lw_dip) F sc_Lw_size l (fun cdv A outer s H E hr => (vss_one (vs_ret (ve_ifExp (vt_cmp (op_eqA rfl hr.units) sr_eq (ve_var 1) (VF.frz (vf_lst va_nil)) (nomark _)) (ve_op op_add sr_add ve_int (ve_callK (kf := kf1) (G_Lw_dip.mono (by decide)) hr g_Lw_dip kp_Lw_dip b_Lw_dip (va_cons (ve_var 0) (va_cons ve_int va_nil)))) (ve_op op_add sr_add ve_int (ve_callK (kf := kf1) (G_Lw_dip.mono (by decide)) hr g_Lw_dip kp_Lw_dip b_Lw_dip (va_cons (ve_var 0) (va_cons (ve_var 2) va_nil)))))))) v, g, F.kp, FunD.bindsN F fun _ _ _ _ _ _ us hl => match us, hl with | [_, _, _], _ => rfl, F⟩
abbrev s_Lw_plans : Stmt := top 52
theorem sc_Lw_plans : FnScope N_Lw_plans ["_law_heap", "_law_top"] (defScope s_Lw_plans) := ⟨rfl, rfl, rfl, by decide +kernel, rfl, by decide +kernel, by decide +kernel⟩
theorem d_Lw_plans {f : Addr} {fd : FuncData} (F : FnD K "_law_plans" s_Lw_plans f fd) (g : mg "_law_plans" = some (.ref f)) {P_Lw_plans : PV} (l : ∀ ds C Q, P_Lw_plans ds C Q → ds.length = 2) (v : ∀ ds C Q3, P_Lw_plans ds C Q3 → C.length = 0 → T_Lw_plans (enF 0 Q3) (start3 N_Lw_plans ds) C) (m_len : mg "len" = none) (m_range : mg "range" = none) (m_int : mg "int" = none) : Cal P w K mg base 1 "_law_plans" s_Lw_plans ["_law_heap", "_law_top"] 0 P_Lw_plans := by
  have nd : (N_Lw_plans).Nodup := sc_Lw_plans.nd
  exact ⟨f, fd, ok3 (T := T_Lw_plans) F sc_Lw_plans l (fun cdv A outer s H E hr => (vss_cons (vs_set 2 nd (VF.frz (vf_lst (va_cons (VF.frz (vf_lst va_nil)) va_nil))))
  (vss_cons (vs_for PassesOwn.never rfl (vi_range1 m_range (va_cons (ve_callB (call_lenAA rfl) sc_lenA m_len (va_cons (ve_ix (ix_tupA rfl) sr_ixT (ve_var 0) ve_int) va_nil)) va_nil)) (vg_name 3 nd) (vss_cons (vs_set 4 nd (ve_callTy call_int1 sc_int m_int (va_cons (ve_cmp (op_neA rfl hr.units) sr_ne (ve_ix ix_str sr_ixS (ve_ix (ix_tupA rfl) sr_ixT (ve_var 0) ve_int) (ve_var 3)) (ve_ix (ix_tupA rfl) sr_ixT (ve_var 0) ve_int) (nomark _)) va_nil)))
  (vss_cons (vs_set 5 nd (VF.cell (vf_lst va_nil)))
  (vss_cons (vs_forC PassesOwn.never rfl (vi_list rfl (ve_var 2)) (vg_name 6 nd) (vss_one (vs_expr (ve_ml rfl PySem.F.plainAttrs_list PySem.F.slot_list_extend PySem.F.type_list_extend mt_extendR sm_extend (ve_var 5) (va_cons (VF.frz (vf_lc (own := [("_law_block", 7)]) rfl nd (vi_rangeTwo m_range (va_cons (ve_var 4) (va_cons (ve_op op_add sr_add (ve_var 1) ve_int) (va_cons ve_int va_nil)))) (blkOk_by (by kernel_rfl)) (own_name (by decide)) (fun _ _ _ _ _ => (vg_name 7 nd)) (fun _ _ _ _ _ => vts_nil) (fun _ _ _ _ _ => (VF.frz (vf_op op_catR sf_cat (ve_var 6) (VF.frz (vf_lst (va_cons (ve_var 7) va_nil)))))))) va_nil)))))
  (vss_one (vs_set 2 nd (ve_var 5)))))))
  (vss_one (vs_ret (VF.frz (vf_lc (own := [("_law_some", 6)]) rfl nd (vi_list rfl (ve_var 2)) (blkOk_by (by kernel_rfl)) (own_name (by decide)) (fun _ _ _ _ _ => (vg_name 6 nd)) (fun _ _ _ _ _ => (vts_one (vt_cmp (op_eqA rfl hr.units) sr_eq (VF.frz (vf_lc (own := [("_law_one", 8), ("_law_other", 9)]) rfl nd (vi_list rfl (ve_ix (ix_tupA rfl) sr_ixT (ve_var 0) ve_int)) (blkOk_by (by kernel_rfl)) (own_tup (own_cons (own_name (by decide)) (own_cons (own_name (by decide)) own_nil mono_name) mono_name)) (fun _ _ _ _ _ => (vg_tup rfl rfl (vgs_cons (vg_name 8 nd) (vgs_cons (vg_name 9 nd) vgs_nil)))) (fun _ _ _ _ _ => (vts_one (vt_cmp op_lt sr_lt (ve_ix (ix_listA rfl) sr_ixL (ve_var 6) (ve_var 9)) (ve_ix (ix_listA rfl) sr_ixL (ve_var 6) (ve_var 8)) (nomark _)))) (fun _ _ _ _ _ => ve_int))) (VF.frz (vf_lst va_nil)) (nomark _)))) (fun _ _ _ _ _ => (ve_var 6))))))))) v, g, F.kp, FunD.bindsN F fun _ _ _ _ _ _ us hl => match us, hl with | [_, _], _ => rfl, F⟩
abbrev s_Lw_far : Stmt := top 51
theorem sc_Lw_far : FnScope N_Lw_far ["_law_heap"] (defScope s_Lw_far) := ⟨rfl, rfl, rfl, by decide +kernel, rfl, by decide +kernel, by decide +kernel⟩
theorem d_Lw_far {f : Addr} {fd : FuncData} (F : FnD K "_law_far" s_Lw_far f fd) (g : mg "_law_far" = some (.ref f)) {P_Lw_far : PV} (l : ∀ ds C Q, P_Lw_far ds C Q → ds.length = 1) (v : ∀ ds C Q3, P_Lw_far ds C Q3 → C.length = 0 → T_Lw_far (enF 0 Q3) (start3 N_Lw_far ds) C) (m_len : mg "len" = none) (m_range : mg "range" = none) (m_dict : mg "dict" = none) (m_int : mg "int" = none) (m_max : mg "max" = none) : Cal P w K mg base 1 "_law_far" s_Lw_far ["_law_heap"] 0 P_Lw_far := by
  have nd : (N_Lw_far).Nodup := sc_Lw_far.nd
  exact ⟨f, fd, ok3 (T := T_Lw_far) F sc_Lw_far l (fun cdv A outer s H E hr => (vss_cons (vs_set 1 nd (VF.cell (vf_callTy (call_dictT3 rfl rfl (u65 hr)) sf_dictT m_dict (va_cons (VF.frz (vf_lc (own := [("_law_k", 2)]) rfl nd (vi_range1 m_range (va_cons (ve_callB (call_lenAA rfl) sc_lenA m_len (va_cons (ve_ix (ix_tupA rfl) sr_ixT (ve_var 0) ve_int) va_nil)) va_nil)) (blkOk_by (by kernel_rfl)) (own_name (by decide)) (fun _ _ _ _ _ => (vg_name 2 nd)) (fun _ _ _ _ _ => vts_nil) (fun _ _ _ _ _ => (ve_tup (va_cons (ve_tup (va_cons (ve_var 2) (va_cons (ve_var 2) va_nil))) (va_cons ve_int va_nil)))))) va_nil))))
  (vss_cons (vs_for PassesOwn.never rfl (vi_range1 m_range (va_cons (ve_callB (call_lenAA rfl) sc_lenA m_len (va_cons (ve_ix (ix_tupA rfl) sr_ixT (ve_var 0) ve_int) va_nil)) va_nil)) (vg_name 3 nd) (vss_one (vs_for PassesOwn.never rfl (vi_list rfl (ve_ix (ix_tupA rfl) sr_ixT (ve_var 0) ve_int)) (vg_tup rfl rfl (vgs_cons (vg_name 4 nd) (vgs_cons (vg_name 5 nd) vgs_nil))) (vss_cons (vs_set 6 nd (ve_callTy call_int1 sc_int m_int (va_cons (ve_cmp (op_neA rfl hr.units) sr_ne (ve_ix ix_str sr_ixS (ve_ix (ix_tupA rfl) sr_ixT (ve_var 0) ve_int) (ve_var 4)) (ve_ix ix_str sr_ixS (ve_ix (ix_tupA rfl) sr_ixT (ve_var 0) ve_int) (ve_var 5)) (nomark _)) va_nil)))
  (vss_one (vs_for PassesOwn.never rfl (vi_range1 m_range (va_cons (ve_callB (call_lenAA rfl) sc_lenA m_len (va_cons (ve_ix (ix_tupA rfl) sr_ixT (ve_var 0) ve_int) va_nil)) va_nil)) (vg_name 2 nd) (vss_one (vs_if (vt_cmp (op_din (u1 hr)) sr_tin (ve_tup (va_cons (ve_var 2) (va_cons (ve_var 4) va_nil))) (ve_var 1) (by rfl)) (vss_one (vs_asg (ve_callB (call_max2 rfl) sc_max2 m_max (va_cons (ve_tget2 (ve_var 1) (ve_tup (va_cons (ve_var 2) (va_cons (ve_var 5) va_nil))) ve_int (u1 hr)) (va_cons (ve_op op_add sr_add (ve_tget (ve_var 1) (ve_tup (va_cons (ve_var 2) (va_cons (ve_var 4) va_nil))) (u1 hr)) (ve_var 6)) va_nil))) (vg_subT (u1 hr) (ve_var 1) (ve_tup (va_cons (ve_var 2) (va_cons (ve_var 5) va_nil)))))) vss_nil))))))))
  (vss_one (vs_ret (ve_var 1)))))) v, g, F.kp, FunD.bindsN F fun _ _ _ _ _ _ us hl => match us, hl with | [_], _ => rfl, F⟩
abbrev s_Lw_told : Stmt := top 54
theorem sc_Lw_told : FnScope N_Lw_told ["_law_jar_here", "_law_own", "_law_top"] (defScope s_Lw_told) := ⟨rfl, rfl, rfl, by decide +kernel, rfl, by decide +kernel, by decide +kernel⟩
theorem d_Lw_told {f : Addr} {fd : FuncData} (F : FnD K "_law_told" s_Lw_told f fd) (g : mg "_law_told" = some (.ref f)) {P_Lw_told P_Lw_dip : PV} (l : ∀ ds C Q, P_Lw_told ds C Q → ds.length = 3) (v : ∀ ds C Q3, P_Lw_told ds C Q3 → C.length = 1 → T_Lw_told P_Lw_dip (enF 1 Q3) (start3 N_Lw_told ds) C) (C_Lw_dip : Cal P w K mg base 1 "_law_dip" s_Lw_dip ["_law_jar_here", "_law_below"] 1 P_Lw_dip) (m_len : mg "len" = none) (m_range : mg "range" = none) (m_max : mg "max" = none) (m_min : mg "min" = none) : Cal P w K mg base 2 "_law_told" s_Lw_told ["_law_jar_here", "_law_own", "_law_top"] 1 P_Lw_told := by
  obtain ⟨f_Lw_dip, fd_Lw_dip, G_Lw_dip, g_Lw_dip, kp_Lw_dip, b_Lw_dip, F_Lw_dip⟩ := C_Lw_dip
  have nd : (N_Lw_told).Nodup := sc_Lw_told.nd
  exact ⟨f, fd, ok3 (T := T_Lw_told P_Lw_dip) F sc_Lw_told l (fun cdv A outer s H E hr => (vss_cons (vs_set 3 nd (VF.cell vf_dk0))
  (vss_cons (vs_for PassesOwn.never rfl (vi_range1 m_range (va_cons (ve_callB (call_lenAA rfl) sc_lenA m_len (va_cons (ve_var 1) va_nil)) va_nil)) (vg_name 4 nd) (vss_cons (vs_set 5 nd (ve_callB (call_min2 rfl) sc_min2 m_min (va_cons (ve_op op_powW sr_powW ve_int ve_int) (va_cons (ve_callB (call_max2 rfl) sc_max2 m_max (va_cons ve_int (va_cons (ve_op op_sub sr_sub (ve_op op_add sr_add (ve_ix (ix_listA rfl) sr_ixL (ve_var 1) (ve_var 4)) (ve_op op_mulW sr_mulW ve_int (ve_callK (kf := kf1) (G_Lw_dip.mono (by decide)) hr g_Lw_dip kp_Lw_dip b_Lw_dip (va_cons (ve_var 0) (va_cons ve_int va_nil))))) ve_int) va_nil))) va_nil))))
  (vss_cons (vs_set 6 nd (ve_ix (ix_listA rfl) sr_ixL (VF.frz (vf_lst (va_cons (ve_ix (ix_listA rfl) sr_ixL (ve_var 1) (ve_var 4)) (va_cons (ve_ix (ix_listA rfl) sr_ixL (ve_var 1) (ve_var 4)) (va_cons (ve_var 5) (va_cons (ve_callB (call_min2 rfl) sc_min2 m_min (va_cons (ve_op op_powW sr_powW ve_int ve_int) (va_cons (ve_callK (kf := kf1) (G_Lw_dip.mono (by decide)) hr g_Lw_dip kp_Lw_dip b_Lw_dip (va_cons (ve_var 0) (va_cons (ve_op op_add sr_add (ve_var 2) ve_int) va_nil))) va_nil))) va_nil)))))) (ve_callK (kf := kf1) (G_Lw_dip.mono (by decide)) hr g_Lw_dip kp_Lw_dip b_Lw_dip (va_cons (ve_var 0) (va_cons ve_int va_nil)))))
  (vss_one (vs_if (vt_cmp op_gt sr_gt (ve_callK (kf := kf1) (G_Lw_dip.mono (by decide)) hr g_Lw_dip kp_Lw_dip b_Lw_dip (va_cons (ve_var 0) (va_cons ve_int va_nil))) ve_int (nomark _)) (vss_one (vs_asg (ve_var 6) (vg_subD (u1 hr) (ve_var 3) (ve_var 4)))) vss_nil)))))
  (vss_one (vs_ret (ve_var 3)))))) v, g, F.kp, FunD.bindsN F fun _ _ _ _ _ _ us hl => match us, hl with | [_, _, _], _ => rfl, F⟩
abbrev s_Lw_by_plans : Stmt := top 56
theorem sc_Lw_by_plans : FnScope N_Lw_by_plans ["_law_plans_here", "_law_far_here", "_law_blocks"] (defScope s_Lw_by_plans) := ⟨rfl, rfl, rfl, by decide +kernel, rfl, by decide +kernel, by decide +kernel⟩
theorem d_Lw_by_plans {f : Addr} {fd : FuncData} (F : FnD K "_law_by_plans" s_Lw_by_plans f fd) (g : mg "_law_by_plans" = some (.ref f)) {P_Lw_by_plans : PV} (l : ∀ ds C Q, P_Lw_by_plans ds C Q → ds.length = 3) (v : ∀ ds C Q3, P_Lw_by_plans ds C Q3 → C.length = 0 → T_Lw_by_plans (enF 0 Q3) (start3 N_Lw_by_plans ds) C) (m_sorted : mg "sorted" = none) : Cal P w K mg base 1 "_law_by_plans" s_Lw_by_plans ["_law_plans_here", "_law_far_here", "_law_blocks"] 0 P_Lw_by_plans := by
  have nd : (N_Lw_by_plans).Nodup := sc_Lw_by_plans.nd
  exact ⟨f, fd, ok3 (T := T_Lw_by_plans) F sc_Lw_by_plans l (fun cdv A outer s H E hr => (vss_cons (vs_if (vt_cmp (op_neA rfl hr.units) sr_ne (VF.frz (vf_lc (own := [("_law_some", 3)]) rfl nd (vi_list rfl (ve_var 0)) (blkOk_by (by kernel_rfl)) (own_name (by decide)) (fun _ _ _ _ _ => (vg_name 3 nd)) (fun _ _ _ _ _ => (vts_one (vt_cmp (op_eqA rfl hr.units) sr_eq (VF.frz (vf_lcKk 2 (own := [("_law_k", 4)]) rfl nd (blkOk_by (by kernel_rfl)) (own_name (by decide)) (fun _ _ _ _ _ => (vg_name 4 nd)) (fun _ _ _ _ _ => (vts_one (vt_cmp (op_neA rfl hr.units) sr_ne (ve_ix (ix_listA rfl) sr_ixL (ve_var 3) (ve_var 4)) (ve_dget (ve_var 2) (ve_var 4) (u1 hr)) (nomark _)))) (fun _ _ _ _ _ => (ve_var 4)))) (VF.frz (vf_lst va_nil)) (nomark _)))) (fun _ _ _ _ _ => ve_int))) (VF.frz (vf_lst va_nil)) (nomark _)) (vss_one (vs_ret ve_non)) vss_nil)
  (vss_cons (vs_for PassesOwn.never rfl (vi_list rfl (VF.frz (vf_callB (call_sortedDI rfl) sf_sortDI m_sorted (va_cons (ve_var 2) va_nil)))) (vg_name 5 nd) (vss_one (vs_if (vt_cmp (op_notInA rfl (u65 hr)) sr_notIn (ve_dget (ve_var 2) (ve_var 5) (u1 hr)) (VF.frz (vf_lc (own := [("_law_some", 3)]) rfl nd (vi_list rfl (ve_var 0)) (blkOk_by (by kernel_rfl)) (own_name (by decide)) (fun _ _ _ _ _ => (vg_name 3 nd)) (fun _ _ _ _ _ => vts_nil) (fun _ _ _ _ _ => (ve_ix (ix_listA rfl) sr_ixL (ve_var 3) (ve_var 5))))) (by rfl)) (vss_one (vs_ret (ve_tup (va_cons ve_str (va_cons (ve_var 5) va_nil))))) vss_nil)))
  (vss_cons (vs_for PassesOwn.never rfl (vi_list rfl (VF.frz (vf_callB (call_sortedDI rfl) sf_sortDI m_sorted (va_cons (ve_var 2) va_nil)))) (vg_name 5 nd) (vss_one (vs_for PassesOwn.never rfl (vi_list rfl (VF.frz (vf_callB (call_sortedDI rfl) sf_sortDI m_sorted (va_cons (ve_var 2) va_nil)))) (vg_name 6 nd) (vss_cons (vs_set 7 nd (ve_tup (va_cons (ve_dget (ve_var 2) (ve_var 5) (u1 hr)) (va_cons (ve_dget (ve_var 2) (ve_var 6) (u1 hr)) va_nil))))
  (vss_cons (vs_setLc 8 false (own := [("_law_some", 3)]) rfl nd (vi_list rfl (ve_var 0)) (blkOk_by (by kernel_rfl)) (own_name (by decide)) (fun _ _ _ _ _ => (vg_name 3 nd)) (fun _ _ _ _ _ => vts_nil) (fun _ _ _ _ _ => (ve_tup (va_cons (ve_ix (ix_listA rfl) sr_ixL (ve_var 3) (ve_var 5)) (va_cons (ve_ix (ix_listA rfl) sr_ixL (ve_var 3) (ve_var 6)) va_nil)))))
  (vss_one (vs_if (VW.vt (vw_and (vt_cmp (op_neA rfl hr.units) sr_ne (ve_var 5) (ve_var 6) (nomark _)) (vw_and (vt_cmp (op_din (u1 hr)) sr_tin (ve_tup (va_cons (ve_var 5) (va_cons (ve_var 6) va_nil))) (ve_var 1) (by rfl)) (vw_and1 (vt_cmp (op_notInA rfl (u65 hr)) sr_notIn (ve_var 7) (ve_var 8) (by rfl)))))) (vss_one (vs_ret (ve_tup (va_cons ve_str (va_cons (ve_var 5) (va_cons (ve_var 6) va_nil)))))) vss_nil)))))))
  (vss_one (vs_ret ve_str)))))) v, g, F.kp, FunD.bindsN F fun _ _ _ _ _ _ us hl => match us, hl with | [_, _, _], _ => rfl, F⟩
abbrev s_Lw_high : Stmt := top 50
theorem sc_Lw_high : FnScope N_Lw_high ["_law_heap", "_law_top"] (defScope s_Lw_high) := ⟨rfl, rfl, rfl, by decide +kernel, rfl, by decide +kernel, by decide +kernel⟩
theorem d_Lw_high {f : Addr} {fd : FuncData} (F : FnD K "_law_high" s_Lw_high f fd) (g : mg "_law_high" = some (.ref f)) {P_Lw_high : PV} (l : ∀ ds C Q, P_Lw_high ds C Q → ds.length = 2) (v : ∀ ds C Q3, P_Lw_high ds C Q3 → C.length = 0 → T_Lw_high (enF 0 Q3) (start3 N_Lw_high ds) C) (m_len : mg "len" = none) (m_range : mg "range" = none) (m_int : mg "int" = none) (m_max : mg "max" = none) (m_zip : mg "zip" = none) : Cal P w K mg base 1 "_law_high" s_Lw_high ["_law_heap", "_law_top"] 0 P_Lw_high := by
  have nd : (N_Lw_high).Nodup := sc_Lw_high.nd
  exact ⟨f, fd, ok3 (T := T_Lw_high) F sc_Lw_high l (fun cdv A outer s H E hr => (vss_cons (vs_set 2 nd (VF.cell (vf_op op_repR sf_rep (VF.frz (vf_lst (va_cons ve_int va_nil))) (ve_callB (call_lenAA rfl) sc_lenA m_len (va_cons (ve_ix (ix_tupA rfl) sr_ixT (ve_var 0) ve_int) va_nil)))))
  (vss_cons (vs_for PassesOwn.never rfl (vi_range1 m_range (va_cons (ve_callB (call_lenAA rfl) sc_lenA m_len (va_cons (ve_var 2) va_nil)) va_nil)) (vg_name 3 nd) (vss_one (vs_for PassesOwn.never rfl (vi_list rfl (ve_ix (ix_tupA rfl) sr_ixT (ve_var 0) ve_int)) (vg_tup rfl rfl (vgs_cons (vg_name 4 nd) (vgs_cons (vg_name 5 nd) vgs_nil))) (vss_one (vs_asg (ve_callB (call_max2 rfl) sc_max2 m_max (va_cons (ve_ix (ix_listA rfl) sr_ixL (ve_var 2) (ve_var 4)) (va_cons (ve_op op_add sr_add (ve_ix (ix_listA rfl) sr_ixL (ve_var 2) (ve_var 5)) (ve_callTy call_int1 sc_int m_int (va_cons (ve_cmp (op_neA rfl hr.units) sr_ne (ve_ix ix_str sr_ixS (ve_ix (ix_tupA rfl) sr_ixT (ve_var 0) ve_int) (ve_var 4)) (ve_ix ix_str sr_ixS (ve_ix (ix_tupA rfl) sr_ixT (ve_var 0) ve_int) (ve_var 5)) (nomark _)) va_nil))) va_nil))) (vg_subL (ve_var 2) (ve_var 4)))))))
  (vss_cons (vs_set 6 nd (VF.cell (vf_lst va_nil)))
  (vss_cons (vs_forC PassesOwn.never rfl (vi_zipM rfl m_zip (va_cons (ve_ix (ix_tupA rfl) sr_ixT (ve_var 0) ve_int) (va_cons (ve_var 2) va_nil))) (vg_tup rfl rfl (vgs_cons (vg_name 7 nd) (vgs_cons (vg_name 8 nd) vgs_nil))) (vss_one (vs_expr (ve_ml rfl PySem.F.plainAttrs_list PySem.F.slot_list_append PySem.F.type_list_append mt_append sm_append (ve_var 6) (va_cons (ve_op op_sub sr_sub (ve_op op_sub sr_sub (ve_var 1) (ve_var 8)) (ve_op op_mod sr_mod (ve_op op_sub sr_sub (ve_op op_sub sr_sub (ve_var 1) (ve_var 8)) (ve_callTy call_int1 sc_int m_int (va_cons (ve_cmp (op_neA rfl hr.units) sr_ne (ve_var 7) (ve_ix (ix_tupA rfl) sr_ixT (ve_var 0) ve_int) (nomark _)) va_nil))) ve_int)) va_nil)))))
  (vss_one (vs_ret (ve_var 6)))))))) v, g, F.kp, FunD.bindsN F fun _ _ _ _ _ _ us hl => match us, hl with | [_, _], _ => rfl, F⟩
abbrev s_Lw_plan : Stmt := top 53
theorem sc_Lw_plan : FnScope N_Lw_plan ["_law_jar_here", "_law_heap", "_law_top"] (defScope s_Lw_plan) := ⟨rfl, rfl, rfl, by decide +kernel, rfl, by decide +kernel, by decide +kernel⟩
theorem d_Lw_plan {f : Addr} {fd : FuncData} (F : FnD K "_law_plan" s_Lw_plan f fd) (g : mg "_law_plan" = some (.ref f)) {P_Lw_plan P_Lw_far P_Lw_high P_Lw_low P_Lw_dip : PV} (l : ∀ ds C Q, P_Lw_plan ds C Q → ds.length = 3) (v : ∀ ds C Q3, P_Lw_plan ds C Q3 → C.length = 1 → T_Lw_plan P_Lw_far P_Lw_high P_Lw_low P_Lw_dip (enF 1 Q3) (start3 N_Lw_plan ds) C) (C_Lw_far : Cal P w K mg base 1 "_law_far" s_Lw_far ["_law_heap"] 0 P_Lw_far) (C_Lw_high : Cal P w K mg base 1 "_law_high" s_Lw_high ["_law_heap", "_law_top"] 0 P_Lw_high) (C_Lw_low : Cal P w K mg base 1 "_law_low" s_Lw_low ["_law_heap"] 0 P_Lw_low) (C_Lw_dip : Cal P w K mg base 1 "_law_dip" s_Lw_dip ["_law_jar_here", "_law_below"] 1 P_Lw_dip) (m_zip : mg "zip" = none) (m_min : mg "min" = none) (m_len : mg "len" = none) (m_list : mg "list" = none) (m_range : mg "range" = none) (m_max : mg "max" = none) : Cal P w K mg base 2 "_law_plan" s_Lw_plan ["_law_jar_here", "_law_heap", "_law_top"] 1 P_Lw_plan := by
  obtain ⟨f_Lw_far, fd_Lw_far, G_Lw_far, g_Lw_far, kp_Lw_far, b_Lw_far, F_Lw_far⟩ := C_Lw_far
  obtain ⟨f_Lw_high, fd_Lw_high, G_Lw_high, g_Lw_high, kp_Lw_high, b_Lw_high, F_Lw_high⟩ := C_Lw_high
  obtain ⟨f_Lw_low, fd_Lw_low, G_Lw_low, g_Lw_low, kp_Lw_low, b_Lw_low, F_Lw_low⟩ := C_Lw_low
  obtain ⟨f_Lw_dip, fd_Lw_dip, G_Lw_dip, g_Lw_dip, kp_Lw_dip, b_Lw_dip, F_Lw_dip⟩ := C_Lw_dip
  have nd : (N_Lw_plan).Nodup := sc_Lw_plan.nd
  exact ⟨f, fd, ok3 (T := T_Lw_plan P_Lw_far P_Lw_high P_Lw_low P_Lw_dip) F sc_Lw_plan l (fun cdv A outer s H E hr => (vss_cons (vs_asg (ve_tup (va_cons (ve_call (G_Lw_low.mono (by decide)) hr g_Lw_low kp_Lw_low b_Lw_low (va_cons (ve_var 1) va_nil)) (va_cons (ve_call (G_Lw_high.mono (by decide)) hr g_Lw_high kp_Lw_high b_Lw_high (va_cons (ve_var 1) (va_cons (ve_var 2) va_nil))) (va_cons (ve_call (G_Lw_far.mono (by decide)) hr g_Lw_far kp_Lw_far b_Lw_far (va_cons (ve_var 1) va_nil)) va_nil)))) (vg_tup rfl rfl (vgs_cons (vg_name 3 nd) (vgs_cons (vg_name 4 nd) (vgs_cons (vg_name 5 nd) vgs_nil)))))
  (vss_cons (vs_set 6 nd (VF.cell (vf_lst va_nil)))
  (vss_cons (vs_for PassesOwn.never rfl (vi_zip rfl m_zip (va_cons (ve_var 3) (va_cons (ve_var 4) va_nil))) (vg_tup rfl rfl (vgs_cons (vg_name 7 nd) (vgs_cons (vg_name 8 nd) vgs_nil))) (vss_cons (vs_set 9 nd (ve_op op_fdivW sr_divW (ve_op op_sub sr_sub (ve_var 8) (ve_var 7)) ve_int))
  (vss_cons (vs_set 10 nd (VF.frz (vf_lst (va_cons ve_int (va_cons (ve_callK (kf := kf1) (G_Lw_dip.mono (by decide)) hr g_Lw_dip kp_Lw_dip b_Lw_dip (va_cons (ve_var 0) (va_cons (ve_op op_add sr_add (ve_var 9) ve_int) va_nil))) (va_cons (ve_callB (call_min2 rfl) sc_min2 m_min (va_cons (ve_var 9) (va_cons (ve_callK (kf := kf1) (G_Lw_dip.mono (by decide)) hr g_Lw_dip kp_Lw_dip b_Lw_dip (va_cons (ve_var 0) (va_cons ve_int va_nil))) va_nil))) va_nil))))))
  (vss_one (vs_expr (ve_ml rfl PySem.F.plainAttrs_list PySem.F.slot_list_append PySem.F.type_list_append mt_append sm_append (ve_var 6) (va_cons (ve_op op_add sr_add (ve_var 7) (ve_op op_mulW sr_mulW ve_int (ve_ix (ix_listA rfl) sr_ixL (ve_var 10) (ve_callK (kf := kf1) (G_Lw_dip.mono (by decide)) hr g_Lw_dip kp_Lw_dip b_Lw_dip (va_cons (ve_var 0) (va_cons ve_int va_nil)))))) va_nil)))))))
  (vss_cons (vs_set 11 nd (VF.frz (vf_listRange rfl m_list m_range (ve_callB (call_lenAA rfl) sc_lenA m_len (va_cons (ve_var 3) va_nil)))))
  (vss_one (vs_ret (VF.frz (vf_lc (own := [("_law_j", 13)]) rfl nd (vi_list rfl (ve_var 11)) (blkOk_by (by kernel_rfl)) (own_name (by decide)) (fun _ _ _ _ _ => (vg_name 13 nd)) (fun _ _ _ _ _ => vts_nil) (fun _ _ _ _ _ => (ve_callB (call_maxL rfl rfl) sc_maxL m_max (va_cons (VF.frz (vf_lc (own := [("_law_k", 12)]) rfl nd (vi_list rfl (ve_var 11)) (blkOk_by (by kernel_rfl)) (own_name (by decide)) (fun _ _ _ _ _ => (vg_name 12 nd)) (fun _ _ _ _ _ => (vts_one (vt_cmp (op_din (u1 hr)) sr_tin (ve_tup (va_cons (ve_var 12) (va_cons (ve_var 13) va_nil))) (ve_var 5) (by rfl)))) (fun _ _ _ _ _ => (ve_op op_add sr_add (ve_ix (ix_listA rfl) sr_ixL (ve_var 6) (ve_var 12)) (ve_tget (ve_var 5) (ve_tup (va_cons (ve_var 12) (va_cons (ve_var 13) va_nil))) (u1 hr)))))) va_nil)))))))))))) v, g, F.kp, FunD.bindsN F fun _ _ _ _ _ _ us hl => match us, hl with | [_, _, _], _ => rfl, F⟩
abbrev s_Lw_same : Stmt := top 46
theorem sc_Lw_same : FnScope N_Lw_same ["_law_found", "_law_due"] (defScope s_Lw_same) := ⟨rfl, rfl, rfl, by decide +kernel, rfl, by decide +kernel, by decide +kernel⟩
theorem nv_Lw_same {lo : Nat} {f : Addr} {fd : FuncData} (F : FnD K "_law_same" s_Lw_same f fd) (g : mg "_law_same" = some (.ref f)) : Cal P w K mg base lo "_law_same" s_Lw_same ["_law_found", "_law_due"] 0 P_never := cal_never F g (FunD.bindsN F fun _ _ _ _ _ _ us hl => match us, hl with | [_, _], _ => rfl)
theorem d_Lw_same {f : Addr} {fd : FuncData} (F : FnD K "_law_same" s_Lw_same f fd) (g : mg "_law_same" = some (.ref f)) {P__hi P_Lw_same : PV} {lo : Nat} (hlo : 0 ≤ lo) (l : ∀ ds C Q, P__hi ds C Q → ds.length = 2) (v : ∀ ds C Q3, P__hi ds C Q3 → C.length = 0 → T_Lw_same P_Lw_same (enF 0 Q3) (start3 N_Lw_same ds) C) (C_Lw_same : Cal P w K mg base lo "_law_same" s_Lw_same ["_law_found", "_law_due"] 0 P_Lw_same) (m_isinstance : mg "isinstance" = none) (m_list : mg "list" = none) (m_tuple : mg "tuple" = none) (m_zip : mg "zip" = none) (m_all : mg "all" = none) (m_len : mg "len" = none) (m_bool : mg "bool" = none) (m_str : mg "str" = none) : Cal P w K mg base (lo + 1) "_law_same" s_Lw_same ["_law_found", "_law_due"] 0 P__hi := by
  obtain ⟨f_Lw_same, fd_Lw_same, G_Lw_same, g_Lw_same, kp_Lw_same, b_Lw_same, F_Lw_same⟩ := C_Lw_same
  have nd : (N_Lw_same).Nodup := sc_Lw_same.nd
  exact ⟨f, fd, ok3 (T := T_Lw_same P_Lw_same) F sc_Lw_same l (fun cdv A outer s H E hr => (vss_cons (vs_if (vt_val (ve_isi2 .list .tuple rfl m_isinstance m_list m_tuple (ve_var 1))) (vss_cons (vs_if (VW.vt (vw_or (vt_cmp (op_neA rfl hr.units) sr_ne (ve_isi .list rfl m_isinstance m_list (ve_var 0)) (ve_isi .list rfl m_isinstance m_list (ve_var 1)) (nomark _)) (vw_or1 (vt_cmp (op_neA rfl hr.units) sr_ne (ve_isi .tuple rfl m_isinstance m_tuple (ve_var 0)) (ve_isi .tuple rfl m_isinstance m_tuple (ve_var 1)) (nomark _))))) (vss_one (vs_ret ve_bl)) vss_nil)
  (vss_one (vs_ret (ve_and (ve_cmp (op_eqA rfl hr.units) sr_eq (ve_callB (call_lenAA rfl) sc_lenA m_len (va_cons (ve_var 0) va_nil)) (ve_callB (call_lenAA rfl) sc_lenA m_len (va_cons (ve_var 1) va_nil)) (nomark _)) (ve_one (ve_callB (call_all rfl rfl) sc_all m_all (va_cons (VF.frz (vf_lc (own := [("_law_mine", 2), ("_law_theirs", 3)]) rfl nd (vi_zipS rfl m_zip (va_cons (ve_var 0) (va_cons (ve_var 1) va_nil))) (blkOk_by (by kernel_rfl)) (own_tup (own_cons (own_name (by decide)) (own_cons (own_name (by decide)) own_nil mono_name) mono_name)) (fun _ _ _ _ _ => (vg_tup rfl rfl (vgs_cons (vg_name 2 nd) (vgs_cons (vg_name 3 nd) vgs_nil)))) (fun _ _ _ _ _ => vts_nil) (fun _ _ _ _ _ => (ve_call (G_Lw_same.mono (Nat.le_refl _)) hr g_Lw_same kp_Lw_same b_Lw_same (va_cons (ve_var 2) (va_cons (ve_var 3) va_nil)))))) va_nil))))))) vss_nil)
  (vss_cons (vs_if (VW.vt (vw_or (vt_cmp op_isN sr_isN (ve_var 1) ve_non (nomark _)) (vw_or1 (vt_cmp op_isN sr_isN (ve_var 0) ve_non (nomark _))))) (vss_one (vs_ret (ve_and (ve_cmp op_isN sr_isN (ve_var 1) ve_non (nomark _)) (ve_one (ve_cmp op_isN sr_isN (ve_var 0) ve_non (nomark _)))))) vss_nil)
  (vss_cons (vs_if (VW.vt (vw_or (vt_val (ve_isi .bool rfl m_isinstance m_bool (ve_var 1))) (vw_or1 (vt_val (ve_isi .bool rfl m_isinstance m_bool (ve_var 0)))))) (vss_one (vs_ret (ve_and (ve_isi .bool rfl m_isinstance m_bool (ve_var 1)) (ve_and (ve_isi .bool rfl m_isinstance m_bool (ve_var 0)) (ve_one (ve_cmp (op_eqA rfl hr.units) sr_eq (ve_var 0) (ve_var 1) (nomark _))))))) vss_nil)
  (vss_one (vs_ret (ve_and (ve_cmp (op_eqA rfl hr.units) sr_eq (ve_isi .str rfl m_isinstance m_str (ve_var 0)) (ve_isi .str rfl m_isinstance m_str (ve_var 1)) (nomark _)) (ve_one (ve_cmp (op_eqA rfl hr.units) sr_eq (ve_var 0) (ve_var 1) (nomark _)))))))))) v, g, F.kp, FunD.bindsN F fun _ _ _ _ _ _ us hl => match us, hl with | [_, _], _ => rfl, F⟩
abbrev s_is_whole : Stmt := top 37
theorem sc_is_whole : FnScope N_is_whole ["thing", "most"] (defScope s_is_whole) := ⟨rfl, rfl, rfl, by decide +kernel, rfl, by decide +kernel, by decide +kernel⟩
theorem d_is_whole {f : Addr} {fd : FuncData} (F : FnD K "is_whole" s_is_whole f fd) (g : mg "is_whole" = some (.ref f)) {P_is_whole : PV} (l : ∀ ds C Q, P_is_whole ds C Q → ds.length = 2) (v : ∀ ds C Q3, P_is_whole ds C Q3 → C.length = 0 → T_is_whole (enF 0 Q3) (start3 N_is_whole ds) C) (m_isinstance : mg "isinstance" = none) (m_bool : mg "bool" = none) (m_int : mg "int" = none) : Cal P w K mg base 1 "is_whole" s_is_whole ["thing", "most"] 0 P_is_whole := by
  have nd : (N_is_whole).Nodup := sc_is_whole.nd
  exact ⟨f, fd, ok3 (T := T_is_whole) F sc_is_whole l (fun cdv A outer s H E hr => (vss_one (vs_ret (ve_and (ve_isi .int rfl m_isinstance m_int (ve_var 0)) (ve_and (ve_not (ve_isi .bool rfl m_isinstance m_bool (ve_var 0))) (ve_one (ve_chain op_le sr_le op_le sr_le ve_int (ve_var 0) (ve_var 1)))))))) v, g, F.kp, FunD.bindsN F fun _ _ _ _ _ _ us hl => match us, hl with | [_, _], _ => rfl, F⟩
abbrev s_need_told : Stmt := top 38
theorem sc_need_told : FnScope N_need_told ["pile", "told"] (defScope s_need_told) := ⟨rfl, rfl, rfl, by decide +kernel, rfl, by decide +kernel, by decide +kernel⟩
theorem d_need_told {f : Addr} {fd : FuncData} (F : FnD K "need_told" s_need_told f fd) (g : mg "need_told" = some (.ref f)) {P_need_told P_is_whole : PV} (l : ∀ ds C Q, P_need_told ds C Q → ds.length = 2) (v : ∀ ds C Q3, P_need_told ds C Q3 → C.length = 0 → T_need_told P_is_whole (enF 0 Q3) (start3 N_need_told ds) C) (C_is_whole : Cal P w K mg base 1 "is_whole" s_is_whole ["thing", "most"] 0 P_is_whole) (m_isinstance : mg "isinstance" = none) (m_dict : mg "dict" = none) (m_len : mg "len" = none) (c_MOST_BLOCK : ∃ t, mg "MOST_BLOCK" = some (.int 1000000000000000000000000000000 t)) : Cal P w K mg base 2 "need_told" s_need_told ["pile", "told"] 0 P_need_told := by
  obtain ⟨f_is_whole, fd_is_whole, G_is_whole, g_is_whole, kp_is_whole, b_is_whole, F_is_whole⟩ := C_is_whole
  have nd : (N_need_told).Nodup := sc_need_told.nd
  exact ⟨f, fd, ok3 (T := T_need_told P_is_whole) F sc_need_told l (fun cdv A outer s H E hr => (vss_cons (vs_if (vt_not (vt_val (ve_isi .dict rfl m_isinstance m_dict (ve_var 1)))) (vss_one vs_never) vss_nil)
  (vss_one (vs_forIk 1 PassesOwn.never rfl (vg_tup rfl rfl (vgs_cons (vg_name 2 nd) (vgs_cons (vg_name 3 nd) vgs_nil))) (vss_one (vs_if (VW.vt (vw_or (vt_not (vt_val (ve_call (G_is_whole.mono (by decide)) hr g_is_whole kp_is_whole b_is_whole (va_cons (ve_var 2) (va_cons (ve_op op_sub sr_sub (ve_callB (call_lenAA rfl) sc_lenA m_len (va_cons (ve_ix (ix_tupA rfl) sr_ixT (ve_var 0) ve_int) va_nil)) ve_int) va_nil))))) (vw_or1 (vt_not (vt_val (ve_call (G_is_whole.mono (by decide)) hr g_is_whole kp_is_whole b_is_whole (va_cons (ve_var 3) (va_cons (ve_gint c_MOST_BLOCK) va_nil)))))))) (vss_one vs_never) vss_nil)))))) v, g, F.kp, FunD.bindsN F fun _ _ _ _ _ _ us hl => match us, hl with | [_, _], _ => rfl, F⟩
abbrev s_bars_by : Stmt := top 41
theorem sc_bars_by : FnScope N_bars_by ["spans", "low", "high", "told"] (defScope s_bars_by) := ⟨rfl, rfl, rfl, by decide +kernel, rfl, by decide +kernel, by decide +kernel⟩
theorem d_bars_by {f : Addr} {fd : FuncData} (F : FnD K "bars_by" s_bars_by f fd) (g : mg "bars_by" = some (.ref f)) {P_bars_by : PV} (l : ∀ ds C Q, P_bars_by ds C Q → ds.length = 4) (v : ∀ ds C Q3, P_bars_by ds C Q3 → C.length = 0 → T_bars_by (enF 0 Q3) (start3 N_bars_by ds) C) (m_sorted : mg "sorted" = none) (c_ALONE : ∃ t, mg "ALONE" = some (.str "alone" t)) (c_BOTH : ∃ t, mg "BOTH" = some (.str "both" t)) : Cal P w K mg base 1 "bars_by" s_bars_by ["spans", "low", "high", "told"] 0 P_bars_by := by
  have nd : (N_bars_by).Nodup := sc_bars_by.nd
  exact ⟨f, fd, ok3 (T := T_bars_by) F sc_bars_by l (fun cdv A outer s H E hr => (vss_cons (vs_for PassesOwn.never rfl (vi_list rfl (VF.frz (vf_callB (call_sortedDI rfl) sf_sortDI m_sorted (va_cons (ve_var 3) va_nil)))) (vg_name 4 nd) (vss_one (vs_if (VW.vt (vw_or (vt_not (vt_chain op_le sr_le op_le sr_le (ve_ix (ix_listA rfl) sr_ixL (ve_var 1) (ve_var 4)) (ve_dget (ve_var 3) (ve_var 4) (u1 hr)) (ve_ix (ix_listA rfl) sr_ixL (ve_var 2) (ve_var 4)))) (vw_or1 (vt_cmp (op_eqA rfl hr.units) sr_eq (ve_op op_mod sr_mod (ve_op op_sub sr_sub (ve_dget (ve_var 3) (ve_var 4) (u1 hr)) (ve_ix (ix_listA rfl) sr_ixL (ve_var 1) (ve_var 4))) ve_int) ve_int (nomark _))))) (vss_one (vs_ret (ve_tup (va_cons (ve_gstr c_ALONE) (va_cons (ve_var 4) va_nil))))) vss_nil)))
  (vss_cons (vs_for PassesOwn.never rfl (vi_list rfl (VF.frz (vf_callB (call_sortedDI rfl) sf_sortDI m_sorted (va_cons (ve_var 3) va_nil)))) (vg_name 4 nd) (vss_one (vs_for PassesOwn.never rfl (vi_list rfl (VF.frz (vf_callB (call_sortedDI rfl) sf_sortDI m_sorted (va_cons (ve_var 3) va_nil)))) (vg_name 5 nd) (vss_one (vs_if (VW.vt (vw_and (vt_cmp (op_din (u1 hr)) sr_din (ve_var 5) (ve_ix (ix_listA rfl) sr_ixL (ve_var 0) (ve_var 4)) (by rfl)) (vw_and1 (vt_cmp op_lt sr_lt (ve_op op_sub sr_sub (ve_dget (ve_var 3) (ve_var 5) (u1 hr)) (ve_dget (ve_var 3) (ve_var 4) (u1 hr))) (ve_dget (ve_ix (ix_listA rfl) sr_ixL (ve_var 0) (ve_var 4)) (ve_var 5) (u1 hr)) (nomark _))))) (vss_one (vs_ret (ve_tup (va_cons (ve_gstr c_BOTH) (va_cons (ve_var 4) (va_cons (ve_var 5) va_nil)))))) vss_nil)))))
  (vss_one (vs_ret ve_non))))) v, g, F.kp, FunD.bindsN F fun _ _ _ _ _ _ us hl => match us, hl with | [_, _, _, _], _ => rfl, F⟩
abbrev s_is_stamp : Stmt := top 11
theorem sc_is_stamp : FnScope N_is_stamp ["thing"] (defScope s_is_stamp) := ⟨rfl, rfl, rfl, by decide +kernel, rfl, by decide +kernel, by decide +kernel⟩
theorem d_is_stamp {f : Addr} {fd : FuncData} (F : FnD K "is_stamp" s_is_stamp f fd) (g : mg "is_stamp" = some (.ref f)) {P_is_stamp : PV} (l : ∀ ds C Q, P_is_stamp ds C Q → ds.length = 1) (v : ∀ ds C Q3, P_is_stamp ds C Q3 → C.length = 0 → T_is_stamp (enF 0 Q3) (start3 N_is_stamp ds) C) (m_len : mg "len" = none) (m_isinstance : mg "isinstance" = none) (m_str : mg "str" = none) (c_STAMPS : ∃ t, mg "STAMPS" = some (.str "RB" t)) : Cal P w K mg base 1 "is_stamp" s_is_stamp ["thing"] 0 P_is_stamp := by
  have nd : (N_is_stamp).Nodup := sc_is_stamp.nd
  exact ⟨f, fd, ok3 (T := T_is_stamp) F sc_is_stamp l (fun cdv A outer s H E hr => (vss_one (vs_ret (ve_and (ve_isi .str rfl m_isinstance m_str (ve_var 0)) (ve_and (ve_cmp (op_eqA rfl hr.units) sr_eq (ve_callB (call_lenAA rfl) sc_lenA m_len (va_cons (ve_var 0) va_nil)) ve_int (nomark _)) (ve_one (ve_cmp (op_inA rfl (u65 hr)) sr_in (ve_var 0) (ve_gstr c_STAMPS) (by rfl)))))))) v, g, F.kp, FunD.bindsN F fun _ _ _ _ _ _ us hl => match us, hl with | [_], _ => rfl, F⟩
abbrev s_are_stamps : Stmt := top 12
theorem sc_are_stamps : FnScope N_are_stamps ["thing"] (defScope s_are_stamps) := ⟨rfl, rfl, rfl, by decide +kernel, rfl, by decide +kernel, by decide +kernel⟩
theorem d_are_stamps {f : Addr} {fd : FuncData} (F : FnD K "are_stamps" s_are_stamps f fd) (g : mg "are_stamps" = some (.ref f)) {P_are_stamps : PV} (l : ∀ ds C Q, P_are_stamps ds C Q → ds.length = 1) (v : ∀ ds C Q3, P_are_stamps ds C Q3 → C.length = 0 → T_are_stamps (enF 0 Q3) (start3 N_are_stamps ds) C) (m_all : mg "all" = none) (m_len : mg "len" = none) (m_isinstance : mg "isinstance" = none) (m_str : mg "str" = none) (c_STAMPS : ∃ t, mg "STAMPS" = some (.str "RB" t)) (c_MOST_PAPERS : ∃ t, mg "MOST_PAPERS" = some (.int 24 t)) : Cal P w K mg base 1 "are_stamps" s_are_stamps ["thing"] 0 P_are_stamps := by
  have nd : (N_are_stamps).Nodup := sc_are_stamps.nd
  exact ⟨f, fd, ok3 (T := T_are_stamps) F sc_are_stamps l (fun cdv A outer s H E hr => (vss_one (vs_ret (ve_and (ve_isi .str rfl m_isinstance m_str (ve_var 0)) (ve_and (ve_chain op_le sr_le op_le sr_le ve_int (ve_callB (call_lenAA rfl) sc_lenA m_len (va_cons (ve_var 0) va_nil)) (ve_gint c_MOST_PAPERS)) (ve_one (ve_callB (call_all rfl rfl) sc_all m_all (va_cons (VF.frz (vf_lc (own := [("sign", 1)]) rfl nd (vi_str (ve_var 0)) (blkOk_by (by kernel_rfl)) (own_name (by decide)) (fun _ _ _ _ _ => (vg_name 1 nd)) (fun _ _ _ _ _ => vts_nil) (fun _ _ _ _ _ => (ve_cmp (op_inA rfl (u65 hr)) sr_in (ve_var 1) (ve_gstr c_STAMPS) (by rfl))))) va_nil)))))))) v, g, F.kp, FunD.bindsN F fun _ _ _ _ _ _ us hl => match us, hl with | [_], _ => rfl, F⟩
abbrev s_is_between : Stmt := top 10
theorem sc_is_between : FnScope N_is_between ["thing", "least", "most"] (defScope s_is_between) := ⟨rfl, rfl, rfl, by decide +kernel, rfl, by decide +kernel, by decide +kernel⟩
theorem d_is_between {f : Addr} {fd : FuncData} (F : FnD K "is_between" s_is_between f fd) (g : mg "is_between" = some (.ref f)) {P_is_between : PV} (l : ∀ ds C Q, P_is_between ds C Q → ds.length = 3) (v : ∀ ds C Q3, P_is_between ds C Q3 → C.length = 0 → T_is_between (enF 0 Q3) (start3 N_is_between ds) C) (m_isinstance : mg "isinstance" = none) (m_bool : mg "bool" = none) (m_int : mg "int" = none) : Cal P w K mg base 1 "is_between" s_is_between ["thing", "least", "most"] 0 P_is_between := by
  have nd : (N_is_between).Nodup := sc_is_between.nd
  exact ⟨f, fd, ok3 (T := T_is_between) F sc_is_between l (fun cdv A outer s H E hr => (vss_one (vs_ret (ve_and (ve_isi .int rfl m_isinstance m_int (ve_var 0)) (ve_and (ve_not (ve_isi .bool rfl m_isinstance m_bool (ve_var 0))) (ve_one (ve_chain op_le sr_le op_le sr_le (ve_var 1) (ve_var 0) (ve_var 2)))))))) v, g, F.kp, FunD.bindsN F fun _ _ _ _ _ _ us hl => match us, hl with | [_, _, _], _ => rfl, F⟩
abbrev s_is_rule : Stmt := top 13
theorem sc_is_rule : FnScope N_is_rule ["thing", "many"] (defScope s_is_rule) := ⟨rfl, rfl, rfl, by decide +kernel, rfl, by decide +kernel, by decide +kernel⟩
theorem d_is_rule {f : Addr} {fd : FuncData} (F : FnD K "is_rule" s_is_rule f fd) (g : mg "is_rule" = some (.ref f)) {P_is_rule P_is_between : PV} (l : ∀ ds C Q, P_is_rule ds C Q → ds.length = 2) (v : ∀ ds C Q3, P_is_rule ds C Q3 → C.length = 0 → T_is_rule P_is_between (enF 0 Q3) (start3 N_is_rule ds) C) (C_is_between : Cal P w K mg base 1 "is_between" s_is_between ["thing", "least", "most"] 0 P_is_between) (m_all : mg "all" = none) (m_len : mg "len" = none) (m_isinstance : mg "isinstance" = none) (m_tuple : mg "tuple" = none) : Cal P w K mg base 2 "is_rule" s_is_rule ["thing", "many"] 0 P_is_rule := by
  obtain ⟨f_is_between, fd_is_between, G_is_between, g_is_between, kp_is_between, b_is_between, F_is_between⟩ := C_is_between
  have nd : (N_is_rule).Nodup := sc_is_rule.nd
  exact ⟨f, fd, ok3 (T := T_is_rule P_is_between) F sc_is_rule l (fun cdv A outer s H E hr => (vss_cons (vs_if (VW.vt (vw_or (vt_not (vt_val (ve_isi .tuple rfl m_isinstance m_tuple (ve_var 0)))) (vw_or (vt_cmp (op_neA rfl hr.units) sr_ne (ve_callB (call_lenAA rfl) sc_lenA m_len (va_cons (ve_var 0) va_nil)) ve_int (nomark _)) (vw_or1 (vt_not (vt_val (ve_callB (call_all rfl rfl) sc_all m_all (va_cons (VF.frz (vf_lc (own := [("one", 2)]) rfl nd (vi_tup rfl (ve_var 0)) (blkOk_by (by kernel_rfl)) (own_name (by decide)) (fun _ _ _ _ _ => (vg_name 2 nd)) (fun _ _ _ _ _ => vts_nil) (fun _ _ _ _ _ => (ve_call (G_is_between.mono (by decide)) hr g_is_between kp_is_between b_is_between (va_cons (ve_var 2) (va_cons ve_int (va_cons (ve_op op_sub sr_sub (ve_var 1) ve_int) va_nil))))))) va_nil)))))))) (vss_one (vs_ret ve_bl)) vss_nil)
  (vss_one (vs_ret (ve_cmp (op_neA rfl hr.units) sr_ne (ve_ix (ix_tupA rfl) sr_ixT (ve_var 0) ve_int) (ve_ix (ix_tupA rfl) sr_ixT (ve_var 0) ve_int) (nomark _)))))) v, g, F.kp, FunD.bindsN F fun _ _ _ _ _ _ us hl => match us, hl with | [_, _], _ => rfl, F⟩
abbrev s_are_rules : Stmt := top 14
theorem sc_are_rules : FnScope N_are_rules ["thing", "many"] (defScope s_are_rules) := ⟨rfl, rfl, rfl, by decide +kernel, rfl, by decide +kernel, by decide +kernel⟩
theorem d_are_rules {f : Addr} {fd : FuncData} (F : FnD K "are_rules" s_are_rules f fd) (g : mg "are_rules" = some (.ref f)) {P_are_rules P_is_rule : PV} (l : ∀ ds C Q, P_are_rules ds C Q → ds.length = 2) (v : ∀ ds C Q3, P_are_rules ds C Q3 → C.length = 0 → T_are_rules P_is_rule (enF 0 Q3) (start3 N_are_rules ds) C) (C_is_rule : Cal P w K mg base 2 "is_rule" s_is_rule ["thing", "many"] 0 P_is_rule) (m_all : mg "all" = none) (m_len : mg "len" = none) (m_isinstance : mg "isinstance" = none) (m_list : mg "list" = none) (m_zip : mg "zip" = none) (c_MOST_RULES : ∃ t, mg "MOST_RULES" = some (.int 60 t)) : Cal P w K mg base 3 "are_rules" s_are_rules ["thing", "many"] 0 P_are_rules := by
  obtain ⟨f_is_rule, fd_is_rule, G_is_rule, g_is_rule, kp_is_rule, b_is_rule, F_is_rule⟩ := C_is_rule
  have nd : (N_are_rules).Nodup := sc_are_rules.nd
  exact ⟨f, fd, ok3 (T := T_are_rules P_is_rule) F sc_are_rules l (fun cdv A outer s H E hr => (vss_cons (vs_if (VW.vt (vw_or (vt_not (vt_val (ve_isi .list rfl m_isinstance m_list (ve_var 0)))) (vw_or (vt_cmp op_gt sr_gt (ve_callB (call_lenAA rfl) sc_lenA m_len (va_cons (ve_var 0) va_nil)) (ve_gint c_MOST_RULES) (nomark _)) (vw_or1 (vt_not (vt_val (ve_callB (call_all rfl rfl) sc_all m_all (va_cons (VF.frz (vf_lc (own := [("one", 2)]) rfl nd (vi_list rfl (ve_var 0)) (blkOk_by (by kernel_rfl)) (own_name (by decide)) (fun _ _ _ _ _ => (vg_name 2 nd)) (fun _ _ _ _ _ => vts_nil) (fun _ _ _ _ _ => (ve_call (G_is_rule.mono (by decide)) hr g_is_rule kp_is_rule b_is_rule (va_cons (ve_var 2) (va_cons (ve_var 1) va_nil)))))) va_nil)))))))) (vss_one (vs_ret ve_bl)) vss_nil)
  (vss_one (vs_ret (ve_callB (call_all rfl rfl) sc_all m_all (va_cons (VF.frz (vf_lc (own := [("one", 2), ("other", 3)]) rfl nd (vi_zip rfl m_zip (va_cons (ve_var 0) (va_cons (VF.frz (vf_slL rfl (ve_var 0) (vo_some ve_int) vo_none)) va_nil))) (blkOk_by (by kernel_rfl)) (own_tup (own_cons (own_name (by decide)) (own_cons (own_name (by decide)) own_nil mono_name) mono_name)) (fun _ _ _ _ _ => (vg_tup rfl rfl (vgs_cons (vg_name 2 nd) (vgs_cons (vg_name 3 nd) vgs_nil)))) (fun _ _ _ _ _ => vts_nil) (fun _ _ _ _ _ => (ve_cmp (op_ltTA rfl hr.rm.units0) sr_ltT (ve_var 2) (ve_var 3) (nomark _))))) va_nil)))))) v, g, F.kp, FunD.bindsN F fun _ _ _ _ _ _ us hl => match us, hl with | [_, _], _ => rfl, F⟩
abbrev s_is_heap : Stmt := top 15
theorem sc_is_heap : FnScope N_is_heap ["thing"] (defScope s_is_heap) := ⟨rfl, rfl, rfl, by decide +kernel, rfl, by decide +kernel, by decide +kernel⟩
theorem d_is_heap {f : Addr} {fd : FuncData} (F : FnD K "is_heap" s_is_heap f fd) (g : mg "is_heap" = some (.ref f)) {P_is_heap P_are_rules P_are_stamps P_is_stamp : PV} (l : ∀ ds C Q, P_is_heap ds C Q → ds.length = 1) (v : ∀ ds C Q3, P_is_heap ds C Q3 → C.length = 0 → T_is_heap P_are_rules P_are_stamps P_is_stamp (enF 0 Q3) (start3 N_is_heap ds) C) (C_are_rules : Cal P w K mg base 3 "are_rules" s_are_rules ["thing", "many"] 0 P_are_rules) (C_are_stamps : Cal P w K mg base 1 "are_stamps" s_are_stamps ["thing"] 0 P_are_stamps) (C_is_stamp : Cal P w K mg base 1 "is_stamp" s_is_stamp ["thing"] 0 P_is_stamp) (m_len : mg "len" = none) (m_isinstance : mg "isinstance" = none) (m_tuple : mg "tuple" = none) : Cal P w K mg base 4 "is_heap" s_is_heap ["thing"] 0 P_is_heap := by
  obtain ⟨f_are_rules, fd_are_rules, G_are_rules, g_are_rules, kp_are_rules, b_are_rules, F_are_rules⟩ := C_are_rules
  obtain ⟨f_are_stamps, fd_are_stamps, G_are_stamps, g_are_stamps, kp_are_stamps, b_are_stamps, F_are_stamps⟩ := C_are_stamps
  obtain ⟨f_is_stamp, fd_is_stamp, G_is_stamp, g_is_stamp, kp_is_stamp, b_is_stamp, F_is_stamp⟩ := C_is_stamp
  have nd : (N_is_heap).Nodup := sc_is_heap.nd
  exact ⟨f, fd, ok3 (T := T_is_heap P_are_rules P_are_stamps P_is_stamp) F sc_is_heap l (fun cdv A outer s H E hr => (vss_cons (vs_if (VW.vt (vw_or (vt_not (vt_val (ve_isi .tuple rfl m_isinstance m_tuple (ve_var 0)))) (vw_or1 (vt_cmp (op_neA rfl hr.units) sr_ne (ve_callB (call_lenAA rfl) sc_lenA m_len (va_cons (ve_var 0) va_nil)) ve_int (nomark _))))) (vss_one (vs_ret ve_bl)) vss_nil)
  (vss_one (vs_ret (ve_and (ve_call (G_is_stamp.mono (by decide)) hr g_is_stamp kp_is_stamp b_is_stamp (va_cons (ve_ix (ix_tupA rfl) sr_ixT (ve_var 0) ve_int) va_nil)) (ve_and (ve_call (G_are_stamps.mono (by decide)) hr g_are_stamps kp_are_stamps b_are_stamps (va_cons (ve_ix (ix_tupA rfl) sr_ixT (ve_var 0) ve_int) va_nil)) (ve_one (ve_call (G_are_rules.mono (by decide)) hr g_are_rules kp_are_rules b_are_rules (va_cons (ve_ix (ix_tupA rfl) sr_ixT (ve_var 0) ve_int) (va_cons (ve_callB (call_lenAA rfl) sc_lenA m_len (va_cons (ve_ix (ix_tupA rfl) sr_ixT (ve_var 0) ve_int) va_nil)) va_nil)))))))))) v, g, F.kp, FunD.bindsN F fun _ _ _ _ _ _ us hl => match us, hl with | [_], _ => rfl, F⟩
abbrev s_straight_behind : Stmt := top 16
theorem sc_straight_behind : FnScope N_straight_behind ["many", "rules"] (defScope s_straight_behind) := ⟨rfl, rfl, rfl, by decide +kernel, rfl, by decide +kernel, by decide +kernel⟩
theorem d_straight_behind {f : Addr} {fd : FuncData} (F : FnD K "straight_behind" s_straight_behind f fd) (g : mg "straight_behind" = some (.ref f)) {P_straight_behind : PV} (l : ∀ ds C Q, P_straight_behind ds C Q → ds.length = 2) (v : ∀ ds C Q3, P_straight_behind ds C Q3 → C.length = 0 → T_straight_behind (enF 0 Q3) (start3 N_straight_behind ds) C) (m_range : mg "range" = none) : Cal P w K mg base 1 "straight_behind" s_straight_behind ["many", "rules"] 0 P_straight_behind := by
  have nd : (N_straight_behind).Nodup := sc_straight_behind.nd
  exact ⟨f, fd, ok3 (T := T_straight_behind) F sc_straight_behind l (fun cdv A outer s H E hr => (vss_cons (vs_setLc 2 true (own := [("paper", 3)]) rfl nd (vi_range1 m_range (va_cons (ve_var 0) va_nil)) (blkOk_by (by kernel_rfl)) (own_name (by decide)) (fun _ _ _ _ _ => (vg_name 3 nd)) (fun _ _ _ _ _ => vts_nil) (fun _ _ _ _ _ => (VF.cell (vf_lst va_nil))))
  (vss_cons (vs_for PassesOwn.never rfl (vi_list rfl (ve_var 1)) (vg_tup rfl rfl (vgs_cons (vg_name 3 nd) (vgs_cons (vg_name 4 nd) vgs_nil))) (vss_one (vs_expr (ve_ml rfl PySem.F.plainAttrs_list PySem.F.slot_list_append PySem.F.type_list_append mt_append sm_append (ve_ix (ix_listA rfl) sr_ixL (ve_var 2) (ve_var 3)) (va_cons (ve_var 4) va_nil)))))
  (vss_one (vs_ret (ve_var 2)))))) v, g, F.kp, FunD.bindsN F fun _ _ _ _ _ _ us hl => match us, hl with | [_, _], _ => rfl, F⟩
abbrev s_ordered : Stmt := top 17
theorem sc_ordered : FnScope N_ordered ["many", "rules"] (defScope s_ordered) := ⟨rfl, rfl, rfl, by decide +kernel, rfl, by decide +kernel, by decide +kernel⟩
theorem d_ordered {f : Addr} {fd : FuncData} (F : FnD K "ordered" s_ordered f fd) (g : mg "ordered" = some (.ref f)) {P_ordered P_straight_behind : PV} (l : ∀ ds C Q, P_ordered ds C Q → ds.length = 2) (v : ∀ ds C Q3, P_ordered ds C Q3 → C.length = 0 → T_ordered P_straight_behind (enF 0 Q3) (start3 N_ordered ds) C) (C_straight_behind : Cal P w K mg base 1 "straight_behind" s_straight_behind ["many", "rules"] 0 P_straight_behind) (m_range : mg "range" = none) (m_min : mg "min" = none) : Cal P w K mg base 2 "ordered" s_ordered ["many", "rules"] 0 P_ordered := by
  obtain ⟨f_straight_behind, fd_straight_behind, G_straight_behind, g_straight_behind, kp_straight_behind, b_straight_behind, F_straight_behind⟩ := C_straight_behind
  have nd : (N_ordered).Nodup := sc_ordered.nd
  exact ⟨f, fd, ok3 (T := T_ordered P_straight_behind) F sc_ordered l (fun cdv A outer s H E hr => (vss_cons (vs_set 2 nd (VF.cell (vf_lst va_nil)))
  (vss_cons (vs_set 3 nd (VF.cell (vf_op op_repR sf_rep (VF.frz (vf_lst (va_cons ve_int va_nil))) (ve_var 0))))
  (vss_cons (vs_for PassesOwn.never rfl (vi_list rfl (ve_var 1)) (vg_tup rfl rfl (vgs_cons (vg_name 4 nd) (vgs_cons (vg_name 5 nd) vgs_nil))) (vss_one (vs_augL rfl (ve_var 3) (ve_var 5) ip_add sr_ipI ve_int)))
  (vss_cons (vs_set 6 nd (ve_call (G_straight_behind.mono (by decide)) hr g_straight_behind kp_straight_behind b_straight_behind (va_cons (ve_var 0) (va_cons (ve_var 1) va_nil))))
  (vss_cons (vs_setLc 7 true (own := [("paper", 4)]) rfl nd (vi_range1 m_range (va_cons (ve_var 0) va_nil)) (blkOk_by (by kernel_rfl)) (own_name (by decide)) (fun _ _ _ _ _ => (vg_name 4 nd)) (fun _ _ _ _ _ => (vts_one (vt_cmp (op_eqA rfl hr.units) sr_eq (ve_ix (ix_listA rfl) sr_ixL (ve_var 3) (ve_var 4)) ve_int (nomark _)))) (fun _ _ _ _ _ => (ve_var 4)))
  (vss_cons (vs_while PassesOwn.never (vt_cmp (op_neA rfl hr.units) sr_ne (ve_var 7) (VF.frz (vf_lst va_nil)) (nomark _)) (vss_cons (vs_set 4 nd (ve_callB (call_minL rfl rfl) sc_minL m_min (va_cons (ve_var 7) va_nil)))
  (vss_cons (vs_expr (ve_ml rfl PySem.F.plainAttrs_list PySem.F.slot_list_remove PySem.F.type_list_remove mt_remove sm_remove (ve_var 7) (va_cons (ve_var 4) va_nil)))
  (vss_cons (vs_expr (ve_ml rfl PySem.F.plainAttrs_list PySem.F.slot_list_append PySem.F.type_list_append mt_append sm_append (ve_var 2) (va_cons (ve_var 4) va_nil)))
  (vss_one (vs_for PassesOwn.never rfl (vi_list rfl (ve_ix (ix_listA rfl) sr_ixL (ve_var 6) (ve_var 4))) (vg_name 5 nd) (vss_cons (vs_augL rfl (ve_var 3) (ve_var 5) ip_sub sr_ipI ve_int)
  (vss_one (vs_if (vt_cmp (op_eqA rfl hr.units) sr_eq (ve_ix (ix_listA rfl) sr_ixL (ve_var 3) (ve_var 5)) ve_int (nomark _)) (vss_one (vs_expr (ve_ml rfl PySem.F.plainAttrs_list PySem.F.slot_list_append PySem.F.type_list_append mt_append sm_append (ve_var 7) (va_cons (ve_var 5) va_nil)))) vss_nil)))))))))
  (vss_one (vs_ret (ve_var 2)))))))))) v, g, F.kp, FunD.bindsN F fun _ _ _ _ _ _ us hl => match us, hl with | [_, _], _ => rfl, F⟩
abbrev s_ring_by : Stmt := top 18
theorem sc_ring_by : FnScope N_ring_by ["many", "rules"] (defScope s_ring_by) := ⟨rfl, rfl, rfl, by decide +kernel, rfl, by decide +kernel, by decide +kernel⟩
theorem d_ring_by {f : Addr} {fd : FuncData} (F : FnD K "ring_by" s_ring_by f fd) (g : mg "ring_by" = some (.ref f)) {P_ring_by P_ordered : PV} (l : ∀ ds C Q, P_ring_by ds C Q → ds.length = 2) (v : ∀ ds C Q3, P_ring_by ds C Q3 → C.length = 0 → T_ring_by P_ordered (enF 0 Q3) (start3 N_ring_by ds) C) (C_ordered : Cal P w K mg base 2 "ordered" s_ordered ["many", "rules"] 0 P_ordered) (m_range : mg "range" = none) (m_min : mg "min" = none) : Cal P w K mg base 3 "ring_by" s_ring_by ["many", "rules"] 0 P_ring_by := by
  obtain ⟨f_ordered, fd_ordered, G_ordered, g_ordered, kp_ordered, b_ordered, F_ordered⟩ := C_ordered
  have nd : (N_ring_by).Nodup := sc_ring_by.nd
  exact ⟨f, fd, ok3 (T := T_ring_by P_ordered) F sc_ring_by l (fun cdv A outer s H E hr => (vss_cons (vs_set 2 nd (ve_call (G_ordered.mono (by decide)) hr g_ordered kp_ordered b_ordered (va_cons (ve_var 0) (va_cons (ve_var 1) va_nil))))
  (vss_cons (vs_set 3 nd (VF.frz (vf_lc (own := [("paper", 4)]) rfl nd (vi_range1 m_range (va_cons (ve_var 0) va_nil)) (blkOk_by (by kernel_rfl)) (own_name (by decide)) (fun _ _ _ _ _ => (vg_name 4 nd)) (fun _ _ _ _ _ => (vts_one (vt_cmp (op_notInA rfl (u65 hr)) sr_notIn (ve_var 4) (ve_var 2) (by rfl)))) (fun _ _ _ _ _ => (ve_var 4)))))
  (vss_cons (vs_if (vt_cmp (op_eqA rfl hr.units) sr_eq (ve_var 3) (VF.frz (vf_lst va_nil)) (nomark _)) (vss_one (vs_ret ve_non)) vss_nil)
  (vss_cons (vs_set 5 nd (VF.cell (vf_lst (va_cons (ve_ix (ix_listA rfl) sr_ixL (ve_var 3) ve_int) va_nil))))
  (vss_cons (vs_while PassesOwn.never (vt_cmp op_lt sr_lt (ve_ml rfl PySem.F.plainAttrs_list PySem.F.slot_list_count PySem.F.type_list_count (mt_countA rfl) sm_count (ve_var 5) (va_cons (ve_ix (ix_listA rfl) sr_ixL (ve_var 5) (ve_un un_neg su_neg ve_int)) va_nil)) ve_int (nomark _)) (vss_one (vs_expr (ve_ml rfl PySem.F.plainAttrs_list PySem.F.slot_list_append PySem.F.type_list_append mt_append sm_append (ve_var 5) (va_cons (ve_ix (ix_listA rfl) sr_ixL (VF.frz (vf_lc (own := [("paper", 4), ("other", 6)]) rfl nd (vi_list rfl (ve_var 1)) (blkOk_by (by kernel_rfl)) (own_tup (own_cons (own_name (by decide)) (own_cons (own_name (by decide)) own_nil mono_name) mono_name)) (fun _ _ _ _ _ => (vg_tup rfl rfl (vgs_cons (vg_name 4 nd) (vgs_cons (vg_name 6 nd) vgs_nil)))) (fun _ _ _ _ _ => (vts_one (VW.vt (vw_and (vt_cmp (op_eqA rfl hr.units) sr_eq (ve_var 6) (ve_ix (ix_listA rfl) sr_ixL (ve_var 5) (ve_un un_neg su_neg ve_int)) (nomark _)) (vw_and1 (vt_cmp (op_inA rfl (u65 hr)) sr_in (ve_var 4) (ve_var 3) (by rfl))))))) (fun _ _ _ _ _ => (ve_var 4)))) ve_int) va_nil)))))
  (vss_cons (vs_set 7 nd (VF.frz (vf_rev rfl (VF.frz (vf_slL rfl (ve_var 5) (vo_some (ve_op op_add sr_add (ve_ml rfl PySem.F.plainAttrs_list PySem.F.slot_list_index PySem.F.type_list_index (mt_indexA rfl) sm_index (ve_var 5) (va_cons (ve_ix (ix_listA rfl) sr_ixL (ve_var 5) (ve_un un_neg su_neg ve_int)) va_nil)) ve_int)) vo_none)))))
  (vss_cons (vs_set 8 nd (ve_ml rfl PySem.F.plainAttrs_list PySem.F.slot_list_index PySem.F.type_list_index (mt_indexA rfl) sm_index (ve_var 7) (va_cons (ve_callB (call_minL rfl rfl) sc_minL m_min (va_cons (ve_var 7) va_nil)) va_nil)))
  (vss_one (vs_ret (VF.frz (vf_op op_catR sf_cat (VF.frz (vf_slL rfl (ve_var 7) (vo_some (ve_var 8)) vo_none)) (VF.frz (vf_slL rfl (ve_var 7) vo_none (vo_some (ve_var 8)))))))))))))))) v, g, F.kp, FunD.bindsN F fun _ _ _ _ _ _ us hl => match us, hl with | [_, _], _ => rfl, F⟩
abbrev s_is_pile : Stmt := top 19
theorem sc_is_pile : FnScope N_is_pile ["thing"] (defScope s_is_pile) := ⟨rfl, rfl, rfl, by decide +kernel, rfl, by decide +kernel, by decide +kernel⟩
theorem d_is_pile {f : Addr} {fd : FuncData} (F : FnD K "is_pile" s_is_pile f fd) (g : mg "is_pile" = some (.ref f)) {P_is_pile P_ring_by P_is_heap : PV} (l : ∀ ds C Q, P_is_pile ds C Q → ds.length = 1) (v : ∀ ds C Q3, P_is_pile ds C Q3 → C.length = 0 → T_is_pile P_ring_by P_is_heap (enF 0 Q3) (start3 N_is_pile ds) C) (C_ring_by : Cal P w K mg base 3 "ring_by" s_ring_by ["many", "rules"] 0 P_ring_by) (C_is_heap : Cal P w K mg base 4 "is_heap" s_is_heap ["thing"] 0 P_is_heap) (m_len : mg "len" = none) : Cal P w K mg base 5 "is_pile" s_is_pile ["thing"] 0 P_is_pile := by
  obtain ⟨f_ring_by, fd_ring_by, G_ring_by, g_ring_by, kp_ring_by, b_ring_by, F_ring_by⟩ := C_ring_by
  obtain ⟨f_is_heap, fd_is_heap, G_is_heap, g_is_heap, kp_is_heap, b_is_heap, F_is_heap⟩ := C_is_heap
  have nd : (N_is_pile).Nodup := sc_is_pile.nd
  exact ⟨f, fd, ok3 (T := T_is_pile P_ring_by P_is_heap) F sc_is_pile l (fun cdv A outer s H E hr => (vss_one (vs_ret (ve_and (ve_call (G_is_heap.mono (by decide)) hr g_is_heap kp_is_heap b_is_heap (va_cons (ve_var 0) va_nil)) (ve_one (ve_cmp op_isN sr_isN (ve_call (G_ring_by.mono (by decide)) hr g_ring_by kp_ring_by b_ring_by (va_cons (ve_callB (call_lenAA rfl) sc_lenA m_len (va_cons (ve_ix (ix_tupA rfl) sr_ixT (ve_var 0) ve_int) va_nil)) (va_cons (ve_ix (ix_tupA rfl) sr_ixT (ve_var 0) ve_int) va_nil))) ve_non (nomark _))))))) v, g, F.kp, FunD.bindsN F fun _ _ _ _ _ _ us hl => match us, hl with | [_], _ => rfl, F⟩
abbrev s_need_pile : Stmt := top 20
theorem sc_need_pile : FnScope N_need_pile ["pile"] (defScope s_need_pile) := ⟨rfl, rfl, rfl, by decide +kernel, rfl, by decide +kernel, by decide +kernel⟩
theorem d_need_pile {f : Addr} {fd : FuncData} (F : FnD K "need_pile" s_need_pile f fd) (g : mg "need_pile" = some (.ref f)) {P_need_pile P_is_pile : PV} (l : ∀ ds C Q, P_need_pile ds C Q → ds.length = 1) (v : ∀ ds C Q3, P_need_pile ds C Q3 → C.length = 0 → T_need_pile P_is_pile (enF 0 Q3) (start3 N_need_pile ds) C) (C_is_pile : Cal P w K mg base 5 "is_pile" s_is_pile ["thing"] 0 P_is_pile) : Cal P w K mg base 6 "need_pile" s_need_pile ["pile"] 0 P_need_pile := by
  obtain ⟨f_is_pile, fd_is_pile, G_is_pile, g_is_pile, kp_is_pile, b_is_pile, F_is_pile⟩ := C_is_pile
  have nd : (N_need_pile).Nodup := sc_need_pile.nd
  exact ⟨f, fd, ok3 (T := T_need_pile P_is_pile) F sc_need_pile l (fun cdv A outer s H E hr => (vss_one (vs_if (vt_not (vt_val (ve_call (G_is_pile.mono (by decide)) hr g_is_pile kp_is_pile b_is_pile (va_cons (ve_var 0) va_nil)))) (vss_one vs_never) vss_nil))) v, g, F.kp, FunD.bindsN F fun _ _ _ _ _ _ us hl => match us, hl with | [_], _ => rfl, F⟩
abbrev s_in_order : Stmt := top 23
theorem sc_in_order : FnScope N_in_order ["pile"] (defScope s_in_order) := ⟨rfl, rfl, rfl, by decide +kernel, rfl, by decide +kernel, by decide +kernel⟩
theorem d_in_order {f : Addr} {fd : FuncData} (F : FnD K "in_order" s_in_order f fd) (g : mg "in_order" = some (.ref f)) {P_in_order P_ordered : PV} (l : ∀ ds C Q, P_in_order ds C Q → ds.length = 1) (v : ∀ ds C Q3, P_in_order ds C Q3 → C.length = 0 → T_in_order P_ordered (enF 0 Q3) (start3 N_in_order ds) C) (C_ordered : Cal P w K mg base 2 "ordered" s_ordered ["many", "rules"] 0 P_ordered) (m_len : mg "len" = none) : Cal P w K mg base 3 "in_order" s_in_order ["pile"] 0 P_in_order := by
  obtain ⟨f_ordered, fd_ordered, G_ordered, g_ordered, kp_ordered, b_ordered, F_ordered⟩ := C_ordered
  have nd : (N_in_order).Nodup := sc_in_order.nd
  exact ⟨f, fd, ok3 (T := T_in_order P_ordered) F sc_in_order l (fun cdv A outer s H E hr => (vss_one (vs_ret (ve_call (G_ordered.mono (by decide)) hr g_ordered kp_ordered b_ordered (va_cons (ve_callB (call_lenAA rfl) sc_lenA m_len (va_cons (ve_ix (ix_tupA rfl) sr_ixT (ve_var 0) ve_int) va_nil)) (va_cons (ve_ix (ix_tupA rfl) sr_ixT (ve_var 0) ve_int) va_nil)))))) v, g, F.kp, FunD.bindsN F fun _ _ _ _ _ _ us hl => match us, hl with | [_], _ => rfl, F⟩
abbrev s_base_of : Stmt := top 21
theorem sc_base_of : FnScope N_base_of ["pile", "paper"] (defScope s_base_of) := ⟨rfl, rfl, rfl, by decide +kernel, rfl, by decide +kernel, by decide +kernel⟩
theorem d_base_of {f : Addr} {fd : FuncData} (F : FnD K "base_of" s_base_of f fd) (g : mg "base_of" = some (.ref f)) {P_base_of : PV} (l : ∀ ds C Q, P_base_of ds C Q → ds.length = 2) (v : ∀ ds C Q3, P_base_of ds C Q3 → C.length = 0 → T_base_of (enF 0 Q3) (start3 N_base_of ds) C) (m_int : mg "int" = none) : Cal P w K mg base 1 "base_of" s_base_of ["pile", "paper"] 0 P_base_of := by
  have nd : (N_base_of).Nodup := sc_base_of.nd
  exact ⟨f, fd, ok3 (T := T_base_of) F sc_base_of l (fun cdv A outer s H E hr => (vss_one (vs_ret (ve_callTy call_int1 sc_int m_int (va_cons (ve_cmp (op_neA rfl hr.units) sr_ne (ve_ix ix_str sr_ixS (ve_ix (ix_tupA rfl) sr_ixT (ve_var 0) ve_int) (ve_var 1)) (ve_ix (ix_tupA rfl) sr_ixT (ve_var 0) ve_int) (nomark _)) va_nil))))) v, g, F.kp, FunD.bindsN F fun _ _ _ _ _ _ us hl => match us, hl with | [_, _], _ => rfl, F⟩
abbrev s_change : Stmt := top 22
theorem sc_change : FnScope N_change ["pile", "paper", "other"] (defScope s_change) := ⟨rfl, rfl, rfl, by decide +kernel, rfl, by decide +kernel, by decide +kernel⟩
theorem d_change {f : Addr} {fd : FuncData} (F : FnD K "change" s_change f fd) (g : mg "change" = some (.ref f)) {P_change : PV} (l : ∀ ds C Q, P_change ds C Q → ds.length = 3) (v : ∀ ds C Q3, P_change ds C Q3 → C.length = 0 → T_change (enF 0 Q3) (start3 N_change ds) C) (m_int : mg "int" = none) : Cal P w K mg base 1 "change" s_change ["pile", "paper", "other"] 0 P_change := by
  have nd : (N_change).Nodup := sc_change.nd
  exact ⟨f, fd, ok3 (T := T_change) F sc_change l (fun cdv A outer s H E hr => (vss_one (vs_ret (ve_callTy call_int1 sc_int m_int (va_cons (ve_cmp (op_neA rfl hr.units) sr_ne (ve_ix ix_str sr_ixS (ve_ix (ix_tupA rfl) sr_ixT (ve_var 0) ve_int) (ve_var 1)) (ve_ix ix_str sr_ixS (ve_ix (ix_tupA rfl) sr_ixT (ve_var 0) ve_int) (ve_var 2)) (nomark _)) va_nil))))) v, g, F.kp, FunD.bindsN F fun _ _ _ _ _ _ us hl => match us, hl with | [_, _, _], _ => rfl, F⟩
abbrev s_earliest_of : Stmt := top 25
theorem sc_earliest_of : FnScope N_earliest_of ["pile"] (defScope s_earliest_of) := ⟨rfl, rfl, rfl, by decide +kernel, rfl, by decide +kernel, by decide +kernel⟩
theorem d_earliest_of {f : Addr} {fd : FuncData} (F : FnD K "earliest_of" s_earliest_of f fd) (g : mg "earliest_of" = some (.ref f)) {P_earliest_of P_base_of P_in_order P_change : PV} (l : ∀ ds C Q, P_earliest_of ds C Q → ds.length = 1) (v : ∀ ds C Q3, P_earliest_of ds C Q3 → C.length = 0 → T_earliest_of P_base_of P_in_order P_change (enF 0 Q3) (start3 N_earliest_of ds) C) (C_base_of : Cal P w K mg base 1 "base_of" s_base_of ["pile", "paper"] 0 P_base_of) (C_in_order : Cal P w K mg base 3 "in_order" s_in_order ["pile"] 0 P_in_order) (C_change : Cal P w K mg base 1 "change" s_change ["pile", "paper", "other"] 0 P_change) (m_len : mg "len" = none) (m_range : mg "range" = none) (m_max : mg "max" = none) : Cal P w K mg base 4 "earliest_of" s_earliest_of ["pile"] 0 P_earliest_of := by
  obtain ⟨f_base_of, fd_base_of, G_base_of, g_base_of, kp_base_of, b_base_of, F_base_of⟩ := C_base_of
  obtain ⟨f_in_order, fd_in_order, G_in_order, g_in_order, kp_in_order, b_in_order, F_in_order⟩ := C_in_order
  obtain ⟨f_change, fd_change, G_change, g_change, kp_change, b_change, F_change⟩ := C_change
  have nd : (N_earliest_of).Nodup := sc_earliest_of.nd
  exact ⟨f, fd, ok3 (T := T_earliest_of P_base_of P_in_order P_change) F sc_earliest_of l (fun cdv A outer s H E hr => (vss_cons (vs_setLc 1 true (own := [("paper", 2)]) rfl nd (vi_range1 m_range (va_cons (ve_callB (call_lenAA rfl) sc_lenA m_len (va_cons (ve_ix (ix_tupA rfl) sr_ixT (ve_var 0) ve_int) va_nil)) va_nil)) (blkOk_by (by kernel_rfl)) (own_name (by decide)) (fun _ _ _ _ _ => (vg_name 2 nd)) (fun _ _ _ _ _ => vts_nil) (fun _ _ _ _ _ => (ve_call (G_base_of.mono (by decide)) hr g_base_of kp_base_of b_base_of (va_cons (ve_var 0) (va_cons (ve_var 2) va_nil)))))
  (vss_cons (vs_for PassesOwn.never rfl (vi_list rfl (ve_call (G_in_order.mono (by decide)) hr g_in_order kp_in_order b_in_order (va_cons (ve_var 0) va_nil))) (vg_name 2 nd) (vss_one (vs_for PassesOwn.never rfl (vi_list rfl (ve_ix (ix_tupA rfl) sr_ixT (ve_var 0) ve_int)) (vg_tup rfl rfl (vgs_cons (vg_name 3 nd) (vgs_cons (vg_name 4 nd) vgs_nil))) (vss_one (vs_if (vt_cmp (op_eqA rfl hr.units) sr_eq (ve_var 3) (ve_var 2) (nomark _)) (vss_one (vs_asg (ve_callB (call_max2 rfl) sc_max2 m_max (va_cons (ve_ix (ix_listA rfl) sr_ixL (ve_var 1) (ve_var 4)) (va_cons (ve_op op_add sr_add (ve_ix (ix_listA rfl) sr_ixL (ve_var 1) (ve_var 3)) (ve_call (G_change.mono (by decide)) hr g_change kp_change b_change (va_cons (ve_var 0) (va_cons (ve_var 3) (va_cons (ve_var 4) va_nil))))) va_nil))) (vg_subL (ve_var 1) (ve_var 4)))) vss_nil)))))
  (vss_one (vs_ret (ve_var 1)))))) v, g, F.kp, FunD.bindsN F fun _ _ _ _ _ _ us hl => match us, hl with | [_], _ => rfl, F⟩
abbrev s_earliest : Stmt := top 31
theorem sc_earliest : FnScope N_earliest ["pile"] (defScope s_earliest) := ⟨rfl, rfl, rfl, by decide +kernel, rfl, by decide +kernel, by decide +kernel⟩
theorem d_earliest {f : Addr} {fd : FuncData} (F : FnD K "earliest" s_earliest f fd) (g : mg "earliest" = some (.ref f)) {P_earliest P_need_pile P_earliest_of : PV} (l : ∀ ds C Q, P_earliest ds C Q → ds.length = 1) (v : ∀ ds C Q3, P_earliest ds C Q3 → C.length = 0 → T_earliest P_need_pile P_earliest_of (enF 0 Q3) (start3 N_earliest ds) C) (C_need_pile : Cal P w K mg base 6 "need_pile" s_need_pile ["pile"] 0 P_need_pile) (C_earliest_of : Cal P w K mg base 4 "earliest_of" s_earliest_of ["pile"] 0 P_earliest_of) : Cal P w K mg base 7 "earliest" s_earliest ["pile"] 0 P_earliest := by
  obtain ⟨f_need_pile, fd_need_pile, G_need_pile, g_need_pile, kp_need_pile, b_need_pile, F_need_pile⟩ := C_need_pile
  obtain ⟨f_earliest_of, fd_earliest_of, G_earliest_of, g_earliest_of, kp_earliest_of, b_earliest_of, F_earliest_of⟩ := C_earliest_of
  have nd : (N_earliest).Nodup := sc_earliest.nd
  exact ⟨f, fd, ok3 (T := T_earliest P_need_pile P_earliest_of) F sc_earliest l (fun cdv A outer s H E hr => (vss_cons (vs_expr (ve_call (G_need_pile.mono (by decide)) hr g_need_pile kp_need_pile b_need_pile (va_cons (ve_var 0) va_nil)))
  (vss_one (vs_ret (ve_call (G_earliest_of.mono (by decide)) hr g_earliest_of kp_earliest_of b_earliest_of (va_cons (ve_var 0) va_nil)))))) v, g, F.kp, FunD.bindsN F fun _ _ _ _ _ _ us hl => match us, hl with | [_], _ => rfl, F⟩
abbrev s_need_most : Stmt := top 29
theorem sc_need_most : FnScope N_need_most ["pile", "most"] (defScope s_need_most) := ⟨rfl, rfl, rfl, by decide +kernel, rfl, by decide +kernel, by decide +kernel⟩
theorem d_need_most {f : Addr} {fd : FuncData} (F : FnD K "need_most" s_need_most f fd) (g : mg "need_most" = some (.ref f)) {P_need_most P_is_between P_earliest_of : PV} (l : ∀ ds C Q, P_need_most ds C Q → ds.length = 2) (v : ∀ ds C Q3, P_need_most ds C Q3 → C.length = 0 → T_need_most P_is_between P_earliest_of (enF 0 Q3) (start3 N_need_most ds) C) (C_is_between : Cal P w K mg base 1 "is_between" s_is_between ["thing", "least", "most"] 0 P_is_between) (C_earliest_of : Cal P w K mg base 4 "earliest_of" s_earliest_of ["pile"] 0 P_earliest_of) (m_max : mg "max" = none) (c_FARTHEST : ∃ t, mg "FARTHEST" = some (.int 1000000000000000000000000000000 t)) : Cal P w K mg base 5 "need_most" s_need_most ["pile", "most"] 0 P_need_most := by
  obtain ⟨f_is_between, fd_is_between, G_is_between, g_is_between, kp_is_between, b_is_between, F_is_between⟩ := C_is_between
  obtain ⟨f_earliest_of, fd_earliest_of, G_earliest_of, g_earliest_of, kp_earliest_of, b_earliest_of, F_earliest_of⟩ := C_earliest_of
  have nd : (N_need_most).Nodup := sc_need_most.nd
  exact ⟨f, fd, ok3 (T := T_need_most P_is_between P_earliest_of) F sc_need_most l (fun cdv A outer s H E hr => (vss_cons (vs_if (vt_not (vt_val (ve_call (G_is_between.mono (by decide)) hr g_is_between kp_is_between b_is_between (va_cons (ve_var 1) (va_cons ve_int (va_cons (ve_gint c_FARTHEST) va_nil)))))) (vss_one vs_never) vss_nil)
  (vss_cons (vs_set 2 nd (ve_callB (call_maxL rfl rfl) sc_maxL m_max (va_cons (ve_call (G_earliest_of.mono (by decide)) hr g_earliest_of kp_earliest_of b_earliest_of (va_cons (ve_var 0) va_nil)) va_nil)))
  (vss_one (vs_if (vt_cmp op_lt sr_lt (ve_var 1) (ve_var 2) (nomark _)) (vss_one vs_never) vss_nil))))) v, g, F.kp, FunD.bindsN F fun _ _ _ _ _ _ us hl => match us, hl with | [_, _], _ => rfl, F⟩
abbrev s_to_come : Stmt := top 26
theorem sc_to_come : FnScope N_to_come ["pile"] (defScope s_to_come) := ⟨rfl, rfl, rfl, by decide +kernel, rfl, by decide +kernel, by decide +kernel⟩
theorem d_to_come {f : Addr} {fd : FuncData} (F : FnD K "to_come" s_to_come f fd) (g : mg "to_come" = some (.ref f)) {P_to_come P_in_order P_change : PV} (l : ∀ ds C Q, P_to_come ds C Q → ds.length = 1) (v : ∀ ds C Q3, P_to_come ds C Q3 → C.length = 0 → T_to_come P_in_order P_change (enF 0 Q3) (start3 N_to_come ds) C) (C_in_order : Cal P w K mg base 3 "in_order" s_in_order ["pile"] 0 P_in_order) (C_change : Cal P w K mg base 1 "change" s_change ["pile", "paper", "other"] 0 P_change) (m_len : mg "len" = none) (m_max : mg "max" = none) : Cal P w K mg base 4 "to_come" s_to_come ["pile"] 0 P_to_come := by
  obtain ⟨f_in_order, fd_in_order, G_in_order, g_in_order, kp_in_order, b_in_order, F_in_order⟩ := C_in_order
  obtain ⟨f_change, fd_change, G_change, g_change, kp_change, b_change, F_change⟩ := C_change
  have nd : (N_to_come).Nodup := sc_to_come.nd
  exact ⟨f, fd, ok3 (T := T_to_come P_in_order P_change) F sc_to_come l (fun cdv A outer s H E hr => (vss_cons (vs_set 1 nd (VF.cell (vf_op op_repR sf_rep (VF.frz (vf_lst (va_cons ve_int va_nil))) (ve_callB (call_lenAA rfl) sc_lenA m_len (va_cons (ve_ix (ix_tupA rfl) sr_ixT (ve_var 0) ve_int) va_nil)))))
  (vss_cons (vs_for PassesOwn.never rfl (vi_list rfl (VF.frz (vf_rev rfl (ve_call (G_in_order.mono (by decide)) hr g_in_order kp_in_order b_in_order (va_cons (ve_var 0) va_nil))))) (vg_name 2 nd) (vss_one (vs_for PassesOwn.never rfl (vi_list rfl (ve_ix (ix_tupA rfl) sr_ixT (ve_var 0) ve_int)) (vg_tup rfl rfl (vgs_cons (vg_name 3 nd) (vgs_cons (vg_name 4 nd) vgs_nil))) (vss_one (vs_if (vt_cmp (op_eqA rfl hr.units) sr_eq (ve_var 3) (ve_var 2) (nomark _)) (vss_one (vs_asg (ve_callB (call_max2 rfl) sc_max2 m_max (va_cons (ve_ix (ix_listA rfl) sr_ixL (ve_var 1) (ve_var 3)) (va_cons (ve_op op_add sr_add (ve_ix (ix_listA rfl) sr_ixL (ve_var 1) (ve_var 4)) (ve_call (G_change.mono (by decide)) hr g_change kp_change b_change (va_cons (ve_var 0) (va_cons (ve_var 3) (va_cons (ve_var 4) va_nil))))) va_nil))) (vg_subL (ve_var 1) (ve_var 3)))) vss_nil)))))
  (vss_one (vs_ret (ve_var 1)))))) v, g, F.kp, FunD.bindsN F fun _ _ _ _ _ _ us hl => match us, hl with | [_], _ => rfl, F⟩
abbrev s_latest_of : Stmt := top 30
theorem sc_latest_of : FnScope N_latest_of ["pile", "most"] (defScope s_latest_of) := ⟨rfl, rfl, rfl, by decide +kernel, rfl, by decide +kernel, by decide +kernel⟩
theorem d_latest_of {f : Addr} {fd : FuncData} (F : FnD K "latest_of" s_latest_of f fd) (g : mg "latest_of" = some (.ref f)) {P_latest_of P_to_come P_earliest_of : PV} (l : ∀ ds C Q, P_latest_of ds C Q → ds.length = 2) (v : ∀ ds C Q3, P_latest_of ds C Q3 → C.length = 0 → T_latest_of P_to_come P_earliest_of (enF 0 Q3) (start3 N_latest_of ds) C) (C_to_come : Cal P w K mg base 4 "to_come" s_to_come ["pile"] 0 P_to_come) (C_earliest_of : Cal P w K mg base 4 "earliest_of" s_earliest_of ["pile"] 0 P_earliest_of) (m_zip : mg "zip" = none) : Cal P w K mg base 5 "latest_of" s_latest_of ["pile", "most"] 0 P_latest_of := by
  obtain ⟨f_to_come, fd_to_come, G_to_come, g_to_come, kp_to_come, b_to_come, F_to_come⟩ := C_to_come
  obtain ⟨f_earliest_of, fd_earliest_of, G_earliest_of, g_earliest_of, kp_earliest_of, b_earliest_of, F_earliest_of⟩ := C_earliest_of
  have nd : (N_latest_of).Nodup := sc_latest_of.nd
  exact ⟨f, fd, ok3 (T := T_latest_of P_to_come P_earliest_of) F sc_latest_of l (fun cdv A outer s H E hr => (vss_cons (vs_set 2 nd (VF.cell (vf_lst va_nil)))
  (vss_cons (vs_for PassesOwn.never rfl (vi_zip rfl m_zip (va_cons (ve_call (G_earliest_of.mono (by decide)) hr g_earliest_of kp_earliest_of b_earliest_of (va_cons (ve_var 0) va_nil)) (va_cons (ve_call (G_to_come.mono (by decide)) hr g_to_come kp_to_come b_to_come (va_cons (ve_var 0) va_nil)) va_nil))) (vg_tup rfl rfl (vgs_cons (vg_name 3 nd) (vgs_cons (vg_name 4 nd) vgs_nil))) (vss_one (vs_expr (ve_ml rfl PySem.F.plainAttrs_list PySem.F.slot_list_append PySem.F.type_list_append mt_append sm_append (ve_var 2) (va_cons (ve_op op_sub sr_sub (ve_op op_sub sr_sub (ve_var 1) (ve_var 4)) (ve_op op_mod sr_mod (ve_op op_sub sr_sub (ve_op op_sub sr_sub (ve_var 1) (ve_var 4)) (ve_var 3)) ve_int)) va_nil)))))
  (vss_one (vs_ret (ve_var 2)))))) v, g, F.kp, FunD.bindsN F fun _ _ _ _ _ _ us hl => match us, hl with | [_, _], _ => rfl, F⟩
abbrev s_latest : Stmt := top 32
theorem sc_latest : FnScope N_latest ["pile", "most"] (defScope s_latest) := ⟨rfl, rfl, rfl, by decide +kernel, rfl, by decide +kernel, by decide +kernel⟩
theorem d_latest {f : Addr} {fd : FuncData} (F : FnD K "latest" s_latest f fd) (g : mg "latest" = some (.ref f)) {P_latest P_need_pile P_need_most P_latest_of : PV} (l : ∀ ds C Q, P_latest ds C Q → ds.length = 2) (v : ∀ ds C Q3, P_latest ds C Q3 → C.length = 0 → T_latest P_need_pile P_need_most P_latest_of (enF 0 Q3) (start3 N_latest ds) C) (C_need_pile : Cal P w K mg base 6 "need_pile" s_need_pile ["pile"] 0 P_need_pile) (C_need_most : Cal P w K mg base 5 "need_most" s_need_most ["pile", "most"] 0 P_need_most) (C_latest_of : Cal P w K mg base 5 "latest_of" s_latest_of ["pile", "most"] 0 P_latest_of) : Cal P w K mg base 7 "latest" s_latest ["pile", "most"] 0 P_latest := by
  obtain ⟨f_need_pile, fd_need_pile, G_need_pile, g_need_pile, kp_need_pile, b_need_pile, F_need_pile⟩ := C_need_pile
  obtain ⟨f_need_most, fd_need_most, G_need_most, g_need_most, kp_need_most, b_need_most, F_need_most⟩ := C_need_most
  obtain ⟨f_latest_of, fd_latest_of, G_latest_of, g_latest_of, kp_latest_of, b_latest_of, F_latest_of⟩ := C_latest_of
  have nd : (N_latest).Nodup := sc_latest.nd
  exact ⟨f, fd, ok3 (T := T_latest P_need_pile P_need_most P_latest_of) F sc_latest l (fun cdv A outer s H E hr => (vss_cons (vs_expr (ve_call (G_need_pile.mono (by decide)) hr g_need_pile kp_need_pile b_need_pile (va_cons (ve_var 0) va_nil)))
  (vss_cons (vs_expr (ve_call (G_need_most.mono (by decide)) hr g_need_most kp_need_most b_need_most (va_cons (ve_var 0) (va_cons (ve_var 1) va_nil))))
  (vss_one (vs_ret (ve_call (G_latest_of.mono (by decide)) hr g_latest_of kp_latest_of b_latest_of (va_cons (ve_var 0) (va_cons (ve_var 1) va_nil)))))))) v, g, F.kp, FunD.bindsN F fun _ _ _ _ _ _ us hl => match us, hl with | [_, _], _ => rfl, F⟩
abbrev s_spans_from : Stmt := top 39
theorem sc_spans_from : FnScope N_spans_from ["pile", "paper"] (defScope s_spans_from) := ⟨rfl, rfl, rfl, by decide +kernel, rfl, by decide +kernel, by decide +kernel⟩
theorem d_spans_from {f : Addr} {fd : FuncData} (F : FnD K "spans_from" s_spans_from f fd) (g : mg "spans_from" = some (.ref f)) {P_spans_from : PV} (l : ∀ ds C Q, P_spans_from ds C Q → ds.length = 2) (v : ∀ ds C Q3, P_spans_from ds C Q3 → C.length = 0 → T_spans_from (enF 0 Q3) (start3 N_spans_from ds) C) (m_int : mg "int" = none) : Cal P w K mg base 1 "spans_from" s_spans_from ["pile", "paper"] 0 P_spans_from := by
  have nd : (N_spans_from).Nodup := sc_spans_from.nd
  exact ⟨f, fd, ok3 (T := T_spans_from) F sc_spans_from l (fun cdv A outer s H E hr => (vss_cons (vs_asg (ve_var 0) (vg_tup rfl rfl (vgs_cons (vg_name 2 nd) (vgs_cons (vg_name 3 nd) (vgs_cons (vg_name 4 nd) vgs_nil)))))
  (vss_cons (vs_set 5 nd (VF.cell (vf_disp1 (ve_var 1) ve_int)))
  (vss_cons (vs_set 6 nd (VF.cell (vf_lst (va_cons (ve_var 1) va_nil))))
  (vss_cons (vs_while PassesOwn.never (vt_cmp (op_neA rfl hr.units) sr_ne (ve_var 6) (VF.frz (vf_lst va_nil)) (nomark _)) (vss_cons (vs_set 7 nd (ve_ml0 rfl PySem.F.plainAttrs_list PySem.F.slot_list_pop PySem.F.type_list_pop mt_pop sm_pop (ve_var 6)))
  (vss_one (vs_for PassesOwn.never rfl (vi_list rfl (ve_var 4)) (vg_tup rfl rfl (vgs_cons (vg_name 8 nd) (vgs_cons (vg_name 9 nd) vgs_nil))) (vss_one (vs_if (VW.vt (vw_and (vt_cmp (op_eqA rfl hr.units) sr_eq (ve_var 8) (ve_var 7) (nomark _)) (vw_and1 (vt_cmp op_lt sr_lt (ve_dget2 (ve_var 5) (ve_var 9) (ve_un un_neg su_neg ve_int) (u1 hr)) (ve_op op_add sr_add (ve_dget (ve_var 5) (ve_var 7) (u1 hr)) (ve_callTy call_int1 sc_int m_int (va_cons (ve_cmp (op_neA rfl hr.units) sr_ne (ve_ix ix_str sr_ixS (ve_var 3) (ve_var 8)) (ve_ix ix_str sr_ixS (ve_var 3) (ve_var 9)) (nomark _)) va_nil))) (nomark _))))) (vss_cons (vs_asg (ve_op op_add sr_add (ve_dget (ve_var 5) (ve_var 7) (u1 hr)) (ve_callTy call_int1 sc_int m_int (va_cons (ve_cmp (op_neA rfl hr.units) sr_ne (ve_ix ix_str sr_ixS (ve_var 3) (ve_var 8)) (ve_ix ix_str sr_ixS (ve_var 3) (ve_var 9)) (nomark _)) va_nil))) (vg_subD (u1 hr) (ve_var 5) (ve_var 9)))
  (vss_one (vs_expr (ve_ml rfl PySem.F.plainAttrs_list PySem.F.slot_list_append PySem.F.type_list_append mt_append sm_append (ve_var 6) (va_cons (ve_var 9) va_nil))))) vss_nil))))))
  (vss_one (vs_ret (ve_var 5)))))))) v, g, F.kp, FunD.bindsN F fun _ _ _ _ _ _ us hl => match us, hl with | [_, _], _ => rfl, F⟩
abbrev s_all_spans : Stmt := top 40
theorem sc_all_spans : FnScope N_all_spans ["pile"] (defScope s_all_spans) := ⟨rfl, rfl, rfl, by decide +kernel, rfl, by decide +kernel, by decide +kernel⟩
theorem d_all_spans {f : Addr} {fd : FuncData} (F : FnD K "all_spans" s_all_spans f fd) (g : mg "all_spans" = some (.ref f)) {P_all_spans P_spans_from : PV} (l : ∀ ds C Q, P_all_spans ds C Q → ds.length = 1) (v : ∀ ds C Q3, P_all_spans ds C Q3 → C.length = 0 → T_all_spans P_spans_from (enF 0 Q3) (start3 N_all_spans ds) C) (C_spans_from : Cal P w K mg base 1 "spans_from" s_spans_from ["pile", "paper"] 0 P_spans_from) (m_len : mg "len" = none) (m_range : mg "range" = none) : Cal P w K mg base 2 "all_spans" s_all_spans ["pile"] 0 P_all_spans := by
  obtain ⟨f_spans_from, fd_spans_from, G_spans_from, g_spans_from, kp_spans_from, b_spans_from, F_spans_from⟩ := C_spans_from
  have nd : (N_all_spans).Nodup := sc_all_spans.nd
  exact ⟨f, fd, ok3 (T := T_all_spans P_spans_from) F sc_all_spans l (fun cdv A outer s H E hr => (vss_one (vs_ret (VF.frz (vf_lc (own := [("paper", 1)]) rfl nd (vi_range1 m_range (va_cons (ve_callB (call_lenAA rfl) sc_lenA m_len (va_cons (ve_ix (ix_tupA rfl) sr_ixT (ve_var 0) ve_int) va_nil)) va_nil)) (blkOk_by (by kernel_rfl)) (own_name (by decide)) (fun _ _ _ _ _ => (vg_name 1 nd)) (fun _ _ _ _ _ => vts_nil) (fun _ _ _ _ _ => (ve_call (G_spans_from.mono (by decide)) hr g_spans_from kp_spans_from b_spans_from (va_cons (ve_var 0) (va_cons (ve_var 1) va_nil))))))))) v, g, F.kp, FunD.bindsN F fun _ _ _ _ _ _ us hl => match us, hl with | [_], _ => rfl, F⟩
abbrev s_bars : Stmt := top 42
theorem sc_bars : FnScope N_bars ["pile", "most", "told"] (defScope s_bars) := ⟨rfl, rfl, rfl, by decide +kernel, rfl, by decide +kernel, by decide +kernel⟩
theorem d_bars {f : Addr} {fd : FuncData} (F : FnD K "bars" s_bars f fd) (g : mg "bars" = some (.ref f)) {P_bars P_latest P_earliest P_need_told P_bars_by P_all_spans : PV} (l : ∀ ds C Q, P_bars ds C Q → ds.length = 3) (v : ∀ ds C Q3, P_bars ds C Q3 → C.length = 0 → T_bars P_latest P_earliest P_need_told P_bars_by P_all_spans (enF 0 Q3) (start3 N_bars ds) C) (C_latest : Cal P w K mg base 7 "latest" s_latest ["pile", "most"] 0 P_latest) (C_earliest : Cal P w K mg base 7 "earliest" s_earliest ["pile"] 0 P_earliest) (C_need_told : Cal P w K mg base 2 "need_told" s_need_told ["pile", "told"] 0 P_need_told) (C_bars_by : Cal P w K mg base 1 "bars_by" s_bars_by ["spans", "low", "high", "told"] 0 P_bars_by) (C_all_spans : Cal P w K mg base 2 "all_spans" s_all_spans ["pile"] 0 P_all_spans) : Cal P w K mg base 8 "bars" s_bars ["pile", "most", "told"] 0 P_bars := by
  obtain ⟨f_latest, fd_latest, G_latest, g_latest, kp_latest, b_latest, F_latest⟩ := C_latest
  obtain ⟨f_earliest, fd_earliest, G_earliest, g_earliest, kp_earliest, b_earliest, F_earliest⟩ := C_earliest
  obtain ⟨f_need_told, fd_need_told, G_need_told, g_need_told, kp_need_told, b_need_told, F_need_told⟩ := C_need_told
  obtain ⟨f_bars_by, fd_bars_by, G_bars_by, g_bars_by, kp_bars_by, b_bars_by, F_bars_by⟩ := C_bars_by
  obtain ⟨f_all_spans, fd_all_spans, G_all_spans, g_all_spans, kp_all_spans, b_all_spans, F_all_spans⟩ := C_all_spans
  have nd : (N_bars).Nodup := sc_bars.nd
  exact ⟨f, fd, ok3 (T := T_bars P_latest P_earliest P_need_told P_bars_by P_all_spans) F sc_bars l (fun cdv A outer s H E hr => (vss_cons (vs_par 3 4 rfl nd (va_cons (ve_call (G_earliest.mono (by decide)) hr g_earliest kp_earliest b_earliest (va_cons (ve_var 0) va_nil)) (va_cons (ve_call (G_latest.mono (by decide)) hr g_latest kp_latest b_latest (va_cons (ve_var 0) (va_cons (ve_var 1) va_nil))) va_nil)) (ps := fun h => ps_par rfl nd rfl rfl (by decide) rfl rfl h rfl))
  (vss_cons (vs_expr (ve_call (G_need_told.mono (by decide)) hr g_need_told kp_need_told b_need_told (va_cons (ve_var 0) (va_cons (ve_var 2) va_nil))))
  (vss_one (vs_ret (ve_call (G_bars_by.mono (by decide)) hr g_bars_by kp_bars_by b_bars_by (va_cons (ve_call (G_all_spans.mono (by decide)) hr g_all_spans kp_all_spans b_all_spans (va_cons (ve_var 0) va_nil)) (va_cons (ve_var 3) (va_cons (ve_var 4) (va_cons (ve_var 2) va_nil)))))))))) v, g, F.kp, FunD.bindsN F fun _ _ _ _ _ _ us hl => match us, hl with | [_, _, _], _ => rfl, F⟩
abbrev s_law : Stmt := top 57
theorem sc_law : FnScope N_law ["_law_script"] (defScope s_law) := ⟨rfl, rfl, rfl, by decide +kernel, rfl, by decide +kernel, by decide +kernel⟩
theorem d_law {f : Addr} {fd : FuncData} (F : FnD K "law" s_law f fd) (g : mg "law" = some (.ref f)) {P_law P_Lw_jar P_Lw_pile P_Lw_size P_Lw_most P_Lw_far P_Lw_plans P_Lw_told P_Lw_plan P_Lw_by_plans P_Lw_same P_bars : PV} (l : ∀ ds C Q, P_law ds C Q → ds.length = 1) (v : ∀ ds C Q3, P_law ds C Q3 → C.length = 0 → T_law P_Lw_jar P_Lw_pile P_Lw_size P_Lw_most P_Lw_far P_Lw_plans P_Lw_told P_Lw_plan P_Lw_by_plans P_Lw_same P_bars (enF 0 Q3) (start3 N_law ds) C) (C_Lw_jar : Cal P w K mg base 1 "_law_jar" s_Lw_jar ["_law_script", "_law_k"] 0 P_Lw_jar) (C_Lw_pile : Cal P w K mg base 2 "_law_pile" s_Lw_pile ["_law_jar_here", "_law_papers"] 1 P_Lw_pile) (C_Lw_size : Cal P w K mg base 2 "_law_size" s_Lw_size ["_law_jar_here", "_law_script", "_law_top"] 1 P_Lw_size) (C_Lw_most : Cal P w K mg base 2 "_law_most" s_Lw_most ["_law_jar_here", "_law_script", "_law_heap", "_law_some"] 1 P_Lw_most) (C_Lw_far : Cal P w K mg base 1 "_law_far" s_Lw_far ["_law_heap"] 0 P_Lw_far) (C_Lw_plans : Cal P w K mg base 1 "_law_plans" s_Lw_plans ["_law_heap", "_law_top"] 0 P_Lw_plans) (C_Lw_told : Cal P w K mg base 2 "_law_told" s_Lw_told ["_law_jar_here", "_law_own", "_law_top"] 1 P_Lw_told) (C_Lw_plan : Cal P w K mg base 2 "_law_plan" s_Lw_plan ["_law_jar_here", "_law_heap", "_law_top"] 1 P_Lw_plan) (C_Lw_by_plans : Cal P w K mg base 1 "_law_by_plans" s_Lw_by_plans ["_law_plans_here", "_law_far_here", "_law_blocks"] 0 P_Lw_by_plans) (C_Lw_same : Cal P w K mg base 3 "_law_same" s_Lw_same ["_law_found", "_law_due"] 0 P_Lw_same) (C_bars : Cal P w K mg base 8 "bars" s_bars ["pile", "most", "told"] 0 P_bars) (m_len : mg "len" = none) (m_min : mg "min" = none) (m_max : mg "max" = none) (m_range : mg "range" = none) (m_repr : mg "repr" = none) (m_list : mg "list" = none) : FnOkG P w K mg base CX0 9 f fd ["_law_script"] (Sp3 K 0 P_law) := by
  obtain ⟨f_Lw_jar, fd_Lw_jar, G_Lw_jar, g_Lw_jar, kp_Lw_jar, b_Lw_jar, F_Lw_jar⟩ := C_Lw_jar
  obtain ⟨f_Lw_pile, fd_Lw_pile, G_Lw_pile, g_Lw_pile, kp_Lw_pile, b_Lw_pile, F_Lw_pile⟩ := C_Lw_pile
  obtain ⟨f_Lw_size, fd_Lw_size, G_Lw_size, g_Lw_size, kp_Lw_size, b_Lw_size, F_Lw_size⟩ := C_Lw_size
  obtain ⟨f_Lw_most, fd_Lw_most, G_Lw_most, g_Lw_most, kp_Lw_most, b_Lw_most, F_Lw_most⟩ := C_Lw_most
  obtain ⟨f_Lw_far, fd_Lw_far, G_Lw_far, g_Lw_far, kp_Lw_far, b_Lw_far, F_Lw_far⟩ := C_Lw_far
  obtain ⟨f_Lw_plans, fd_Lw_plans, G_Lw_plans, g_Lw_plans, kp_Lw_plans, b_Lw_plans, F_Lw_plans⟩ := C_Lw_plans
  obtain ⟨f_Lw_told, fd_Lw_told, G_Lw_told, g_Lw_told, kp_Lw_told, b_Lw_told, F_Lw_told⟩ := C_Lw_told
  obtain ⟨f_Lw_plan, fd_Lw_plan, G_Lw_plan, g_Lw_plan, kp_Lw_plan, b_Lw_plan, F_Lw_plan⟩ := C_Lw_plan
  obtain ⟨f_Lw_by_plans, fd_Lw_by_plans, G_Lw_by_plans, g_Lw_by_plans, kp_Lw_by_plans, b_Lw_by_plans, F_Lw_by_plans⟩ := C_Lw_by_plans
  obtain ⟨f_Lw_same, fd_Lw_same, G_Lw_same, g_Lw_same, kp_Lw_same, b_Lw_same, F_Lw_same⟩ := C_Lw_same
  obtain ⟨f_bars, fd_bars, G_bars, g_bars, kp_bars, b_bars, F_bars⟩ := C_bars
  have nd : (N_law).Nodup := sc_law.nd
  exact ok3 (T := T_law P_Lw_jar P_Lw_pile P_Lw_size P_Lw_most P_Lw_far P_Lw_plans P_Lw_told P_Lw_plan P_Lw_by_plans P_Lw_same P_bars) F sc_law l (fun cdv A outer s H E hr => (vss_cons (vs_for PassesOwn.never rfl (vi_range1 m_range (va_cons (ve_callB (call_max2 rfl) sc_max2 m_max (va_cons ve_int (va_cons (ve_callB (call_min2 rfl) sc_min2 m_min (va_cons ve_int (va_cons (ve_callB (call_lenAA rfl) sc_lenA m_len (va_cons (ve_var 0) va_nil)) va_nil))) va_nil))) va_nil)) (vg_name 1 nd) (vss_cons (vs_set 2 nd (VF.cell (vf_call (G_Lw_jar.mono (by decide)) hr g_Lw_jar kp_Lw_jar b_Lw_jar (va_cons (ve_var 0) (va_cons (ve_var 1) va_nil)))))
  (vss_cons (vs_set 3 nd (ve_callT (kf := kf1) (G_Lw_pile.mono (by decide)) hr g_Lw_pile kp_Lw_pile b_Lw_pile (va_cons (ve_var 2) (va_cons (ve_callK (kf := kf1) (G_Lw_size.mono (by decide)) hr g_Lw_size kp_Lw_size b_Lw_size (va_cons (ve_var 2) (va_cons (ve_var 0) (va_cons ve_int va_nil)))) va_nil))))
  (vss_cons (vs_set 4 nd (ve_callK (kf := kf1) (G_Lw_most.mono (by decide)) hr g_Lw_most kp_Lw_most b_Lw_most (va_cons (ve_var 2) (va_cons (ve_var 0) (va_cons (ve_var 3) (va_cons (VF.frz (vf_lst (va_cons ve_int (va_cons ve_int (va_cons ve_int (va_cons ve_int va_nil)))))) va_nil))))))
  (vss_cons (vs_par 5 6 rfl nd (va_cons (ve_call (G_Lw_plans.mono (by decide)) hr g_Lw_plans kp_Lw_plans b_Lw_plans (va_cons (ve_var 3) (va_cons (ve_var 4) va_nil))) (va_cons (ve_call (G_Lw_far.mono (by decide)) hr g_Lw_far kp_Lw_far b_Lw_far (va_cons (ve_var 3) va_nil)) va_nil)) (ps := fun h => ps_par rfl nd rfl rfl (by decide) rfl rfl h rfl))
  (vss_one (vs_for PassesOwn.never rfl (vi_range1 m_range (va_cons ve_int va_nil)) (vg_name 7 nd) (vss_cons (vs_set 8 nd (ve_callK (kf := kf1) (G_Lw_told.mono (by decide)) hr g_Lw_told kp_Lw_told b_Lw_told (va_cons (ve_var 2) (va_cons (ve_callK (kf := kf1) (G_Lw_plan.mono (by decide)) hr g_Lw_plan kp_Lw_plan b_Lw_plan (va_cons (ve_var 2) (va_cons (ve_var 3) (va_cons (ve_var 4) va_nil)))) (va_cons (ve_var 4) va_nil)))))
  (vss_cons (vs_set 9 nd (ve_callB (call_reprXA rfl hr.gd (u65 hr)) sc_reprX m_repr (va_cons (VF.frz (vf_lst (va_cons (ve_var 3) (va_cons (ve_var 8) va_nil)))) va_nil)))
  (vss_cons (vs_set 10 nd (ve_call (G_Lw_by_plans.mono (by decide)) hr g_Lw_by_plans kp_Lw_by_plans b_Lw_by_plans (va_cons (ve_var 5) (va_cons (ve_var 6) (va_cons (ve_var 8) va_nil)))))
  (vss_cons (vs_if (VW.vt (vw_or (vt_not (vt_val (ve_call (G_Lw_same.mono (by decide)) hr g_Lw_same kp_Lw_same b_Lw_same (va_cons (ve_call (G_bars.mono (by decide)) hr g_bars kp_bars b_bars (va_cons (ve_var 3) (va_cons (ve_var 4) (va_cons (ve_var 8) va_nil)))) (va_cons (ve_var 10) va_nil))))) (vw_or1 (vt_cmp (op_neA rfl hr.units) sr_ne (ve_callB (call_reprXA rfl hr.gd (u65 hr)) sc_reprX m_repr (va_cons (VF.frz (vf_lst (va_cons (ve_var 3) (va_cons (ve_var 8) va_nil)))) va_nil)) (ve_var 9) (nomark _))))) (vss_one (vs_ret ve_bl)) vss_nil)
  (vss_cons (vs_set 11 nd (VF.frz (vf_callTy (call_listA rfl) sf_list m_list (va_cons (ve_ix (ix_tupA rfl) sr_ixT (ve_var 3) ve_int) va_nil))))
  (vss_cons (vs_asg (VF.frz (vf_slL rfl (ve_var 11) (vo_some ve_int) vo_none)) (vg_all rfl (ve_ix (ix_tupA rfl) sr_ixT (ve_var 3) ve_int)))
  (vss_cons (vs_set 10 nd (ve_call (G_Lw_by_plans.mono (by decide)) hr g_Lw_by_plans kp_Lw_by_plans b_Lw_by_plans (va_cons (ve_call (G_Lw_plans.mono (by decide)) hr g_Lw_plans kp_Lw_plans b_Lw_plans (va_cons (ve_var 3) (va_cons (ve_var 4) va_nil))) (va_cons (ve_call (G_Lw_far.mono (by decide)) hr g_Lw_far kp_Lw_far b_Lw_far (va_cons (ve_var 3) va_nil)) (va_cons (ve_var 8) va_nil)))))
  (vss_cons (vs_if (vt_not (vt_val (ve_call (G_Lw_same.mono (by decide)) hr g_Lw_same kp_Lw_same b_Lw_same (va_cons (ve_call (G_bars.mono (by decide)) hr g_bars kp_bars b_bars (va_cons (ve_var 3) (va_cons (ve_var 4) (va_cons (ve_var 8) va_nil)))) (va_cons (ve_var 10) va_nil))))) (vss_one (vs_ret ve_bl)) vss_nil)
  (vss_cons (vs_asg (ve_var 11) (vg_all rfl (ve_ix (ix_tupA rfl) sr_ixT (ve_var 3) ve_int)))
  (vss_one (vs_if (vt_not (vt_val (ve_call (G_Lw_same.mono (by decide)) hr g_Lw_same kp_Lw_same b_Lw_same (va_cons (ve_call (G_bars.mono (by decide)) hr g_bars kp_bars b_bars (va_cons (ve_var 3) (va_cons (ve_var 4) (va_cons (ve_var 8) va_nil)))) (va_cons (ve_call (G_Lw_by_plans.mono (by decide)) hr g_Lw_by_plans kp_Lw_by_plans b_Lw_by_plans (va_cons (ve_var 5) (va_cons (ve_var 6) (va_cons (ve_var 8) va_nil)))) va_nil))))) (vss_one (vs_ret ve_bl)) vss_nil))))))))))))))))))
  (vss_one (vs_ret ve_bl)))) v
end
theorem l_Lw_jar : ∀ ds C Q, P_Lw_jar ds C Q → ds.length = 2 := by intro ds C Q h; repeat (first | (have e := h.1; subst e; rfl) | (obtain ⟨_, h⟩ := h))
theorem l_Lw_dip : ∀ ds C Q, P_Lw_dip ds C Q → ds.length = 2 := by intro ds C Q h; repeat (first | (have e := h.1; subst e; rfl) | (obtain ⟨_, h⟩ := h))
theorem l_Lw_pile : ∀ ds C Q, P_Lw_pile ds C Q → ds.length = 2 := by intro ds C Q h; repeat (first | (have e := h.1; subst e; rfl) | (obtain ⟨_, h⟩ := h))
theorem l_Lw_low : ∀ ds C Q, P_Lw_low ds C Q → ds.length = 1 := by intro ds C Q h; repeat (first | (have e := h.1; subst e; rfl) | (obtain ⟨_, h⟩ := h))
theorem l_Lw_most : ∀ ds C Q, P_Lw_most ds C Q → ds.length = 4 := by intro ds C Q h; repeat (first | (have e := h.1; subst e; rfl) | (obtain ⟨_, h⟩ := h))
theorem l_Lw_size : ∀ ds C Q, P_Lw_size ds C Q → ds.length = 3 := by intro ds C Q h; repeat (first | (have e := h.1; subst e; rfl) | (obtain ⟨_, h⟩ := h))
theorem l_Lw_plans : ∀ ds C Q, P_Lw_plans ds C Q → ds.length = 2 := by intro ds C Q h; repeat (first | (have e := h.1; subst e; rfl) | (obtain ⟨_, h⟩ := h))
theorem l_Lw_far : ∀ ds C Q, P_Lw_far ds C Q → ds.length = 1 := by intro ds C Q h; repeat (first | (have e := h.1; subst e; rfl) | (obtain ⟨_, h⟩ := h))
theorem l_Lw_told : ∀ ds C Q, P_Lw_told ds C Q → ds.length = 3 := by intro ds C Q h; repeat (first | (have e := h.1; subst e; rfl) | (obtain ⟨_, h⟩ := h))
theorem l_Lw_by_plans : ∀ ds C Q, P_Lw_by_plans ds C Q → ds.length = 3 := by intro ds C Q h; repeat (first | (have e := h.1; subst e; rfl) | (obtain ⟨_, h⟩ := h))
theorem l_Lw_high : ∀ ds C Q, P_Lw_high ds C Q → ds.length = 2 := by intro ds C Q h; repeat (first | (have e := h.1; subst e; rfl) | (obtain ⟨_, h⟩ := h))
theorem l_Lw_plan : ∀ ds C Q, P_Lw_plan ds C Q → ds.length = 3 := by intro ds C Q h; repeat (first | (have e := h.1; subst e; rfl) | (obtain ⟨_, h⟩ := h))
theorem l_se0 : ∀ ds C Q, P_se0 ds C Q → ds.length = 2 := by intro ds C Q h; repeat (first | (have e := h.1; subst e; rfl) | (obtain ⟨_, h⟩ := h))
theorem l_se1 : ∀ ds C Q, P_se1 ds C Q → ds.length = 2 := by intro ds C Q h; repeat (first | (have e := h.1; subst e; rfl) | (obtain ⟨_, h⟩ := h))
theorem l_se2 : ∀ ds C Q, P_se2 ds C Q → ds.length = 2 := by intro ds C Q h; repeat (first | (have e := h.1; subst e; rfl) | (obtain ⟨_, h⟩ := h))
theorem l_is_whole : ∀ ds C Q, P_is_whole ds C Q → ds.length = 2 := by intro ds C Q h; repeat (first | (have e := h.1; subst e; rfl) | (obtain ⟨_, h⟩ := h))
theorem l_need_told : ∀ ds C Q, P_need_told ds C Q → ds.length = 2 := by intro ds C Q h; repeat (first | (have e := h.1; subst e; rfl) | (obtain ⟨_, h⟩ := h))
theorem l_bars_by : ∀ ds C Q, P_bars_by ds C Q → ds.length = 4 := by intro ds C Q h; repeat (first | (have e := h.1; subst e; rfl) | (obtain ⟨_, h⟩ := h))
theorem l_is_stamp : ∀ ds C Q, P_is_stamp ds C Q → ds.length = 1 := by intro ds C Q h; repeat (first | (have e := h.1; subst e; rfl) | (obtain ⟨_, h⟩ := h))
theorem l_are_stamps : ∀ ds C Q, P_are_stamps ds C Q → ds.length = 1 := by intro ds C Q h; repeat (first | (have e := h.1; subst e; rfl) | (obtain ⟨_, h⟩ := h))
theorem l_is_between : ∀ ds C Q, P_is_between ds C Q → ds.length = 3 := by intro ds C Q h; repeat (first | (have e := h.1; subst e; rfl) | (obtain ⟨_, h⟩ := h))
theorem l_is_rule : ∀ ds C Q, P_is_rule ds C Q → ds.length = 2 := by intro ds C Q h; repeat (first | (have e := h.1; subst e; rfl) | (obtain ⟨_, h⟩ := h))
theorem l_are_rules : ∀ ds C Q, P_are_rules ds C Q → ds.length = 2 := by intro ds C Q h; repeat (first | (have e := h.1; subst e; rfl) | (obtain ⟨_, h⟩ := h))
theorem l_is_heap : ∀ ds C Q, P_is_heap ds C Q → ds.length = 1 := by intro ds C Q h; repeat (first | (have e := h.1; subst e; rfl) | (obtain ⟨_, h⟩ := h))
theorem l_straight_behind : ∀ ds C Q, P_straight_behind ds C Q → ds.length = 2 := by intro ds C Q h; repeat (first | (have e := h.1; subst e; rfl) | (obtain ⟨_, h⟩ := h))
theorem l_ordered : ∀ ds C Q, P_ordered ds C Q → ds.length = 2 := by intro ds C Q h; repeat (first | (have e := h.1; subst e; rfl) | (obtain ⟨_, h⟩ := h))
theorem l_ring_none : ∀ ds C Q, P_ring_none ds C Q → ds.length = 2 := by intro ds C Q h; repeat (first | (have e := h.1; subst e; rfl) | (obtain ⟨_, h⟩ := h))
theorem l_is_pile : ∀ ds C Q, P_is_pile ds C Q → ds.length = 1 := by intro ds C Q h; repeat (first | (have e := h.1; subst e; rfl) | (obtain ⟨_, h⟩ := h))
theorem l_need_pile : ∀ ds C Q, P_need_pile ds C Q → ds.length = 1 := by intro ds C Q h; repeat (first | (have e := h.1; subst e; rfl) | (obtain ⟨_, h⟩ := h))
theorem l_in_order : ∀ ds C Q, P_in_order ds C Q → ds.length = 1 := by intro ds C Q h; repeat (first | (have e := h.1; subst e; rfl) | (obtain ⟨_, h⟩ := h))
theorem l_base_of : ∀ ds C Q, P_base_of ds C Q → ds.length = 2 := by intro ds C Q h; repeat (first | (have e := h.1; subst e; rfl) | (obtain ⟨_, h⟩ := h))
theorem l_change : ∀ ds C Q, P_change ds C Q → ds.length = 3 := by intro ds C Q h; repeat (first | (have e := h.1; subst e; rfl) | (obtain ⟨_, h⟩ := h))
theorem l_earliest_of : ∀ ds C Q, P_earliest_of ds C Q → ds.length = 1 := by intro ds C Q h; repeat (first | (have e := h.1; subst e; rfl) | (obtain ⟨_, h⟩ := h))
theorem l_earliest : ∀ ds C Q, P_earliest ds C Q → ds.length = 1 := by intro ds C Q h; repeat (first | (have e := h.1; subst e; rfl) | (obtain ⟨_, h⟩ := h))
theorem l_need_most : ∀ ds C Q, P_need_most ds C Q → ds.length = 2 := by intro ds C Q h; repeat (first | (have e := h.1; subst e; rfl) | (obtain ⟨_, h⟩ := h))
theorem l_to_come : ∀ ds C Q, P_to_come ds C Q → ds.length = 1 := by intro ds C Q h; repeat (first | (have e := h.1; subst e; rfl) | (obtain ⟨_, h⟩ := h))
theorem l_latest_of : ∀ ds C Q, P_latest_of ds C Q → ds.length = 2 := by intro ds C Q h; repeat (first | (have e := h.1; subst e; rfl) | (obtain ⟨_, h⟩ := h))
theorem l_latest : ∀ ds C Q, P_latest ds C Q → ds.length = 2 := by intro ds C Q h; repeat (first | (have e := h.1; subst e; rfl) | (obtain ⟨_, h⟩ := h))
theorem l_spans_from : ∀ ds C Q, P_spans_from ds C Q → ds.length = 2 := by intro ds C Q h; repeat (first | (have e := h.1; subst e; rfl) | (obtain ⟨_, h⟩ := h))
theorem l_all_spans : ∀ ds C Q, P_all_spans ds C Q → ds.length = 1 := by intro ds C Q h; repeat (first | (have e := h.1; subst e; rfl) | (obtain ⟨_, h⟩ := h))
theorem l_bars : ∀ ds C Q, P_bars ds C Q → ds.length = 3 := by intro ds C Q h; repeat (first | (have e := h.1; subst e; rfl) | (obtain ⟨_, h⟩ := h))
theorem l_law : ∀ ds C Q, P_law ds C Q → ds.length = 1 := by intro ds C Q h; repeat (first | (have e := h.1; subst e; rfl) | (obtain ⟨_, h⟩ := h))
theorem promise : ∀ ns : List Int, ns.length ≤ 63 → P_law [.lst true (ns.map .int)] [] fun d _ => d = .bl true := fun ns h => ⟨ns, rfl, rfl, h, rfl⟩
abbrev sd0 : Stmt := (inClass (top 5) 0)
def dd0 : He.DefD := ⟨("TooFew", some "__init__"), "__init__", "TooFew.__init__", defArgs sd0, defBody sd0, defScope sd0, [], []⟩
abbrev sd1 : Stmt := (top 10)
def dd1 : He.DefD := ⟨("is_between", none), "is_between", "is_between", defArgs sd1, defBody sd1, defScope sd1, [], []⟩
abbrev sd2 : Stmt := (top 11)
def dd2 : He.DefD := ⟨("is_stamp", none), "is_stamp", "is_stamp", defArgs sd2, defBody sd2, defScope sd2, [], []⟩
abbrev sd3 : Stmt := (top 12)
def dd3 : He.DefD := ⟨("are_stamps", none), "are_stamps", "are_stamps", defArgs sd3, defBody sd3, defScope sd3, [], []⟩
abbrev sd4 : Stmt := (top 13)
def dd4 : He.DefD := ⟨("is_rule", none), "is_rule", "is_rule", defArgs sd4, defBody sd4, defScope sd4, [], []⟩
abbrev sd5 : Stmt := (top 14)
def dd5 : He.DefD := ⟨("are_rules", none), "are_rules", "are_rules", defArgs sd5, defBody sd5, defScope sd5, [], []⟩
abbrev sd6 : Stmt := (top 15)
def dd6 : He.DefD := ⟨("is_heap", none), "is_heap", "is_heap", defArgs sd6, defBody sd6, defScope sd6, [], []⟩
abbrev sd7 : Stmt := (top 16)
def dd7 : He.DefD := ⟨("straight_behind", none), "straight_behind", "straight_behind", defArgs sd7, defBody sd7, defScope sd7, [], []⟩
abbrev sd8 : Stmt := (top 17)
def dd8 : He.DefD := ⟨("ordered", none), "ordered", "ordered", defArgs sd8, defBody sd8, defScope sd8, [], []⟩
abbrev sd9 : Stmt := (top 18)
def dd9 : He.DefD := ⟨("ring_by", none), "ring_by", "ring_by", defArgs sd9, defBody sd9, defScope sd9, [], []⟩
abbrev sd10 : Stmt := (top 19)
def dd10 : He.DefD := ⟨("is_pile", none), "is_pile", "is_pile", defArgs sd10, defBody sd10, defScope sd10, [], []⟩
abbrev sd11 : Stmt := (top 20)
def dd11 : He.DefD := ⟨("need_pile", none), "need_pile", "need_pile", defArgs sd11, defBody sd11, defScope sd11, [], []⟩
abbrev sd12 : Stmt := (top 21)
def dd12 : He.DefD := ⟨("base_of", none), "base_of", "base_of", defArgs sd12, defBody sd12, defScope sd12, [], []⟩
abbrev sd13 : Stmt := (top 22)
def dd13 : He.DefD := ⟨("change", none), "change", "change", defArgs sd13, defBody sd13, defScope sd13, [], []⟩
abbrev sd14 : Stmt := (top 23)
def dd14 : He.DefD := ⟨("in_order", none), "in_order", "in_order", defArgs sd14, defBody sd14, defScope sd14, [], []⟩
abbrev sd15 : Stmt := (top 25)
def dd15 : He.DefD := ⟨("earliest_of", none), "earliest_of", "earliest_of", defArgs sd15, defBody sd15, defScope sd15, [], []⟩
abbrev sd16 : Stmt := (top 26)
def dd16 : He.DefD := ⟨("to_come", none), "to_come", "to_come", defArgs sd16, defBody sd16, defScope sd16, [], []⟩
abbrev sd17 : Stmt := (top 29)
def dd17 : He.DefD := ⟨("need_most", none), "need_most", "need_most", defArgs sd17, defBody sd17, defScope sd17, [], []⟩
abbrev sd18 : Stmt := (top 30)
def dd18 : He.DefD := ⟨("latest_of", none), "latest_of", "latest_of", defArgs sd18, defBody sd18, defScope sd18, [], []⟩
abbrev sd19 : Stmt := (top 31)
def dd19 : He.DefD := ⟨("earliest", none), "earliest", "earliest", defArgs sd19, defBody sd19, defScope sd19, [], []⟩
abbrev sd20 : Stmt := (top 32)
def dd20 : He.DefD := ⟨("latest", none), "latest", "latest", defArgs sd20, defBody sd20, defScope sd20, [], []⟩
abbrev sd21 : Stmt := (top 37)
def dd21 : He.DefD := ⟨("is_whole", none), "is_whole", "is_whole", defArgs sd21, defBody sd21, defScope sd21, [], []⟩
abbrev sd22 : Stmt := (top 38)
def dd22 : He.DefD := ⟨("need_told", none), "need_told", "need_told", defArgs sd22, defBody sd22, defScope sd22, [], []⟩
abbrev sd23 : Stmt := (top 39)
def dd23 : He.DefD := ⟨("spans_from", none), "spans_from", "spans_from", defArgs sd23, defBody sd23, defScope sd23, [], []⟩
abbrev sd24 : Stmt := (top 40)
def dd24 : He.DefD := ⟨("all_spans", none), "all_spans", "all_spans", defArgs sd24, defBody sd24, defScope sd24, [], []⟩
abbrev sd25 : Stmt := (top 41)
def dd25 : He.DefD := ⟨("bars_by", none), "bars_by", "bars_by", defArgs sd25, defBody sd25, defScope sd25, [], []⟩
abbrev sd26 : Stmt := (top 42)
def dd26 : He.DefD := ⟨("bars", none), "bars", "bars", defArgs sd26, defBody sd26, defScope sd26, [], []⟩
abbrev sd27 : Stmt := (top 44)
def dd27 : He.DefD := ⟨("_law_jar", none), "_law_jar", "_law_jar", defArgs sd27, defBody sd27, defScope sd27, [], []⟩
abbrev sd28 : Stmt := (top 45)
def dd28 : He.DefD := ⟨("_law_dip", none), "_law_dip", "_law_dip", defArgs sd28, defBody sd28, defScope sd28, [], []⟩
abbrev sd29 : Stmt := (top 46)
def dd29 : He.DefD := ⟨("_law_same", none), "_law_same", "_law_same", defArgs sd29, defBody sd29, defScope sd29, [], []⟩
abbrev sd30 : Stmt := (top 47)
def dd30 : He.DefD := ⟨("_law_pile", none), "_law_pile", "_law_pile", defArgs sd30, defBody sd30, defScope sd30, [], []⟩
abbrev sd31 : Stmt := (top 48)
def dd31 : He.DefD := ⟨("_law_size", none), "_law_size", "_law_size", defArgs sd31, defBody sd31, defScope sd31, [], []⟩
abbrev sd32 : Stmt := (top 49)
def dd32 : He.DefD := ⟨("_law_low", none), "_law_low", "_law_low", defArgs sd32, defBody sd32, defScope sd32, [], []⟩
abbrev sd33 : Stmt := (top 50)
def dd33 : He.DefD := ⟨("_law_high", none), "_law_high", "_law_high", defArgs sd33, defBody sd33, defScope sd33, [], []⟩
abbrev sd34 : Stmt := (top 51)
def dd34 : He.DefD := ⟨("_law_far", none), "_law_far", "_law_far", defArgs sd34, defBody sd34, defScope sd34, [], []⟩
abbrev sd35 : Stmt := (top 52)
def dd35 : He.DefD := ⟨("_law_plans", none), "_law_plans", "_law_plans", defArgs sd35, defBody sd35, defScope sd35, [], []⟩
abbrev sd36 : Stmt := (top 53)
def dd36 : He.DefD := ⟨("_law_plan", none), "_law_plan", "_law_plan", defArgs sd36, defBody sd36, defScope sd36, [], []⟩
abbrev sd37 : Stmt := (top 54)
def dd37 : He.DefD := ⟨("_law_told", none), "_law_told", "_law_told", defArgs sd37, defBody sd37, defScope sd37, [], []⟩
abbrev sd38 : Stmt := (top 55)
def dd38 : He.DefD := ⟨("_law_most", none), "_law_most", "_law_most", defArgs sd38, defBody sd38, defScope sd38, [], []⟩
abbrev sd39 : Stmt := (top 56)
def dd39 : He.DefD := ⟨("_law_by_plans", none), "_law_by_plans", "_law_by_plans", defArgs sd39, defBody sd39, defScope sd39, [], []⟩
abbrev sd40 : Stmt := (top 57)
def dd40 : He.DefD := ⟨("law", none), "law", "law", defArgs sd40, defBody sd40, defScope sd40, [], []⟩
def fn_0 : List He.DefD := [dd0, dd1, dd2, dd3, dd4, dd5, dd6, dd7, dd8, dd9, dd10, dd11, dd12, dd13, dd14, dd15, dd16, dd17, dd18, dd19, dd20, dd21, dd22, dd23, dd24, dd25, dd26, dd27, dd28, dd29]
def fn_1 : List He.DefD := [dd30, dd31, dd32, dd33, dd34, dd35, dd36, dd37, dd38, dd39, dd40]
def fn : List He.DefD := fn_0 ++ fn_1
def fa_0 : List He.Fa := [.glo "_law_jar", .glo "_law_dip", .glo "_law_pile", .glo "_law_low", .glo "_law_most", .glo "_law_size", .glo "_law_plans", .glo "_law_far", .glo "_law_told", .glo "_law_by_plans", .glo "_law_high", .glo "_law_plan", .glo "_law_same", .glo "is_whole", .glo "need_told", .glo "bars_by", .glo "is_stamp", .glo "are_stamps", .glo "is_between", .glo "is_rule", .glo "are_rules", .glo "is_heap", .glo "straight_behind", .glo "ordered", .glo "ring_by", .glo "is_pile", .glo "need_pile", .glo "in_order", .glo "base_of", .glo "change"]
def fa_1 : List He.Fa := [.glo "earliest_of", .glo "earliest", .glo "need_most", .glo "to_come", .glo "latest_of", .glo "latest", .glo "spans_from", .glo "all_spans", .glo "bars", .glo "law", .free "len", .free "max", .free "range", .free "int", .free "list", .free "min", .free "sorted", .free "dict", .free "zip", .free "isinstance", .free "tuple", .free "all", .free "bool", .free "str", .free "repr", .int "MOST_BLOCK" 1000000000000000000000000000000, .str "ALONE" "alone", .str "BOTH" "both", .str "STAMPS" "RB", .int "MOST_PAPERS" 24]
def fa_2 : List He.Fa := [.int "MOST_RULES" 60, .int "FARTHEST" 1000000000000000000000000000000]
def fa : List He.Fa := fa_0 ++ fa_1 ++ fa_2
def loose_0 : List Str := ["StampError", "NoPile", "NoNumber", "NoTold", "TooFew", "STAMPS", "MOST_PAPERS", "MOST_RULES", "is_between", "is_stamp", "are_stamps", "is_rule", "are_rules", "is_heap", "straight_behind", "ordered", "ring_by", "is_pile", "need_pile", "base_of", "change", "in_order", "earliest_of", "to_come", "FARTHEST", "need_most", "latest_of", "earliest", "latest", "MOST_BLOCK"]
def loose_1 : List Str := ["ALONE", "BOTH", "is_whole", "need_told", "spans_from", "all_spans", "bars_by", "bars", "_law_jar", "_law_dip", "_law_same", "_law_pile", "_law_size", "_law_low", "_law_high", "_law_far", "_law_plans", "_law_plan", "_law_told", "_law_most", "_law_by_plans"]
def loose : List Str := loose_0 ++ loose_1
abbrev R : PySem.W.OpenRow := PySem.W.OpenLaw.row PySem.Challenge.rw_twostamps_k49_what_bars_by_all_plans
abbrev hk : PySem.W.Hook := hookL 6 fa fn
def ob (s : PySem.W.SharedT) : He.AlD := obsL 6 fa fn (HandSHeadRun.getT s)
theorem ob_eq (s : PySem.W.SharedT) : ob s = hk.obs s.abs := obsL_eq (HandSHeadRun.getT_eq s)
theorem run (w : World) : HandSHeadRun.RunEq R (PySem.W.view R.prog [57]) hk ob 8000 loose w := by
  intro os
  kernel_rfl
theorem facts {P : Program} {w : World} {K : PySem.W.Frag} {h : Heap} {mg : Str → Option Value} {f : Addr} (X : K.In h) (G : h.Ns mainGlobals mg) (hfa : mg ("law" : Str) = some (.ref f)) (c : He.SaysD fa fn K) :
    ∃ fd : FuncData, (∀ (s : Shared) (v : Value), BindsTo s fd ⟨[v], []⟩ [("_law_script", v)]) ∧ ∀ base : Heap, K.In base → base.Ns mainGlobals mg → FnOkG P w K mg base CX0 9 f fd ["_law_script"] (Sp3 K 0 P_law) := by
  obtain ⟨fd_Lw_jar, F_Lw_jar⟩ := c.def_ 27 (d := dd27) rfl
  have g_Lw_jar := He.glo_ok X G (c.fact 0 (f := .glo "_law_jar") rfl)
  obtain ⟨fd_Lw_dip, F_Lw_dip⟩ := c.def_ 28 (d := dd28) rfl
  have g_Lw_dip := He.glo_ok X G (c.fact 1 (f := .glo "_law_dip") rfl)
  obtain ⟨fd_Lw_pile, F_Lw_pile⟩ := c.def_ 30 (d := dd30) rfl
  have g_Lw_pile := He.glo_ok X G (c.fact 2 (f := .glo "_law_pile") rfl)
  obtain ⟨fd_Lw_low, F_Lw_low⟩ := c.def_ 32 (d := dd32) rfl
  have g_Lw_low := He.glo_ok X G (c.fact 3 (f := .glo "_law_low") rfl)
  obtain ⟨fd_Lw_most, F_Lw_most⟩ := c.def_ 38 (d := dd38) rfl
  have g_Lw_most := He.glo_ok X G (c.fact 4 (f := .glo "_law_most") rfl)
  obtain ⟨fd_Lw_size, F_Lw_size⟩ := c.def_ 31 (d := dd31) rfl
  have g_Lw_size := He.glo_ok X G (c.fact 5 (f := .glo "_law_size") rfl)
  obtain ⟨fd_Lw_plans, F_Lw_plans⟩ := c.def_ 35 (d := dd35) rfl
  have g_Lw_plans := He.glo_ok X G (c.fact 6 (f := .glo "_law_plans") rfl)
  obtain ⟨fd_Lw_far, F_Lw_far⟩ := c.def_ 34 (d := dd34) rfl
  have g_Lw_far := He.glo_ok X G (c.fact 7 (f := .glo "_law_far") rfl)
  obtain ⟨fd_Lw_told, F_Lw_told⟩ := c.def_ 37 (d := dd37) rfl
  have g_Lw_told := He.glo_ok X G (c.fact 8 (f := .glo "_law_told") rfl)
  obtain ⟨fd_Lw_by_plans, F_Lw_by_plans⟩ := c.def_ 39 (d := dd39) rfl
  have g_Lw_by_plans := He.glo_ok X G (c.fact 9 (f := .glo "_law_by_plans") rfl)
  obtain ⟨fd_Lw_high, F_Lw_high⟩ := c.def_ 33 (d := dd33) rfl
  have g_Lw_high := He.glo_ok X G (c.fact 10 (f := .glo "_law_high") rfl)
  obtain ⟨fd_Lw_plan, F_Lw_plan⟩ := c.def_ 36 (d := dd36) rfl
  have g_Lw_plan := He.glo_ok X G (c.fact 11 (f := .glo "_law_plan") rfl)
  obtain ⟨fd_Lw_same, F_Lw_same⟩ := c.def_ 29 (d := dd29) rfl
  have g_Lw_same := He.glo_ok X G (c.fact 12 (f := .glo "_law_same") rfl)
  obtain ⟨fd_is_whole, F_is_whole⟩ := c.def_ 21 (d := dd21) rfl
  have g_is_whole := He.glo_ok X G (c.fact 13 (f := .glo "is_whole") rfl)
  obtain ⟨fd_need_told, F_need_told⟩ := c.def_ 22 (d := dd22) rfl
  have g_need_told := He.glo_ok X G (c.fact 14 (f := .glo "need_told") rfl)
  obtain ⟨fd_bars_by, F_bars_by⟩ := c.def_ 25 (d := dd25) rfl
  have g_bars_by := He.glo_ok X G (c.fact 15 (f := .glo "bars_by") rfl)
  obtain ⟨fd_is_stamp, F_is_stamp⟩ := c.def_ 2 (d := dd2) rfl
  have g_is_stamp := He.glo_ok X G (c.fact 16 (f := .glo "is_stamp") rfl)
  obtain ⟨fd_are_stamps, F_are_stamps⟩ := c.def_ 3 (d := dd3) rfl
  have g_are_stamps := He.glo_ok X G (c.fact 17 (f := .glo "are_stamps") rfl)
  obtain ⟨fd_is_between, F_is_between⟩ := c.def_ 1 (d := dd1) rfl
  have g_is_between := He.glo_ok X G (c.fact 18 (f := .glo "is_between") rfl)
  obtain ⟨fd_is_rule, F_is_rule⟩ := c.def_ 4 (d := dd4) rfl
  have g_is_rule := He.glo_ok X G (c.fact 19 (f := .glo "is_rule") rfl)
  obtain ⟨fd_are_rules, F_are_rules⟩ := c.def_ 5 (d := dd5) rfl
  have g_are_rules := He.glo_ok X G (c.fact 20 (f := .glo "are_rules") rfl)
  obtain ⟨fd_is_heap, F_is_heap⟩ := c.def_ 6 (d := dd6) rfl
  have g_is_heap := He.glo_ok X G (c.fact 21 (f := .glo "is_heap") rfl)
  obtain ⟨fd_straight_behind, F_straight_behind⟩ := c.def_ 7 (d := dd7) rfl
  have g_straight_behind := He.glo_ok X G (c.fact 22 (f := .glo "straight_behind") rfl)
  obtain ⟨fd_ordered, F_ordered⟩ := c.def_ 8 (d := dd8) rfl
  have g_ordered := He.glo_ok X G (c.fact 23 (f := .glo "ordered") rfl)
  obtain ⟨fd_ring_by, F_ring_by⟩ := c.def_ 9 (d := dd9) rfl
  have g_ring_by := He.glo_ok X G (c.fact 24 (f := .glo "ring_by") rfl)
  obtain ⟨fd_is_pile, F_is_pile⟩ := c.def_ 10 (d := dd10) rfl
  have g_is_pile := He.glo_ok X G (c.fact 25 (f := .glo "is_pile") rfl)
  obtain ⟨fd_need_pile, F_need_pile⟩ := c.def_ 11 (d := dd11) rfl
  have g_need_pile := He.glo_ok X G (c.fact 26 (f := .glo "need_pile") rfl)
  obtain ⟨fd_in_order, F_in_order⟩ := c.def_ 14 (d := dd14) rfl
  have g_in_order := He.glo_ok X G (c.fact 27 (f := .glo "in_order") rfl)
  obtain ⟨fd_base_of, F_base_of⟩ := c.def_ 12 (d := dd12) rfl
  have g_base_of := He.glo_ok X G (c.fact 28 (f := .glo "base_of") rfl)
  obtain ⟨fd_change, F_change⟩ := c.def_ 13 (d := dd13) rfl
  have g_change := He.glo_ok X G (c.fact 29 (f := .glo "change") rfl)
  obtain ⟨fd_earliest_of, F_earliest_of⟩ := c.def_ 15 (d := dd15) rfl
  have g_earliest_of := He.glo_ok X G (c.fact 30 (f := .glo "earliest_of") rfl)
  obtain ⟨fd_earliest, F_earliest⟩ := c.def_ 19 (d := dd19) rfl
  have g_earliest := He.glo_ok X G (c.fact 31 (f := .glo "earliest") rfl)
  obtain ⟨fd_need_most, F_need_most⟩ := c.def_ 17 (d := dd17) rfl
  have g_need_most := He.glo_ok X G (c.fact 32 (f := .glo "need_most") rfl)
  obtain ⟨fd_to_come, F_to_come⟩ := c.def_ 16 (d := dd16) rfl
  have g_to_come := He.glo_ok X G (c.fact 33 (f := .glo "to_come") rfl)
  obtain ⟨fd_latest_of, F_latest_of⟩ := c.def_ 18 (d := dd18) rfl
  have g_latest_of := He.glo_ok X G (c.fact 34 (f := .glo "latest_of") rfl)
  obtain ⟨fd_latest, F_latest⟩ := c.def_ 20 (d := dd20) rfl
  have g_latest := He.glo_ok X G (c.fact 35 (f := .glo "latest") rfl)
  obtain ⟨fd_spans_from, F_spans_from⟩ := c.def_ 23 (d := dd23) rfl
  have g_spans_from := He.glo_ok X G (c.fact 36 (f := .glo "spans_from") rfl)
  obtain ⟨fd_all_spans, F_all_spans⟩ := c.def_ 24 (d := dd24) rfl
  have g_all_spans := He.glo_ok X G (c.fact 37 (f := .glo "all_spans") rfl)
  obtain ⟨fd_bars, F_bars⟩ := c.def_ 26 (d := dd26) rfl
  have g_bars := He.glo_ok X G (c.fact 38 (f := .glo "bars") rfl)
  obtain ⟨fd_law, F_law⟩ := c.def_ 40 (d := dd40) rfl
  have g_law := He.glo_ok X G (c.fact 39 (f := .glo "law") rfl)
  have m_len := He.free_ok X G (c.fact 40 (f := .free "len") rfl)
  have m_max := He.free_ok X G (c.fact 41 (f := .free "max") rfl)
  have m_range := He.free_ok X G (c.fact 42 (f := .free "range") rfl)
  have m_int := He.free_ok X G (c.fact 43 (f := .free "int") rfl)
  have m_list := He.free_ok X G (c.fact 44 (f := .free "list") rfl)
  have m_min := He.free_ok X G (c.fact 45 (f := .free "min") rfl)
  have m_sorted := He.free_ok X G (c.fact 46 (f := .free "sorted") rfl)
  have m_dict := He.free_ok X G (c.fact 47 (f := .free "dict") rfl)
  have m_zip := He.free_ok X G (c.fact 48 (f := .free "zip") rfl)
  have m_isinstance := He.free_ok X G (c.fact 49 (f := .free "isinstance") rfl)
  have m_tuple := He.free_ok X G (c.fact 50 (f := .free "tuple") rfl)
  have m_all := He.free_ok X G (c.fact 51 (f := .free "all") rfl)
  have m_bool := He.free_ok X G (c.fact 52 (f := .free "bool") rfl)
  have m_str := He.free_ok X G (c.fact 53 (f := .free "str") rfl)
  have m_repr := He.free_ok X G (c.fact 54 (f := .free "repr") rfl)
  have c_MOST_BLOCK := He.int_ok X G (c.fact 55 (f := .int "MOST_BLOCK" 1000000000000000000000000000000) rfl)
  have c_ALONE := He.str_ok X G (c.fact 56 (f := .str "ALONE" "alone") rfl)
  have c_BOTH := He.str_ok X G (c.fact 57 (f := .str "BOTH" "both") rfl)
  have c_STAMPS := He.str_ok X G (c.fact 58 (f := .str "STAMPS" "RB") rfl)
  have c_MOST_PAPERS := He.int_ok X G (c.fact 59 (f := .int "MOST_PAPERS" 24) rfl)
  have c_MOST_RULES := He.int_ok X G (c.fact 60 (f := .int "MOST_RULES" 60) rfl)
  have c_FARTHEST := He.int_ok X G (c.fact 61 (f := .int "FARTHEST" 1000000000000000000000000000000) rfl)
  have e_law := hfa.symm.trans g_law
  cases e_law
  have bl := FunD.bindsA (ps := ["_law_script"]) F_law fun _ _ _ _ _ _ us hl => match us, hl with | [_], _ => rfl
  refine ⟨fd_law, fun s v => bl s [v] rfl, fun base _ _ => ?_⟩
  have C_Lw_jar := d_Lw_jar (P := P) (w := w) (base := base) (mg := mg) F_Lw_jar g_Lw_jar l_Lw_jar v_Lw_jar  m_len m_max
  have C_Lw_dip := d_Lw_dip (P := P) (w := w) (base := base) (mg := mg) F_Lw_dip g_Lw_dip l_Lw_dip v_Lw_dip  
  have C_Lw_pile := d_Lw_pile (P := P) (w := w) (base := base) (mg := mg) F_Lw_pile g_Lw_pile l_Lw_pile v_Lw_pile C_Lw_dip m_range m_int m_list m_len m_min m_sorted
  have C_Lw_low := d_Lw_low (P := P) (w := w) (base := base) (mg := mg) F_Lw_low g_Lw_low l_Lw_low v_Lw_low  m_int m_len m_range m_max
  have C_Lw_most := d_Lw_most (P := P) (w := w) (base := base) (mg := mg) F_Lw_most g_Lw_most l_Lw_most v_Lw_most C_Lw_low C_Lw_dip m_max m_len m_min
  have C_Lw_size := d_Lw_size (P := P) (w := w) (base := base) (mg := mg) F_Lw_size g_Lw_size l_Lw_size v_Lw_size C_Lw_dip 
  have C_Lw_plans := d_Lw_plans (P := P) (w := w) (base := base) (mg := mg) F_Lw_plans g_Lw_plans l_Lw_plans v_Lw_plans  m_len m_range m_int
  have C_Lw_far := d_Lw_far (P := P) (w := w) (base := base) (mg := mg) F_Lw_far g_Lw_far l_Lw_far v_Lw_far  m_len m_range m_dict m_int m_max
  have C_Lw_told := d_Lw_told (P := P) (w := w) (base := base) (mg := mg) F_Lw_told g_Lw_told l_Lw_told v_Lw_told C_Lw_dip m_len m_range m_max m_min
  have C_Lw_by_plans := d_Lw_by_plans (P := P) (w := w) (base := base) (mg := mg) F_Lw_by_plans g_Lw_by_plans l_Lw_by_plans v_Lw_by_plans  m_sorted
  have C_Lw_high := d_Lw_high (P := P) (w := w) (base := base) (mg := mg) F_Lw_high g_Lw_high l_Lw_high v_Lw_high  m_len m_range m_int m_max m_zip
  have C_Lw_plan := d_Lw_plan (P := P) (w := w) (base := base) (mg := mg) F_Lw_plan g_Lw_plan l_Lw_plan v_Lw_plan C_Lw_far C_Lw_high C_Lw_low C_Lw_dip m_zip m_min m_len m_list m_range m_max
  have C0_Lw_same := nv_Lw_same (P := P) (w := w) (mg := mg) (base := base) (lo := 0) F_Lw_same g_Lw_same
  have C1_Lw_same := d_Lw_same (P := P) (w := w) (base := base) F_Lw_same g_Lw_same (lo := 0) (by decide) l_se0 v_se0 C0_Lw_same m_isinstance m_list m_tuple m_zip m_all m_len m_bool m_str
  have C2_Lw_same := d_Lw_same (P := P) (w := w) (base := base) F_Lw_same g_Lw_same (lo := 1) (by decide) l_se1 v_se1 C1_Lw_same m_isinstance m_list m_tuple m_zip m_all m_len m_bool m_str
  have C_Lw_same := d_Lw_same (P := P) (w := w) (base := base) F_Lw_same g_Lw_same (lo := 2) (by decide) l_se2 v_se2 C2_Lw_same m_isinstance m_list m_tuple m_zip m_all m_len m_bool m_str
  have C_is_whole := d_is_whole (P := P) (w := w) (base := base) (mg := mg) F_is_whole g_is_whole l_is_whole v_is_whole  m_isinstance m_bool m_int
  have C_need_told := d_need_told (P := P) (w := w) (base := base) (mg := mg) F_need_told g_need_told l_need_told v_need_told C_is_whole m_isinstance m_dict m_len c_MOST_BLOCK
  have C_bars_by := d_bars_by (P := P) (w := w) (base := base) (mg := mg) F_bars_by g_bars_by l_bars_by v_bars_by  m_sorted c_ALONE c_BOTH
  have C_is_stamp := d_is_stamp (P := P) (w := w) (base := base) (mg := mg) F_is_stamp g_is_stamp l_is_stamp v_is_stamp  m_len m_isinstance m_str c_STAMPS
  have C_are_stamps := d_are_stamps (P := P) (w := w) (base := base) (mg := mg) F_are_stamps g_are_stamps l_are_stamps v_are_stamps  m_all m_len m_isinstance m_str c_STAMPS c_MOST_PAPERS
  have C_is_between := d_is_between (P := P) (w := w) (base := base) (mg := mg) F_is_between g_is_between l_is_between v_is_between  m_isinstance m_bool m_int
  have C_is_rule := d_is_rule (P := P) (w := w) (base := base) (mg := mg) F_is_rule g_is_rule l_is_rule v_is_rule C_is_between m_all m_len m_isinstance m_tuple
  have C_are_rules := d_are_rules (P := P) (w := w) (base := base) (mg := mg) F_are_rules g_are_rules l_are_rules v_are_rules C_is_rule m_all m_len m_isinstance m_list m_zip c_MOST_RULES
  have C_is_heap := d_is_heap (P := P) (w := w) (base := base) (mg := mg) F_is_heap g_is_heap l_is_heap v_is_heap C_are_rules C_are_stamps C_is_stamp m_len m_isinstance m_tuple
  have C_straight_behind := d_straight_behind (P := P) (w := w) (base := base) (mg := mg) F_straight_behind g_straight_behind l_straight_behind v_straight_behind  m_range
  have C_ordered := d_ordered (P := P) (w := w) (base := base) (mg := mg) F_ordered g_ordered l_ordered v_ordered C_straight_behind m_range m_min
  have C_ring_by := d_ring_by (P := P) (w := w) (base := base) (mg := mg) F_ring_by g_ring_by l_ring_none v_ring_none C_ordered m_range m_min
  have C_is_pile := d_is_pile (P := P) (w := w) (base := base) (mg := mg) F_is_pile g_is_pile l_is_pile v_is_pile C_ring_by C_is_heap m_len
  have C_need_pile := d_need_pile (P := P) (w := w) (base := base) (mg := mg) F_need_pile g_need_pile l_need_pile v_need_pile C_is_pile 
  have C_in_order := d_in_order (P := P) (w := w) (base := base) (mg := mg) F_in_order g_in_order l_in_order v_in_order C_ordered m_len
  have C_base_of := d_base_of (P := P) (w := w) (base := base) (mg := mg) F_base_of g_base_of l_base_of v_base_of  m_int
  have C_change := d_change (P := P) (w := w) (base := base) (mg := mg) F_change g_change l_change v_change  m_int
  have C_earliest_of := d_earliest_of (P := P) (w := w) (base := base) (mg := mg) F_earliest_of g_earliest_of l_earliest_of v_earliest_of C_base_of C_in_order C_change m_len m_range m_max
  have C_earliest := d_earliest (P := P) (w := w) (base := base) (mg := mg) F_earliest g_earliest l_earliest v_earliest C_need_pile C_earliest_of 
  have C_need_most := d_need_most (P := P) (w := w) (base := base) (mg := mg) F_need_most g_need_most l_need_most v_need_most C_is_between C_earliest_of m_max c_FARTHEST
  have C_to_come := d_to_come (P := P) (w := w) (base := base) (mg := mg) F_to_come g_to_come l_to_come v_to_come C_in_order C_change m_len m_max
  have C_latest_of := d_latest_of (P := P) (w := w) (base := base) (mg := mg) F_latest_of g_latest_of l_latest_of v_latest_of C_to_come C_earliest_of m_zip
  have C_latest := d_latest (P := P) (w := w) (base := base) (mg := mg) F_latest g_latest l_latest v_latest C_need_pile C_need_most C_latest_of 
  have C_spans_from := d_spans_from (P := P) (w := w) (base := base) (mg := mg) F_spans_from g_spans_from l_spans_from v_spans_from  m_int
  have C_all_spans := d_all_spans (P := P) (w := w) (base := base) (mg := mg) F_all_spans g_all_spans l_all_spans v_all_spans C_spans_from m_len m_range
  have C_bars := d_bars (P := P) (w := w) (base := base) (mg := mg) F_bars g_bars l_bars v_bars C_latest C_earliest C_need_told C_bars_by C_all_spans 
  exact d_law (P := P) (w := w) (base := base) F_law g_law l_law v_law C_Lw_jar C_Lw_pile C_Lw_size C_Lw_most C_Lw_far C_Lw_plans C_Lw_told C_Lw_plan C_Lw_by_plans C_Lw_same C_bars m_len m_min m_max m_range m_repr m_list
end K49
end ST
end L3
open PySem PySem.W PySem.Calls PyProof.Rows
theorem PySem.Challenge.cw_twostamps_k49_what_bars_by_all_plans_holds : PySem.Challenge.rw_twostamps_k49_what_bars_by_all_plans.Holds := by
  w_on; o_law
  refine HandSHeadRun.head_any (r := OpenLaw.row PySem.Challenge.rw_twostamps_k49_what_bars_by_all_plans) (q := view (OpenLaw.row PySem.Challenge.rw_twostamps_k49_what_bars_by_all_plans).prog [57]) (H := L3.ST.K49.hk) (ob := L3.ST.K49.ob) (M := 8000) (loose := L3.ST.K49.loose) (d := HandSHeadRun.topDef (OpenLaw.row PySem.Challenge.rw_twostamps_k49_what_bars_by_all_plans).prog 57) (kwd := []) L3.ST.K49.ob_eq
    (by kernel_rfl) (fun s => by kernel_rfl) L3.ST.K49.run (by kernel_rfl) (by kernel_rfl) (by kernel_rfl) (by rfl) (by first | assumption | decide +kernel) (by decide +kernel) ⟨rfl, rfl, rfl, rfl, rfl, by decide +kernel⟩ ?hw ?hc
  case hw => w_witness2
  case hc =>
    refine L3.walk_ofG (l := PySem.Challenge.rw_twostamps_k49_what_bars_by_all_plans) (n := 63) (k := 9) (x := "_law_script") rfl (by decide) (by kernel_rfl) ⟨rfl, by decide, by decide⟩ ?F L3.ST.K49.promise
    intro w mg fa h Y G hmg0
    obtain ⟨K, KX, c, hL⟩ := Y
    have hmg : mg ("law" : PySem.Str) = some (.ref fa) := by
      have e : (HandSHeadRun.topDef (OpenLaw.row PySem.Challenge.rw_twostamps_k49_what_bars_by_all_plans).prog 57).name = ("law" : PySem.Str) := by kernel_rfl
      rw [← e]
      exact hmg0
    obtain ⟨fd, hb, hF⟩ := L3.ST.K49.facts (P := (PySem.Challenge.rw_twostamps_k49_what_bars_by_all_plans).prog) (w := w) KX G hmg c
    exact ⟨K, fd, KX, hL, hb, hF⟩
