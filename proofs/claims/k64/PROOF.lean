import PyProof.Rows.All
import Wide.All
import OpenK.AllK
import Wide.FinOn
import HandS.ForMost
import HandS.Lambda
import HandS.SortInts
import HandS.IsInst
import HandS.Conv
import HandS.Deep
import HandS.TupAny
import HandS.TupMul
import HandS.TupLe
import HandS.Wide
import HandS.DictComp
import HandS.SetFor
import HandS.Strs
import HandS.More
import HandS.Style
import KE.DatumOrd
import HandS.Sort
import HandS.ExcSuper
import HandS.Exc
import HandS.ExcInit
import KE.KSuper
import HandS.WordsExc
import HandS.Head0
import HandS.Head1
import HandS.Head2
import HandS.HeadHook1
import HandS.HeadHook2
import HandS.HeadHook3
import HandS.HeadHook4
import HandS.HeadEnd
import HandS.EndTab
import HandS.HeadWalk
import PySem.Challenge.RW_leastdeals_k64_whole_how_far_lines_are_f
set_option Elab.async false
set_option linter.all false
set_option maxRecDepth 100000
/-! The layer of abstract states: what a def's walk knows of its slots and of its own lists. -/
namespace Ab
open PySem L2

/-! ### data -/
inductive Dt where
  | at (v : V)
  | tup (ds : List Dt)
  | lst (ds : List Dt)
  | dct (kvs : List (Key × Dt))
  | ro (ds : List Dt)
  | rng (lo hi : Int)

abbrev Ex := Addr → Prop
/-- a list that is read alone (the script, a list of the module's top) -/
def SqLO (K : PySem.W.Frag) (H : Hp) (O : Ex) (a : Addr) (xs : List V) : Prop := (Rd H a (.lst xs) ∧ ¬ O a) ∨ (∀ H1, SqL K H1 a xs)
def SqTO (K : PySem.W.Frag) (H : Hp) (O : Ex) (a : Addr) (xs : List V) : Prop := (Rd H a (.tup xs) ∧ ¬ O a) ∨ (∀ H1, SqT K H1 a xs)
mutual
inductive Is (K : PySem.W.Frag) (H : Hp) (O : Ex) : V → Dt → Prop
  | at (v : V) : Is K H O v (.at v)
  | tup {a : Addr} {xs : List V} {ds : List Dt} : SqTO K H O a xs → IsAll K H O xs ds → Is K H O (.ref a) (.tup ds)
  | lst {a : Addr} {xs : List V} {ds : List Dt} : H a = some (.lst xs) → ¬ O a → IsAll K H O xs ds → Is K H O (.ref a) (.lst ds)
  | ro {a : Addr} {xs : List V} {ds : List Dt} : SqLO K H O a xs → IsAll K H O xs ds → Is K H O (.ref a) (.ro ds)
  | dct {a : Addr} {xs : List (Key × V)} {ds : List (Key × Dt)} : H a = some (.dK xs) → ¬ O a → IsKV K H O xs ds → Is K H O (.ref a) (.dct ds)
  | rng {a : Addr} {lo hi : Int} : H a = some (.rng lo hi) → ¬ O a → Is K H O (.ref a) (.rng lo hi)
inductive IsAll (K : PySem.W.Frag) (H : Hp) (O : Ex) : List V → List Dt → Prop
  | nil : IsAll K H O [] []
  | cons {v : V} {vs : List V} {d : Dt} {ds : List Dt} : Is K H O v d → IsAll K H O vs ds → IsAll K H O (v :: vs) (d :: ds)
inductive IsKV (K : PySem.W.Frag) (H : Hp) (O : Ex) : List (Key × V) → List (Key × Dt) → Prop
  | nil : IsKV K H O [] []
  | cons {k : Key} {v : V} {vs : List (Key × V)} {d : Dt} {ds : List (Key × Dt)} : Is K H O v d → IsKV K H O vs ds → IsKV K H O ((k, v) :: vs) ((k, d) :: ds)
end

/-- what may be seen stays seen -/
def Keeps (H : Hp) (O : Ex) (H' : Hp) (O' : Ex) : Prop := ∀ a o, H a = some o → ¬ O a → H' a = some o ∧ ¬ O' a
theorem Keeps.refl (H : Hp) (O : Ex) : Keeps H O H O := fun _ _ h n => ⟨h, n⟩
theorem Keeps.trans {H H1 H2 : Hp} {O O1 O2 : Ex} (a : Keeps H O H1 O1) (b : Keeps H1 O1 H2 O2) : Keeps H O H2 O2 := fun x o h n => let ⟨h1, n1⟩ := a x o h n; b x o h1 n1
theorem Keeps.new {H : Hp} {O : Ex} {p : Addr} {o : HO} (h : H p = none) : Keeps H O (upd H p o) O := fun a u e n => ⟨by rw [upd_ne (ne_of_none e h)]; exact e, n⟩
section
variable {K : PySem.W.Frag} {H H' : Hp} {O O' : Ex} {a : Addr}
theorem Keeps.rd (k : Keeps H O H' O') {u : HO} (h : Rd H a u) (n : ¬ O a) : Rd H' a u ∧ ¬ O' a := by
  rcases h with h | ⟨o, h⟩
  · exact ⟨.inl (k _ _ h n).1, (k _ _ h n).2⟩
  · exact ⟨.inr ⟨o, (k _ _ h n).1⟩, (k _ _ h n).2⟩
theorem SqLO.mono (k : Keeps H O H' O') {xs : List V} (h : SqLO K H O a xs) : SqLO K H' O' a xs := by
  rcases h with ⟨h, n⟩ | h
  · exact .inl (k.rd h n)
  · exact .inr h
theorem SqTO.mono (k : Keeps H O H' O') {xs : List V} (h : SqTO K H O a xs) : SqTO K H' O' a xs := by
  rcases h with ⟨h, n⟩ | h
  · exact .inl (k.rd h n)
  · exact .inr h
theorem SqLO.sq {xs : List V} (h : SqLO K H O a xs) : SqL K H a xs := by
  rcases h with ⟨h, n⟩ | h
  · exact .inl h
  · exact h H
theorem SqTO.sq {xs : List V} (h : SqTO K H O a xs) : SqT K H a xs := by
  rcases h with ⟨h, n⟩ | h
  · exact .inl h
  · exact h H
theorem SqLO.of_sq {xs : List V} (h : SqL K H a xs) (n : ∀ o, H a = some o → ¬ O a) : SqLO K H O a xs := by
  rcases h with h | h
  · refine .inl ⟨h, ?_⟩
    rcases h with h | ⟨o, h⟩
    · exact n _ h
    · exact n _ h
  · exact .inr fun H1 => .inr h
theorem SqTO.of_sq {xs : List V} (h : SqT K H a xs) (n : ∀ o, H a = some o → ¬ O a) : SqTO K H O a xs := by
  rcases h with h | h
  · refine .inl ⟨h, ?_⟩
    rcases h with h | ⟨o, h⟩
    · exact n _ h
    · exact n _ h
  · exact .inr fun H1 => .inr h
mutual
theorem Is.mono (k : Keeps H O H' O') : ∀ {v : V} (d : Dt), Is K H O v d → Is K H' O' v d
  | _, .at u, h => by cases h; exact .at _
  | _, .tup ds, h => by
    cases h with
    | tup s all => exact .tup (s.mono k) (IsAll.mono k ds all)
  | _, .lst ds, h => by
    cases h with
    | lst s n all => exact .lst (k _ _ s n).1 (k _ _ s n).2 (IsAll.mono k ds all)
  | _, .ro ds, h => by
    cases h with
    | ro s all => exact .ro (s.mono k) (IsAll.mono k ds all)
  | _, .dct ds, h => by
    cases h with
    | dct s n all => exact .dct (k _ _ s n).1 (k _ _ s n).2 (IsKV.mono k ds all)
  | _, .rng lo hi, h => by
    cases h with
    | rng s n => exact .rng (k _ _ s n).1 (k _ _ s n).2
theorem IsAll.mono (k : Keeps H O H' O') : ∀ {vs : List V} (ds : List Dt), IsAll K H O vs ds → IsAll K H' O' vs ds
  | _, [], h => by cases h; exact .nil
  | _, d :: ds, h => by
    cases h with
    | cons h1 h2 => exact .cons (Is.mono k d h1) (IsAll.mono k ds h2)
theorem IsKV.mono (k : Keeps H O H' O') : ∀ {vs : List (Key × V)} (ds : List (Key × Dt)), IsKV K H O vs ds → IsKV K H' O' vs ds
  | _, [], h => by cases h; exact .nil
  | _, (_, d) :: ds, h => by
    cases h with
    | cons h1 h2 => exact .cons (Is.mono k d h1) (IsKV.mono k ds h2)
end
theorem IsAll.length {vs : List V} : ∀ {ds : List Dt}, IsAll K H O vs ds → vs.length = ds.length
  | [], h => by cases h; rfl
  | _ :: ds, h => by
    cases h with
    | cons h1 h2 => simp [IsAll.length h2]
theorem IsAll.get : ∀ {vs : List V} {ds : List Dt} {i : Nat} {d : Dt}, IsAll K H O vs ds → ds[i]? = some d → ∃ v, vs[i]? = some v ∧ Is K H O v d
  | _, [], _, _, _, e => by simp at e
  | _, d :: ds, 0, d', h, e => by
    cases h with
    | cons h1 h2 =>
      simp at e
      subst e
      exact ⟨_, rfl, h1⟩
  | _, d :: ds, i + 1, d', h, e => by
    cases h with
    | cons h1 h2 =>
      obtain ⟨v, e1, e2⟩ := IsAll.get h2 (by simpa using e : ds[i]? = some d')
      exact ⟨v, by simpa using e1, e2⟩
theorem IsAll.get' : ∀ {vs : List V} {ds : List Dt} {i : Nat} {v : V}, IsAll K H O vs ds → vs[i]? = some v → ∃ d, ds[i]? = some d ∧ Is K H O v d := fun {vs ds i v} h e => by
  have hi : i < ds.length := by rw [← h.length]; exact (List.getElem?_eq_some_iff.mp e).1
  obtain ⟨w, e1, e2⟩ := h.get (List.getElem?_eq_getElem hi)
  rw [e] at e1
  cases e1
  exact ⟨_, List.getElem?_eq_getElem hi, e2⟩
theorem IsAll.append : ∀ {vs ws : List V} {ds es : List Dt}, IsAll K H O vs ds → IsAll K H O ws es → IsAll K H O (vs ++ ws) (ds ++ es)
  | _, _, [], _, h, h' => by cases h; exact h'
  | _, _, _ :: ds, _, h, h' => by
    cases h with
    | cons h1 h2 => exact .cons h1 (IsAll.append h2 h')
end

/-! ### states -/
inductive A where
  | dat (d : Dt)
  | cell (k : Nat)
inductive C where
  | lst (as : List A)
  | dk (kvs : List (Key × Dt))
  | gone
  | tab (q : Str)
structure Ms where
  sl : List (Option A)
  cs : List C
structure Gh where
  H0 : Hp
  Z : Ex
  B : List Addr
abbrev Ps := List (Option Addr)
def Out (G : Gh) (ps : Ps) : Ex := fun a => some a ∈ ps ∨ G.Z a
def AIs (K : PySem.W.Frag) (G : Gh) (ps : Ps) (H : Hp) (v : V) : A → Prop
  | .dat d => Is K H (Out G ps) v d
  | .cell k => ∃ p, ps[k]? = some (some p) ∧ v = .ref p
def COk (K : PySem.W.Frag) (G : Gh) (ps : Ps) (H : Hp) (q : Option Addr) : C → Prop
  | .gone => q = none
  | .tab n => ∃ p tb, q = some p ∧ H p = some (.tbl tb) ∧ TriplesOk tb.toList ∧ ∀ (pos : Pos) (cv : Value), codeAmong pos tb.toList = some cv → ∃ c, cv = .ref c ∧ H c = some (LamX.CodeO c n) ∧ ¬ Out G ps c
  | .lst as => ∃ p vs, q = some p ∧ H p = some (.lst vs) ∧ Paired (AIs K G ps H) vs as
  | .dk kvs => ∃ p vs, q = some p ∧ H p = some (.dK vs) ∧ IsKV K H (Out G ps) vs kvs
def SlOk (K : PySem.W.Frag) (G : Gh) (ps : Ps) (H : Hp) : Option V → Option A → Prop
  | _, none => True
  | some v, some a => AIs K G ps H v a
  | none, some _ => False
structure RelP (K : PySem.W.Frag) (G : Gh) (ps : Ps) (S : Ms) (σ : L2.St) (H : Hp) : Prop where
  nd : ∀ (i j : Nat) (p : Addr), ps[i]? = some (some p) → ps[j]? = some (some p) → i = j
  bs : ∃ r, ps = G.B.map some ++ r
  new : ∀ p : Addr, some p ∈ ps → p ∈ G.B ∨ G.H0 p = none
  keep : ∀ (a : Addr) (o : HO), G.H0 a = some o → a ∉ G.B → H a = some o
  zd : ∀ a : Addr, G.Z a → G.H0 a ≠ none ∧ a ∉ G.B
  clen : ps.length = S.cs.length
  cells : ∀ (k : Nat) (q : Option Addr) (c : C), ps[k]? = some q → S.cs[k]? = some c → COk K G ps H q c
  slots : Paired (SlOk K G ps H) σ S.sl
structure Le (G : Gh) (ps : Ps) (H : Hp) (ps' : Ps) (H' : Hp) : Prop where
  pre : ∃ r, ps' = ps ++ r
  out : Keeps H (Out G ps) H' (Out G ps')
section
variable {K : PySem.W.Frag} {G : Gh} {ps ps' ps2 : Ps} {S S' : Ms} {σ : L2.St} {H H' H2 : Hp} {v : V} {a : A}
theorem Le.refl : Le G ps H ps H := ⟨⟨[], by simp⟩, Keeps.refl _ _⟩
theorem Le.trans (x : Le G ps H ps' H') (y : Le G ps' H' ps2 H2) : Le G ps H ps2 H2 := by
  obtain ⟨⟨r, e⟩, k⟩ := x
  obtain ⟨⟨r', e'⟩, k'⟩ := y
  exact ⟨⟨r ++ r', by rw [e', e, List.append_assoc]⟩, k.trans k'⟩
theorem AIs.mono (x : Le G ps H ps' H') : ∀ {a : A}, AIs K G ps H v a → AIs K G ps' H' v a
  | .dat d, h => Is.mono x.out d h
  | .cell k, h => by
    obtain ⟨p, e, ev⟩ := h
    obtain ⟨⟨r, rfl⟩, _⟩ := x
    refine ⟨p, ?_, ev⟩
    rw [List.getElem?_append_left (List.getElem?_eq_some_iff.mp e).1]
    exact e
theorem SlOk.mono (x : Le G ps H ps' H') : ∀ {o : Option V} {a : Option A}, SlOk K G ps H o a → SlOk K G ps' H' o a
  | _, none, _ => by unfold SlOk; trivial
  | some v, some a, h => AIs.mono x h
  | none, some _, h => h
theorem Paired.mp {α β : Type} {F F' : α → β → Prop} : ∀ {xs : List α} {ys : List β}, Paired F xs ys → (∀ x y, F x y → F' x y) → Paired F' xs ys
  | _, _, .nil, _ => .nil
  | _, _, .cons r t, f => .cons (f _ _ r) (Paired.mp t f)
theorem Paired.at {α β : Type} {F : α → β → Prop} : ∀ {xs : List α} {ys : List β} {i : Nat} {y : β}, Paired F xs ys → ys[i]? = some y → ∃ x, xs[i]? = some x ∧ F x y
  | _, _, _, _, .nil, e => by simp at e
  | _, _, 0, _, .cons r _, e => by simp at e; subst e; exact ⟨_, rfl, r⟩
  | _, _, i + 1, y, .cons _ t, e => by
    obtain ⟨u, h1, h2⟩ := Paired.at (i := i) (y := y) t (by simpa using e)
    exact ⟨u, by simpa using h1, h2⟩
theorem Paired.at' {α β : Type} {F : α → β → Prop} : ∀ {xs : List α} {ys : List β} {i : Nat} {x : α}, Paired F xs ys → xs[i]? = some x → ∃ y, ys[i]? = some y ∧ F x y
  | _, _, _, _, .nil, e => by simp at e
  | _, _, 0, _, .cons r _, e => by simp at e; subst e; exact ⟨_, rfl, r⟩
  | _, _, i + 1, y, .cons _ t, e => by
    obtain ⟨u, h1, h2⟩ := Paired.at' (i := i) (x := y) t (by simpa using e)
    exact ⟨u, by simpa using h1, h2⟩
theorem Paired.len {α β : Type} {F : α → β → Prop} : ∀ {xs : List α} {ys : List β}, Paired F xs ys → xs.length = ys.length
  | _, _, .nil => rfl
  | _, _, .cons _ t => by simp [Paired.len t]
theorem Paired.set {α β : Type} {F : α → β → Prop} {x : α} {y : β} (r : F x y) : ∀ {xs : List α} {ys : List β} (i : Nat), Paired F xs ys → Paired F (xs.set i x) (ys.set i y)
  | _, _, _, .nil => .nil
  | _, _, 0, .cons _ t => .cons r t
  | _, _, i + 1, .cons q t => .cons q (Paired.set r i t)
theorem Paired.app {α β : Type} {F : α → β → Prop} : ∀ {xs xs' : List α} {ys ys' : List β}, Paired F xs ys → Paired F xs' ys' → Paired F (xs ++ xs') (ys ++ ys')
  | _, _, _, _, .nil, s => s
  | _, _, _, _, .cons r t, s => .cons r (Paired.app t s)
theorem RelP.tracked (R : RelP K G ps S σ H) {p : Addr} (h : some p ∈ ps) : ∃ o, H p = some o := by
  obtain ⟨k, hk⟩ := List.mem_iff_getElem?.mp h
  have hl : k < S.cs.length := by rw [← R.clen]; exact (List.getElem?_eq_some_iff.mp hk).1
  have ok := R.cells k _ _ hk (List.getElem?_eq_getElem hl)
  generalize S.cs[k] = c at ok
  cases c with
  | gone => exact nomatch (show some p = none from ok)
  | tab n =>
    obtain ⟨q, tb, e, h1, _⟩ := ok
    cases e
    exact ⟨_, h1⟩
  | lst as =>
    obtain ⟨q, vs, e, h1, _⟩ := ok
    cases e
    exact ⟨_, h1⟩
  | dk kvs =>
    obtain ⟨q, vs, e, h1, _⟩ := ok
    cases e
    exact ⟨_, h1⟩
/-- what is out is tracked -/
theorem RelP.out (R : RelP K G ps S σ H) {p : Addr} (h : H p = none) : ¬ Out G ps p := fun z => by
  rcases z with z | z
  · obtain ⟨o, e⟩ := R.tracked z
    rw [e] at h
    cases h
  · obtain ⟨n, nb⟩ := R.zd p z
    cases q : G.H0 p with
    | none => exact n q
    | some o =>
      rw [R.keep p o q nb] at h
      cases h
/-- a new object is laid, no cell -/
theorem Le.new {p : Addr} {o : HO} (h : H p = none) : Le G ps H ps (upd H p o) := ⟨⟨[], by simp⟩, Keeps.new h⟩
theorem COk.mono (x : Le G ps H ps' H') {q : Option Addr} (f : ∀ p o, q = some p → H p = some o → H' p = some o) : ∀ {c : C}, COk K G ps H q c → COk K G ps' H' q c
  | .gone, h => h
  | .tab n, h => by
    obtain ⟨p, tb, e, h1, h2, h3⟩ := h
    refine ⟨p, tb, e, f p _ e h1, h2, fun pos cv hc => ?_⟩
    obtain ⟨c, a, b, n⟩ := h3 pos cv hc
    exact ⟨c, a, (x.out _ _ b n).1, (x.out _ _ b n).2⟩
  | .lst as, h => by
    obtain ⟨p, vs, e, h1, h2⟩ := h
    exact ⟨p, vs, e, f p _ e h1, Paired.mp h2 fun _ _ z => z.mono x⟩
  | .dk kvs, h => by
    obtain ⟨p, vs, e, h1, h2⟩ := h
    exact ⟨p, vs, e, f p _ e h1, IsKV.mono x.out _ h2⟩
/-- all that was tracked stays: the state is kept -/
theorem RelP.same (R : RelP K G ps S σ H) (f : ∀ p o, H p = some o → H' p = some o) : RelP K G ps S σ H' ∧ Le G ps H ps H' := by
  have x : Le G ps H ps H' := ⟨⟨[], by simp⟩, fun a o h n => ⟨f a o h, n⟩⟩
  exact ⟨⟨R.nd, R.bs, R.new, fun a o h n => f a o (R.keep a o h n), R.zd, R.clen, fun k q c h1 h2 => COk.mono x (fun p o _ e => f p o e) (R.cells k q c h1 h2), Paired.mp R.slots fun _ _ h => h.mono x⟩, x⟩
theorem RelP.obj (R : RelP K G ps S σ H) {p : Addr} {o : HO} (h : H p = none) : RelP K G ps S σ (upd H p o) ∧ Le G ps H ps (upd H p o) := R.same fun a u e => by
  rw [upd_ne (ne_of_none e h)]
  exact e
theorem getElem?_snoc {α : Type} {l : List α} {x y : α} {k : Nat} (h : (l ++ [x])[k]? = some y) : (k < l.length ∧ l[k]? = some y) ∨ (k = l.length ∧ y = x) := by
  by_cases hl : k < l.length
  · rw [List.getElem?_append_left hl] at h
    exact .inl ⟨hl, h⟩
  · rw [List.getElem?_append_right (by omega)] at h
    have e : k - l.length = 0 := by
      have := (List.getElem?_eq_some_iff.mp h).1
      simp at this
      omega
    rw [e] at h
    simp at h
    exact .inr ⟨by omega, h.symm⟩
/-- a new list is a cell -/
theorem RelP.cell' (R : RelP K G ps S σ H) {p : Addr} {c : C} (h : H p = none) (f : ∀ a o, H a = some o → H' a = some o) (ok : Le G ps H (ps ++ [some p]) H' → COk K G (ps ++ [some p]) H' (some p) c) : RelP K G (ps ++ [some p]) ⟨S.sl, S.cs ++ [c]⟩ σ H' ∧ Le G ps H (ps ++ [some p]) H' := by
  have np : some p ∉ ps := fun z => by
    obtain ⟨u, e⟩ := R.tracked z
    rw [e] at h
    cases h
  have x : Le G ps H (ps ++ [some p]) H' := ⟨⟨_, rfl⟩, fun a u e n => by
    have ne : a ≠ p := ne_of_none e h
    refine ⟨f a u e, fun z => ?_⟩
    rcases z with z | z
    · rcases List.mem_append.mp z with z | z
      · exact n (.inl z)
      · simp at z
        exact ne z
    · exact n (.inr z)⟩
  refine ⟨⟨fun i j q hi hj => ?_, ?_, fun q m => ?_, fun a u e n => f a u (R.keep a u e n), R.zd, ?_, fun k q c' h1 h2 => ?_, Paired.mp R.slots fun _ _ z => z.mono x⟩, x⟩
  · rcases getElem?_snoc hi with ⟨a1, a2⟩ | ⟨a1, a2⟩
    · rcases getElem?_snoc hj with ⟨b1, b2⟩ | ⟨b1, b2⟩
      · exact R.nd i j q a2 b2
      · cases b2
        exact absurd (List.mem_of_getElem? a2) np
    · rcases getElem?_snoc hj with ⟨b1, b2⟩ | ⟨b1, b2⟩
      · cases a2
        exact absurd (List.mem_of_getElem? b2) np
      · omega
  · obtain ⟨r, e⟩ := R.bs
    exact ⟨r ++ [some p], by rw [e, List.append_assoc]⟩
  · rcases List.mem_append.mp m with m | m
    · exact R.new q m
    · simp at m
      subst m
      by_cases hb : q ∈ G.B
      · exact .inl hb
      · right
        cases e : G.H0 q with
        | none => rfl
        | some u =>
          rw [R.keep q u e hb] at h
          cases h
  · show (ps ++ [some p]).length = (S.cs ++ [c]).length
    rw [List.length_append, List.length_append, R.clen]
    rfl
  · rcases getElem?_snoc h1 with ⟨a1, a2⟩ | ⟨a1, a2⟩
    · rcases getElem?_snoc (show (S.cs ++ [c])[k]? = some c' from h2) with ⟨b1, b2⟩ | ⟨b1, b2⟩
      · exact COk.mono x (fun b u e1 e2 => f b u e2) (R.cells k q c' a2 b2)
      · rw [← R.clen] at b1
        omega
    · rcases getElem?_snoc (show (S.cs ++ [c])[k]? = some c' from h2) with ⟨b1, b2⟩ | ⟨b1, b2⟩
      · rw [← R.clen] at b1
        omega
      · subst a2
        subst b2
        exact ok x
theorem RelP.cell (R : RelP K G ps S σ H) {p : Addr} {o : HO} {c : C} (h : H p = none) (ok : Le G ps H (ps ++ [some p]) (upd H p o) → COk K G (ps ++ [some p]) (upd H p o) (some p) c) : RelP K G (ps ++ [some p]) ⟨S.sl, S.cs ++ [c]⟩ σ (upd H p o) ∧ Le G ps H (ps ++ [some p]) (upd H p o) :=
  R.cell' h (fun a u e => by rw [upd_ne (ne_of_none e h)]; exact e) ok
/-- a cell is written -/
theorem RelP.write' (R : RelP K G ps S σ H) {k : Nat} {p : Addr} {c : C} (hk : ps[k]? = some (some p)) (f : ∀ a o, a ≠ p → H a = some o → H' a = some o) (ok : Le G ps H ps H' → COk K G ps H' (some p) c) : RelP K G ps ⟨S.sl, S.cs.set k c⟩ σ H' ∧ Le G ps H ps H' := by
  have mp : some p ∈ ps := List.mem_of_getElem? hk
  have x : Le G ps H ps H' := ⟨⟨[], by simp⟩, fun a u e n => by
    have ne : a ≠ p := fun z => n (.inl (by rw [z]; exact mp))
    exact ⟨f a u ne e, n⟩⟩
  refine ⟨⟨R.nd, R.bs, R.new, fun a u e n => ?_, R.zd, ?_, fun j q c' h1 h2 => ?_, Paired.mp R.slots fun _ _ z => z.mono x⟩, x⟩
  · have ne : a ≠ p := fun z => by
      subst z
      rcases R.new a mp with h | h
      · exact n h
      · rw [h] at e
        cases e
    exact f a u ne (R.keep a u e n)
  · show ps.length = (S.cs.set k c).length
    rw [List.length_set]
    exact R.clen
  · have h2 : (S.cs.set k c)[j]? = some c' := h2
    by_cases e : k = j
    · subst e
      rw [hk] at h1
      cases h1
      rw [List.getElem?_set_self (by rw [← R.clen]; exact (List.getElem?_eq_some_iff.mp hk).1)] at h2
      cases h2
      exact ok x
    · rw [List.getElem?_set_ne e] at h2
      refine COk.mono x (fun b u e1 e2 => ?_) (R.cells j q c' h1 h2)
      subst e1
      have ne : b ≠ p := fun z => by
        subst z
        exact e (R.nd k j b hk h1)
      exact f b u ne e2
theorem RelP.write (R : RelP K G ps S σ H) {k : Nat} {p : Addr} {o : HO} {c : C} (hk : ps[k]? = some (some p)) (ok : Le G ps H ps (upd H p o) → COk K G ps (upd H p o) (some p) c) : RelP K G ps ⟨S.sl, S.cs.set k c⟩ σ (upd H p o) ∧ Le G ps H ps (upd H p o) :=
  R.write' hk (fun a u ne e => by rw [upd_ne ne]; exact e) ok
theorem RelP.slot (R : RelP K G ps S σ H) {i : Nat} {a : A} (h : S.sl[i]? = some (some a)) : ∃ v, σ[i]? = some (some v) ∧ AIs K G ps H v a := by
  obtain ⟨x, e, ok⟩ := Paired.at R.slots h
  cases x with
  | none => exact ok.elim
  | some v => exact ⟨v, e, ok⟩
theorem RelP.store (R : RelP K G ps S σ H) (i : Nat) (ok : AIs K G ps H v a) : RelP K G ps ⟨S.sl.set i (some a), S.cs⟩ (σ.set i (some v)) H :=
  ⟨R.nd, R.bs, R.new, R.keep, R.zd, R.clen, R.cells, Paired.set (show SlOk K G ps H (some v) (some a) from ok) i R.slots⟩
end
end Ab
set_option Elab.async false
set_option linter.all false
set_option maxRecDepth 100000
/-! Typed data, the judgements, expressions. -/
namespace Ab
open PySem L2

class Enc (α : Type) where
  enc : α → Dt
abbrev enc {α : Type} [Enc α] (x : α) : Dt := Enc.enc x
abbrev En {α : Type} [Enc α] (x : α) : A := .dat (Enc.enc x)
instance : Enc Int := ⟨fun i => .at (.int i)⟩
instance : Enc Bool := ⟨fun b => .at (.bl b)⟩
instance : Enc Str := ⟨fun z => .at (.str z)⟩
instance : Enc Unit := ⟨fun _ => .at .non⟩
instance : Enc Dt := ⟨fun d => d⟩
instance : Enc V := ⟨fun v => .at v⟩
def Tp (α : Type) := List α
def Ro (α : Type) := List α
def T3 (α β γ : Type) := α × β × γ
def T4 (α β γ δ : Type) := α × β × γ × δ
def T5 (α β γ δ ε : Type) := α × β × γ × δ × ε
def Dc (α : Type) := List (Int × α)
instance {α : Type} [Enc α] : Enc (List α) := ⟨fun xs => .lst (xs.map Enc.enc)⟩
instance {α : Type} [Enc α] : Enc (Tp α) := ⟨fun xs => .tup (List.map Enc.enc xs)⟩
instance {α : Type} [Enc α] : Enc (Ro α) := ⟨fun xs => .ro (List.map Enc.enc xs)⟩
instance {α β : Type} [Enc α] [Enc β] : Enc (α × β) := ⟨fun p => .tup [Enc.enc p.1, Enc.enc p.2]⟩
instance {α β γ : Type} [Enc α] [Enc β] [Enc γ] : Enc (T3 α β γ) := ⟨fun p => .tup [Enc.enc p.1, Enc.enc p.2.1, Enc.enc p.2.2]⟩
instance {α β γ δ : Type} [Enc α] [Enc β] [Enc γ] [Enc δ] : Enc (T4 α β γ δ) := ⟨fun p => .tup [Enc.enc p.1, Enc.enc p.2.1, Enc.enc p.2.2.1, Enc.enc p.2.2.2]⟩
instance {α : Type} [Enc α] : Enc (Option α) := ⟨fun | none => .at .non | some x => Enc.enc x⟩
instance {α : Type} [Enc α] : Enc (Dc α) := ⟨fun d => .dct (List.map (fun (p : Int × α) => ((Sum.inl p.1 : Key), Enc.enc p.2)) d)⟩
instance {α : Type} [DecidableEq α] : DecidableEq (Tp α) := inferInstanceAs (DecidableEq (List α))
instance {α β γ : Type} [DecidableEq α] [DecidableEq β] [DecidableEq γ] : DecidableEq (T3 α β γ) := inferInstanceAs (DecidableEq (α × β × γ))
instance {α β γ δ : Type} [DecidableEq α] [DecidableEq β] [DecidableEq γ] [DecidableEq δ] : DecidableEq (T4 α β γ δ) := inferInstanceAs (DecidableEq (α × β × γ × δ))
instance {α : Type} : Inhabited (Tp α) := ⟨([] : List α)⟩
instance {α β γ : Type} [Inhabited α] [Inhabited β] [Inhabited γ] : Inhabited (T3 α β γ) := inferInstanceAs (Inhabited (α × β × γ))
instance {α β γ δ : Type} [Inhabited α] [Inhabited β] [Inhabited γ] [Inhabited δ] : Inhabited (T4 α β γ δ) := inferInstanceAs (Inhabited (α × β × γ × δ))
abbrev Cl {α : Type} [Enc α] (xs : List α) : C := .lst (xs.map fun x => .dat (Enc.enc x))

/-! ### judgements -/
def tEV (K : PySem.W.Frag) (G : Gh) (S : Ms) (a : A) (S' : Ms) : TE := fun σ H Q => ∃ ps, RelP K G ps S σ H ∧ ∀ v H' ps', RelP K G ps' S' σ H' → Le G ps H ps' H' → AIs K G ps' H' v a → Q v H'
def tET (K : PySem.W.Frag) (G : Gh) (S : Ms) (b : Bool) (S' : Ms) : TT := fun σ H Q => ∃ ps, RelP K G ps S σ H ∧ ∀ H' ps', RelP K G ps' S' σ H' → Le G ps H ps' H' → Q b H'
def tEA (K : PySem.W.Frag) (G : Gh) (S : Ms) (as : List A) (S' : Ms) : TA := fun σ H Q => ∃ ps, RelP K G ps S σ H ∧ ∀ vs H' ps', RelP K G ps' S' σ H' → Le G ps H ps' H' → Paired (AIs K G ps' H') vs as → Q vs H'
/-- e, from S, gives a and leaves S' -/
def EV (X : Cx) (G : Gh) (S : Ms) (e : Expr) (a : A) (S' : Ms) : Prop := PE X e (tEV X.K G S a S')
def ET (X : Cx) (G : Gh) (S : Ms) (e : Expr) (b : Bool) (S' : Ms) : Prop := PT X e (tET X.K G S b S')
def EA (X : Cx) (G : Gh) (S : Ms) (es : List Expr) (as : List A) (S' : Ms) : Prop := PA X es (tEA X.K G S as S')
theorem PE.imp {X : Cx} {e : Expr} {t t' : TE} (h : PE X e t) (f : ∀ σ H Q, t' σ H Q → t σ H Q) : PE X e t' := ⟨fun pins s σ H Q I q => h.run pins s σ H Q I (f σ H Q q)⟩
theorem PT.imp {X : Cx} {e : Expr} {t t' : TT} (h : PT X e t) (f : ∀ σ H Q, t' σ H Q → t σ H Q) : PT X e t' := ⟨fun pins s σ H Q I q => h.run pins s σ H Q I (f σ H Q q)⟩
theorem PW.imp {X : Cx} {e : Expr} {t t' : TT} (h : PW X e t) (f : ∀ σ H Q, t' σ H Q → t σ H Q) : PW X e t' := ⟨fun wh pins s σ H Q I q => h.run wh pins s σ H Q I (f σ H Q q)⟩
theorem PA.imp {X : Cx} {e : List Expr} {t t' : TA} (h : PA X e t) (f : ∀ σ H Q, t' σ H Q → t σ H Q) : PA X e t' := ⟨fun ps pins s σ H Q I q => h.run ps pins s σ H Q I (f σ H Q q)⟩
theorem PS.imp {X : Cx} {e : Stmt} {t t' : TS} (h : PS X e t) (f : ∀ D σ H, t' D σ H → t D σ H) : PS X e t' := ⟨fun pins s σ H D I q => h.run pins s σ H D I (f D σ H q)⟩
theorem PSs.imp {X : Cx} {e : List Stmt} {t t' : TS} (h : PSs X e t) (f : ∀ D σ H, t' D σ H → t D σ H) : PSs X e t' := ⟨fun pins s σ H D I q => h.run pins s σ H D I (f D σ H q)⟩

section
variable {X : Cx} {G : Gh} {S S1 S2 S3 : Ms} {a b c : Expr} {x y z : A} {pos : Pos}
theorem EV.to {x' : A} (h : EV X G S a x S1) (e : x = x') : EV X G S a x' S1 := e ▸ h
theorem ET.to {p p' : Bool} (h : ET X G S a p S1) (e : p = p') : ET X G S a p' S1 := e ▸ h

/-! ### names, constants -/
theorem ev_name {i : Nat} {n : Str} {a : A} (hN : X.N[i]? = some n := by rfl) (hs : S.sl[i]? = some (some a) := by rfl) (hv : Vis X.env.scope n := by first | exact Or.inl rfl | exact Or.inr (Or.inl rfl) | exact Or.inr (Or.inr rfl))
    (hd : (n == ("__debug__" : Str)) = false := by decide) (hcd : (n == ("__classdict__" : Str)) = false := by decide) : EV X G S (.Name n pos) a S :=
  PE.imp (pe_var hN hv hd hcd) fun σ H Q ⟨ps, R, q⟩ => by
    obtain ⟨v, e, ok⟩ := R.slot hs
    exact ⟨v, e, q v H ps R Le.refl ok⟩
theorem ev_at {e : Expr} {v : V} (h : PE X e (tC v)) : EV X G S e (.dat (.at v)) S := PE.imp h fun σ H Q ⟨ps, R, q⟩ => q v H ps R Le.refl (.at v)
theorem ev_int {i : Int} {j : Nat} : EV X G S (.Constant (.int i) j pos) (En i) S := ev_at pe_int
theorem ev_bl {i : Bool} {j : Nat} : EV X G S (.Constant (.bool i) j pos) (En i) S := ev_at pe_bl
theorem ev_str {i : Str} {j : Nat} : EV X G S (.Constant (.str i) j pos) (En i) S := ev_at pe_str
theorem ev_non {j : Nat} : EV X G S (.Constant .none j pos) (En ()) S := ev_at pe_non
/-- a global: a constant of the top, a def -/
theorem ev_glob {n : Str} {v : V} {u : Value} (hm : X.mg n = some u) (r : RelV v u) (hg : Gl X n := by rfl) (hd : (n == ("__debug__" : Str)) = false := by decide) : EV X G S (.Name n pos) (.dat (.at v)) S := ev_at (pe_glob hg hm r hd)
theorem ev_gint {n : Str} {i : Int} (hm : ∃ t, X.mg n = some (.int i t)) (hg : Gl X n := by rfl) (hd : (n == ("__debug__" : Str)) = false := by decide) : EV X G S (.Name n pos) (En i) S := by
  obtain ⟨t, hm⟩ := hm
  exact ev_at (pe_glob hg hm ⟨t, rfl⟩ hd)

/-! ### operators -/
/-- a two-place operation on values, from S, gives z and leaves S' -/
def R2A (K : PySem.W.Frag) (r : R2) (G : Gh) (S : Ms) (x y z : A) (S' : Ms) : Prop := ∀ vx vy ps σ H Q, RelP K G ps S σ H → AIs K G ps H vx x → AIs K G ps H vy y →
  (∀ v H' ps', RelP K G ps' S' σ H' → Le G ps H ps' H' → AIs K G ps' H' v z → Q v H') → r vx vy H Q
theorem ev_op2 {r : R2} {e : Expr} (hx : EV X G S a x S1) (hy : EV X G S1 b y S2) (hr : R2A X.K r G S2 x y z S3) (pe : ∀ ta tb, PE X a ta → PE X b tb → PE X e (tOp r ta tb)) : EV X G S e z S3 :=
  PE.imp (pe _ _ hx hy) fun σ H Q ⟨ps, R, q⟩ => ⟨ps, R, fun v H1 ps1 R1 L1 A1 => ⟨ps1, R1, fun u H2 ps2 R2 L2 A2 =>
    hr v u ps2 σ H2 Q R2 (A1.mono L2) A2 fun w H3 ps3 R3 L3 A3 => q w H3 ps3 R3 ((L1.trans L2).trans L3) A3⟩⟩
theorem ev_bin {r : R2} {op : Operator} (ho : OpR X (binaryOp op) r) (hx : EV X G S a x S1) (hy : EV X G S1 b y S2) (hr : R2A X.K r G S2 x y z S3) : EV X G S (.BinOp a op b pos) z S3 := ev_op2 hx hy hr fun _ _ h1 h2 => pe_op ho h1 h2
theorem ev_cmp {r : R2} {op : CmpOp} (ho : OpR X (compareOp op) r) (hx : EV X G S a x S1) (hy : EV X G S1 b y S2) (hr : R2A X.K r G S2 x y z S3) (hm : behindInMarks op b = false) : EV X G S (.Compare a [op] [b] pos) z S3 := ev_op2 hx hy hr fun _ _ h1 h2 => pe_cmpR ho h1 h2 hm
theorem et_cmp {r : R2} {op : CmpOp} {p : Bool} (ho : OpR X (compareOp op) r) (hx : EV X G S a x S1) (hy : EV X G S1 b y S2) (hr : R2A X.K r G S2 x y (En p) S3) (hm : behindInMarks op b = false) : ET X G S (.Compare a [op] [b] pos) p S3 :=
  PT.imp (pt_cmpR ho hx hy hm) fun σ H Q ⟨ps, R, q⟩ => ⟨ps, R, fun v H1 ps1 R1 L1 A1 => ⟨ps1, R1, fun u H2 ps2 R2 L2 A2 =>
    hr v u ps2 σ H2 _ R2 (A1.mono L2) A2 fun w H3 ps3 R3 L3 A3 => by
      cases A3
      exact ⟨p, rfl, q H3 ps3 R3 ((L1.trans L2).trans L3)⟩⟩⟩
theorem is_at {K : PySem.W.Frag} {ps : Ps} {H : Hp} {v w : V} (h : AIs K G ps H v (.dat (.at w))) : v = w := by
  cases h
  rfl
theorem is_int {K : PySem.W.Frag} {ps : Ps} {H : Hp} {v : V} {i : Int} (h : AIs K G ps H v (En i)) : v = .int i := is_at h
theorem r2_I0 {K : PySem.W.Frag} {g : Int → Int → V} {i j : Int} : R2A K (rI0 g) G S (En i) (En j) (.dat (.at (g i j))) S := fun vx vy ps σ H Q R hx hy q =>
  ⟨i, j, is_at hx, is_at hy, q _ H ps R Le.refl (.at _)⟩
theorem r2_I {K : PySem.W.Frag} {C : Int → Int → Prop} {g : Int → Int → V} {i j : Int} (hc : C i j) : R2A K (rI C g) G S (En i) (En j) (.dat (.at (g i j))) S := fun vx vy ps σ H Q R hx hy q =>
  ⟨i, j, is_at hx, is_at hy, hc, q _ H ps R Le.refl (.at _)⟩
section
variable {i j k : Int}
theorem ev_add (hx : EV X G S a (En i) S1) (hy : EV X G S1 b (En j) S2) : EV X G S (.BinOp a .Add b pos) (En (i + j)) S2 := ev_bin op_add hx hy r2_I0
theorem ev_sub (hx : EV X G S a (En i) S1) (hy : EV X G S1 b (En j) S2) : EV X G S (.BinOp a .Sub b pos) (En (i - j)) S2 := ev_bin op_sub hx hy r2_I0
theorem ev_mul (hx : EV X G S a (En i) S1) (hy : EV X G S1 b (En j) S2) (h : CMul i j) : EV X G S (.BinOp a .Mult b pos) (En (i * j)) S2 := ev_bin op_mul hx hy (r2_I h)
theorem ev_fdiv (hx : EV X G S a (En i) S1) (hy : EV X G S1 b (En j) S2) (h : CDiv i j) : EV X G S (.BinOp a .FloorDiv b pos) (En (i / j)) S2 := ev_bin op_fdiv hx hy (r2_I h)
theorem ev_mod (hx : EV X G S a (En i) S1) (hy : EV X G S1 b (En j) S2) (h : 0 < j) : EV X G S (.BinOp a .Mod b pos) (En (i % j)) S2 := ev_bin op_mod hx hy (r2_I h)
theorem ev_pow (hx : EV X G S a (En i) S1) (hy : EV X G S1 b (En j) S2) (h : CPow i j) : EV X G S (.BinOp a .Pow b pos) (En (i ^ j.toNat)) S2 := ev_bin op_pow hx hy (r2_I h)
theorem ev_neg (hx : EV X G S a (En i) S1) : EV X G S (.UnaryOp .USub a pos) (En (-i)) S1 :=
  PE.imp (pe_un un_neg hx) fun σ H Q ⟨ps, R, q⟩ => ⟨ps, R, fun v H1 ps1 R1 L1 A1 => ⟨i, is_at A1, q _ H1 ps1 R1 L1 (.at _)⟩⟩
theorem et_lt (hx : EV X G S a (En i) S1) (hy : EV X G S1 b (En j) S2) : ET X G S (.Compare a [.Lt] [b] pos) (decide (i < j)) S2 := et_cmp op_lt hx hy r2_I0 (nomark _)
theorem et_le (hx : EV X G S a (En i) S1) (hy : EV X G S1 b (En j) S2) : ET X G S (.Compare a [.LtE] [b] pos) (decide (i ≤ j)) S2 := et_cmp op_le hx hy r2_I0 (nomark _)
theorem et_gt (hx : EV X G S a (En i) S1) (hy : EV X G S1 b (En j) S2) : ET X G S (.Compare a [.Gt] [b] pos) (decide (j < i)) S2 := et_cmp op_gt hx hy r2_I0 (nomark _)
theorem et_ge (hx : EV X G S a (En i) S1) (hy : EV X G S1 b (En j) S2) : ET X G S (.Compare a [.GtE] [b] pos) (decide (j ≤ i)) S2 := et_cmp op_ge hx hy r2_I0 (nomark _)
theorem ev_lt (hx : EV X G S a (En i) S1) (hy : EV X G S1 b (En j) S2) : EV X G S (.Compare a [.Lt] [b] pos) (En (decide (i < j))) S2 := ev_cmp op_lt hx hy r2_I0 (nomark _)
theorem ev_le (hx : EV X G S a (En i) S1) (hy : EV X G S1 b (En j) S2) : EV X G S (.Compare a [.LtE] [b] pos) (En (decide (i ≤ j))) S2 := ev_cmp op_le hx hy r2_I0 (nomark _)
theorem ev_gt (hx : EV X G S a (En i) S1) (hy : EV X G S1 b (En j) S2) : EV X G S (.Compare a [.Gt] [b] pos) (En (decide (j < i))) S2 := ev_cmp op_gt hx hy r2_I0 (nomark _)
theorem ev_ge (hx : EV X G S a (En i) S1) (hy : EV X G S1 b (En j) S2) : EV X G S (.Compare a [.GtE] [b] pos) (En (decide (j ≤ i))) S2 := ev_cmp op_ge hx hy r2_I0 (nomark _)
end
/-- atoms that == compares as they are -/
theorem r2_eq {K : PySem.W.Frag} {v w : V} (h : scal v w = true) : R2A K rEq G S (.dat (.at v)) (.dat (.at w)) (En (decide (v = w))) S := fun vx vy ps σ H Q R hx hy q => by
  have e1 := is_at hx
  have e2 := is_at hy
  subst e1
  subst e2
  exact ⟨h, q _ H ps R Le.refl (.at _)⟩
theorem r2_ne {K : PySem.W.Frag} {v w : V} (h : scal v w = true) : R2A K rNe G S (.dat (.at v)) (.dat (.at w)) (En (!decide (v = w))) S := fun vx vy ps σ H Q R hx hy q => by
  have e1 := is_at hx
  have e2 := is_at hy
  subst e1
  subst e2
  exact ⟨h, q _ H ps R Le.refl (.at _)⟩
section
variable {i j : Int} {p q : Bool} {s t : Str}
theorem dint : decide (V.int i = V.int j) = decide (i = j) := by
  by_cases h : i = j
  · subst h; simp
  · rw [decide_eq_false h, decide_eq_false fun z => h (V.int.inj z)]
theorem dbl : decide (V.bl p = V.bl q) = decide (p = q) := by
  by_cases h : p = q
  · subst h; simp
  · rw [decide_eq_false h, decide_eq_false fun z => h (V.bl.inj z)]
theorem dstr : decide (V.str s = V.str t) = decide (s = t) := by
  by_cases h : s = t
  · subst h; simp
  · rw [decide_eq_false h, decide_eq_false fun z => h (V.str.inj z)]
theorem ev_eqI (hx : EV X G S a (En i) S1) (hy : EV X G S1 b (En j) S2) : EV X G S (.Compare a [.Eq] [b] pos) (En (decide (i = j))) S2 := (ev_cmp op_eq hx hy (r2_eq (v := .int i) (w := .int j) rfl) (nomark _)).to (by rw [dint])
theorem et_eqI (hx : EV X G S a (En i) S1) (hy : EV X G S1 b (En j) S2) : ET X G S (.Compare a [.Eq] [b] pos) (decide (i = j)) S2 := (et_cmp op_eq hx hy (r2_eq (v := .int i) (w := .int j) rfl) (nomark _)).to dint
theorem ev_neI (hx : EV X G S a (En i) S1) (hy : EV X G S1 b (En j) S2) : EV X G S (.Compare a [.NotEq] [b] pos) (En (!decide (i = j))) S2 := (ev_cmp op_ne hx hy (r2_ne (v := .int i) (w := .int j) rfl) (nomark _)).to (by rw [dint])
theorem et_neI (hx : EV X G S a (En i) S1) (hy : EV X G S1 b (En j) S2) : ET X G S (.Compare a [.NotEq] [b] pos) (!decide (i = j)) S2 := (et_cmp op_ne hx hy (r2_ne (v := .int i) (w := .int j) rfl) (nomark _)).to (by rw [dint])
theorem ev_eqB (hx : EV X G S a (En p) S1) (hy : EV X G S1 b (En q) S2) : EV X G S (.Compare a [.Eq] [b] pos) (En (decide (p = q))) S2 := (ev_cmp op_eq hx hy (r2_eq (v := .bl p) (w := .bl q) rfl) (nomark _)).to (by rw [dbl])
theorem et_eqB (hx : EV X G S a (En p) S1) (hy : EV X G S1 b (En q) S2) : ET X G S (.Compare a [.Eq] [b] pos) (decide (p = q)) S2 := (et_cmp op_eq hx hy (r2_eq (v := .bl p) (w := .bl q) rfl) (nomark _)).to dbl
theorem et_neB (hx : EV X G S a (En p) S1) (hy : EV X G S1 b (En q) S2) : ET X G S (.Compare a [.NotEq] [b] pos) (!decide (p = q)) S2 := (et_cmp op_ne hx hy (r2_ne (v := .bl p) (w := .bl q) rfl) (nomark _)).to (by rw [dbl])
theorem et_eqS (hx : EV X G S a (En s) S1) (hy : EV X G S1 b (En t) S2) : ET X G S (.Compare a [.Eq] [b] pos) (decide (s = t)) S2 := (et_cmp op_eq hx hy (r2_eq (v := .str s) (w := .str t) rfl) (nomark _)).to dstr
theorem et_neS (hx : EV X G S a (En s) S1) (hy : EV X G S1 b (En t) S2) : ET X G S (.Compare a [.NotEq] [b] pos) (!decide (s = t)) S2 := (et_cmp op_ne hx hy (r2_ne (v := .str s) (w := .str t) rfl) (nomark _)).to (by rw [dstr])
theorem peF {e : Expr} : PE X e (fun _ _ _ => False) := ⟨fun _ _ _ _ _ _ h => h.elim⟩
/-- a < b < c of ints -/
theorem et_chain {op op' : CmpOp} {f g : Int → Int → Bool} {k : Int} (ho : OpR X (compareOp op) (rI0 fun i j => .bl (f i j))) (ho' : OpR X (compareOp op') (rI0 fun i j => .bl (g i j))) (h1 : EV X G S a (En i) S1) (h2 : EV X G S1 b (En j) S2) (h3 : f i j = true → EV X G S2 c (En k) S2) (hm : lastMarks [op, op'] [b, c] = false := by with_unfolding_all rfl) :
    ET X G S (.Compare a [op, op'] [b, c] pos) (f i j && g j k) S2 := by
  by_cases hf : f i j = true
  · refine PT.imp (pt_chain ho ho' h1 h2 (h3 hf) hm) fun σ H Q ⟨ps, R, q⟩ => ?_
    refine ⟨ps, R, fun v H1 ps1 R1 L1 A1 => ⟨ps1, R1, fun u H2 ps2 R2 L2 A2 => ⟨i, j, is_at A1, is_at A2, f i j, rfl, ?_⟩⟩⟩
    rw [hf]
    refine iteT ⟨ps2, R2, fun w H3 ps3 R3 L3 A3 => ⟨j, k, is_at A2, is_at A3, g j k, rfl, ?_⟩⟩
    rw [hf, Bool.true_and] at q
    exact q H3 ps3 R3 ((L1.trans L2).trans L3)
  · have hf : f i j = false := by simpa using hf
    refine PT.imp (pt_chain ho ho' h1 h2 peF hm) fun σ H Q ⟨ps, R, q⟩ => ?_
    refine ⟨ps, R, fun v H1 ps1 R1 L1 A1 => ⟨ps1, R1, fun u H2 ps2 R2 L2 A2 => ⟨i, j, is_at A1, is_at A2, f i j, rfl, ?_⟩⟩⟩
    rw [hf]
    rw [hf, Bool.false_and] at q
    exact iteF ⟨false, rfl, q H2 ps2 R2 (L1.trans L2)⟩
end
/-! ### and, or, not, if -/
variable {p q : Bool} {rest : List Expr}
theorem ptF {e : Expr} : PT X e (fun _ _ _ => False) := ⟨fun _ _ _ _ _ _ h => h.elim⟩
theorem pwF {e : Expr} : PW X e (fun _ _ _ => False) := ⟨fun _ _ _ _ _ _ _ h => h.elim⟩
def EW (X : Cx) (G : Gh) (S : Ms) (e : Expr) (b : Bool) (S' : Ms) : Prop := PW X e (tET X.K G S b S')
theorem et_not (h : ET X G S a p S1) : ET X G S (.UnaryOp .Not a pos) (!p) S1 := PT.imp (pt_not h) fun σ H Q ⟨ps, R, q⟩ => ⟨ps, R, fun H1 ps1 R1 L1 => q H1 ps1 R1 L1⟩
theorem et_w (h : EW X G S a p S1) : ET X G S a p S1 := PW.pt h
theorem ew_and1 (h : ET X G S a p S1) : EW X G S (.BoolOp .And [a] pos) p S1 := pw_and1 h
theorem ew_or1 (h : ET X G S a p S1) : EW X G S (.BoolOp .Or [a] pos) p S1 := pw_or1 h
theorem ew_and (h1 : ET X G S a p S1) (h2 : p = true → EW X G S1 (.BoolOp .And (b :: rest) pos) q S2) (h3 : p = false → S1 = S2 := by intro _; rfl) : EW X G S (.BoolOp .And (a :: b :: rest) pos) (p && q) S2 := by
  cases p with
  | true =>
    refine PW.imp (pw_and h1 (h2 rfl)) fun σ H Q ⟨ps, R, k⟩ => ⟨ps, R, fun H1 ps1 R1 L1 => iteT ⟨ps1, R1, fun H2 ps2 R2 L2 => k H2 ps2 R2 (L1.trans L2)⟩⟩
  | false =>
    refine PW.imp (pw_and h1 pwF) fun σ H Q ⟨ps, R, k⟩ => ⟨ps, R, fun H1 ps1 R1 L1 => iteF (k H1 ps1 (h3 rfl ▸ R1) L1)⟩
theorem ew_or (h1 : ET X G S a p S1) (h2 : p = false → EW X G S1 (.BoolOp .Or (b :: rest) pos) q S2) (h3 : p = true → S1 = S2 := by intro _; rfl) : EW X G S (.BoolOp .Or (a :: b :: rest) pos) (p || q) S2 := by
  cases p with
  | false =>
    refine PW.imp (pw_or h1 (h2 rfl)) fun σ H Q ⟨ps, R, k⟩ => ⟨ps, R, fun H1 ps1 R1 L1 => iteF ⟨ps1, R1, fun H2 ps2 R2 L2 => k H2 ps2 R2 (L1.trans L2)⟩⟩
  | true =>
    refine PW.imp (pw_or h1 pwF) fun σ H Q ⟨ps, R, k⟩ => ⟨ps, R, fun H1 ps1 R1 L1 => iteT (k H1 ps1 (h3 rfl ▸ R1) L1)⟩
theorem et_B (h : EV X G S a (En p) S1) (he : ∀ whole, isTrue a X.env whole = (do let v ← whole; standAt a.pos; holding [v] (truthy v)) := by intro _; rfl) : ET X G S a p S1 :=
  PT.imp (pt_val h he) fun σ H Q ⟨ps, R, q⟩ => ⟨ps, R, fun v H1 ps1 R1 L1 A1 => ⟨p, is_at A1, q H1 ps1 R1 L1⟩⟩
/-- as values -/
theorem ev_b1 {op : BoolOp} (h : EV X G S a (En p) S1) : EV X G S (.BoolOp op [a] pos) (En p) S1 := pe_one h
theorem ev_and (h1 : EV X G S a (En p) S1) (h2 : p = true → EV X G S1 (.BoolOp .And (b :: rest) pos) (En q) S2) (h3 : p = false → S1 = S2 := by intro _; rfl) : EV X G S (.BoolOp .And (a :: b :: rest) pos) (En (p && q)) S2 := by
  cases p with
  | true =>
    refine PE.imp (pe_and h1 (h2 rfl)) fun σ H Q ⟨ps, R, k⟩ => ⟨ps, R, fun v H1 ps1 R1 L1 A1 => ⟨true, is_at A1, iteT ⟨ps1, R1, fun u H2 ps2 R2 L2 A2 => k u H2 ps2 R2 (L1.trans L2) A2⟩⟩⟩
  | false =>
    refine PE.imp (pe_and h1 peF) fun σ H Q ⟨ps, R, k⟩ => ⟨ps, R, fun v H1 ps1 R1 L1 A1 => ⟨false, is_at A1, iteF (k _ H1 ps1 (h3 rfl ▸ R1) L1 (.at _))⟩⟩
theorem ev_or (h1 : EV X G S a (En p) S1) (h2 : p = false → EV X G S1 (.BoolOp .Or (b :: rest) pos) (En q) S2) (h3 : p = true → S1 = S2 := by intro _; rfl) : EV X G S (.BoolOp .Or (a :: b :: rest) pos) (En (p || q)) S2 := by
  cases p with
  | false =>
    refine PE.imp (pe_or h1 (h2 rfl)) fun σ H Q ⟨ps, R, k⟩ => ⟨ps, R, fun v H1 ps1 R1 L1 A1 => ⟨false, is_at A1, iteF ⟨ps1, R1, fun u H2 ps2 R2 L2 A2 => k u H2 ps2 R2 (L1.trans L2) A2⟩⟩⟩
  | true =>
    refine PE.imp (pe_or h1 peF) fun σ H Q ⟨ps, R, k⟩ => ⟨ps, R, fun v H1 ps1 R1 L1 A1 => ⟨true, is_at A1, iteT (k _ H1 ps1 (h3 rfl ▸ R1) L1 (.at _))⟩⟩
theorem ev_not (h : EV X G S a (En p) S1) : EV X G S (.UnaryOp .Not a pos) (En (!p)) S1 := PE.imp (pe_not h) fun σ H Q ⟨ps, R, k⟩ => ⟨ps, R, fun v H1 ps1 R1 L1 A1 => ⟨p, is_at A1, k _ H1 ps1 R1 L1 (.at _)⟩⟩
theorem ev_if {α : Type} [Enc α] {u v : α} {S2 : Bool → Ms} (hc : ET X G S c p S1) (h1 : p = true → EV X G S1 a (En u) (S2 true)) (h2 : p = false → EV X G S1 b (En v) (S2 false)) : EV X G S (.IfExp c a b pos) (En (cond p u v)) (S2 p) := by
  cases p with
  | true =>
    refine PE.imp (pe_ifExp hc (h1 rfl) peF) fun σ H Q ⟨ps, R, k⟩ => ⟨ps, R, fun H1 ps1 R1 L1 => iteT ⟨ps1, R1, fun u H2 ps2 R2 L2 A2 => k u H2 ps2 R2 (L1.trans L2) A2⟩⟩
  | false =>
    refine PE.imp (pe_ifExp hc peF (h2 rfl)) fun σ H Q ⟨ps, R, k⟩ => ⟨ps, R, fun H1 ps1 R1 L1 => iteF ⟨ps1, R1, fun u H2 ps2 R2 L2 A2 => k u H2 ps2 R2 (L1.trans L2) A2⟩⟩
/-! ### is None -/
theorem ev_isN {v : V} {j : Nat} {pos' : Pos} (h : EV X G S a (.dat (.at v)) S1) : EV X G S (.Compare a [.Is] [.Constant .none j pos'] pos) (En (decide (v = .non))) S1 :=
  PE.imp (pe_cmp (pc_isN h)) fun σ H Q ⟨ps, R, k⟩ => ⟨ps, R, fun w H1 ps1 R1 L1 A1 => by
    cases is_at A1
    exact k _ H1 ps1 R1 L1 (.at _)⟩

/-! ### argument lists, displays -/
variable {es : List Expr} {as : List A}
theorem ea_nil : EA X G S [] [] S := PA.imp pa_nil fun σ H Q ⟨ps, R, k⟩ => k [] H ps R Le.refl .nil
theorem ea_cons (h : EV X G S a x S1) (t : EA X G S1 es as S2) (hs : starEach (a :: es) X.env = (false, eval a X.env) :: starEach es X.env := by rfl) : EA X G S (a :: es) (x :: as) S2 :=
  PA.imp (pa_cons h t hs) fun σ H Q ⟨ps, R, k⟩ => ⟨ps, R, fun v H1 ps1 R1 L1 A1 => ⟨ps1, R1, fun vs H2 ps2 R2 L2 A2 => k (v :: vs) H2 ps2 R2 (L1.trans L2) (.cons (A1.mono L2) A2)⟩⟩
theorem all_of {K : PySem.W.Frag} {ps : Ps} {H : Hp} : ∀ {vs : List V} {ds : List Dt}, Paired (AIs K G ps H) vs (ds.map .dat) → IsAll K H (Out G ps) vs ds
  | [], [], _ => .nil
  | _ :: _, _ :: ds, .cons h t => .cons h (all_of t)
  | [], _ :: _, h => nomatch h
  | _ :: _, [], h => nomatch h
theorem of_all {K : PySem.W.Frag} {ps : Ps} {H : Hp} : ∀ {vs : List V} {ds : List Dt}, IsAll K H (Out G ps) vs ds → Paired (AIs K G ps H) vs (ds.map .dat)
  | _, _, .nil => .nil
  | _, _, .cons h t => .cons h (of_all t)
theorem sz_of {n : Nat} (h : n ≤ 100000) : n ≤ sizeLine := Nat.le_trans h (by decide)
theorem sz_lt {n : Nat} (h : n < 100000) : n < sizeLine := Nat.lt_of_lt_of_le h (by decide)
theorem new_dat {K : PySem.W.Frag} {ps : Ps} {H : Hp} {σ : L2.St} {p : Addr} {o : HO} (R : RelP K G ps S σ H) (hp : H p = none) : RelP K G ps S σ (upd H p o) ∧ Le G ps H ps (upd H p o) ∧ ¬ Out G ps p := ⟨(R.obj hp).1, (R.obj hp).2, R.out hp⟩
theorem ev_tup {ds : List Dt} {k : Nat} (h : EA X G S es (ds.map .dat) S1) (hl : ds.length ≤ 100000 := by exact Nat.le_of_ble_eq_true rfl) : EV X G S (.Tuple es k pos) (.dat (.tup ds)) S1 :=
  PE.imp (pe_tup h) fun σ H Q ⟨ps, R, q⟩ => ⟨ps, R, fun vs H1 ps1 R1 L1 A1 => ⟨by rw [Paired.len A1, List.length_map]; exact sz_of hl, fun p hp => by
    obtain ⟨R2, L2, n⟩ := new_dat (o := .tup vs) R1 hp
    exact q _ _ ps1 R2 (L1.trans L2) (.tup (.inl ⟨.inl upd_same, n⟩) (IsAll.mono L2.out _ (all_of A1)))⟩⟩
theorem ev_lst {ds : List Dt} (h : EA X G S es (ds.map .dat) S1) (hl : ds.length ≤ 100000 := by exact Nat.le_of_ble_eq_true rfl) : EV X G S (.List es pos) (.dat (.lst ds)) S1 :=
  PE.imp (pe_lst h) fun σ H Q ⟨ps, R, q⟩ => ⟨ps, R, fun vs H1 ps1 R1 L1 A1 => ⟨by rw [Paired.len A1, List.length_map]; exact sz_of hl, fun p hp => by
    obtain ⟨R2, L2, n⟩ := new_dat (o := .lst vs) R1 hp
    exact q _ _ ps1 R2 (L1.trans L2) (.lst upd_same n (IsAll.mono L2.out _ (all_of A1)))⟩⟩
theorem clen {K : PySem.W.Frag} {ps : Ps} {H : Hp} {σ : L2.St} (R : RelP K G ps S σ H) : ps.length = S.cs.length := R.clen
/-- a list of one's own -/
theorem ev_lstC (h : EA X G S es as S1) (hl : as.length ≤ 100000 := by exact Nat.le_of_ble_eq_true rfl) : EV X G S (.List es pos) (.cell S1.cs.length) ⟨S1.sl, S1.cs ++ [.lst as]⟩ :=
  PE.imp (pe_lst h) fun σ H Q ⟨ps, R, q⟩ => ⟨ps, R, fun vs H1 ps1 R1 L1 A1 => ⟨by rw [Paired.len A1]; exact sz_of hl, fun p hp => by
    obtain ⟨R2, L2⟩ := R1.cell (o := .lst vs) (c := .lst as) hp fun x => ⟨p, vs, rfl, upd_same, Paired.mp A1 fun _ _ z => z.mono x⟩
    exact q _ _ _ R2 (L1.trans L2) ⟨p, by rw [← R1.clen, List.getElem?_append_right (Nat.le_refl _)]; simp, rfl⟩⟩⟩
end
end Ab
set_option Elab.async false
set_option linter.all false
set_option maxRecDepth 100000
/-! Sequences, walks, comprehensions, targets. -/
namespace Ab
open PySem L2

/-! ### sequences -/
/-- the value is, in S, a list (a tuple) of these -/
def RdL (S : Ms) (a : A) (ds : List Dt) : Prop := a = .dat (.lst ds) ∨ a = .dat (.ro ds) ∨ ∃ k, a = .cell k ∧ S.cs[k]? = some (.lst (ds.map .dat))
def RdT (a : A) (ds : List Dt) : Prop := a = .dat (.tup ds)
section
variable {X : Cx} {K : PySem.W.Frag} {G : Gh} {S S1 S2 S3 : Ms} {a b c : Expr} {x y z : A} {pos : Pos} {ps ps' : Ps} {σ : L2.St} {H H' : Hp} {v : V} {ds : List Dt}
theorem rdl {α : Type} [Enc α] {xs : List α} : RdL S (En xs) (xs.map Enc.enc) := .inl rfl
theorem rdro {α : Type} [Enc α] {xs : Ro α} : RdL S (En xs) (List.map Enc.enc xs) := .inr (.inl rfl)
theorem rdc {α : Type} [Enc α] {xs : List α} {k : Nat} (h : S.cs[k]? = some (Cl xs) := by rfl) : RdL S (.cell k) (xs.map Enc.enc) := .inr (.inr ⟨k, rfl, by rw [List.map_map]; exact h⟩)
theorem rdt {α : Type} [Enc α] {xs : Tp α} : RdT (En xs) (List.map Enc.enc xs) := rfl
theorem RelP.rdl (R : RelP K G ps S σ H) (h : AIs K G ps H v x) (r : RdL S x ds) : ∃ p xs, v = .ref p ∧ SqL K H p xs ∧ IsAll K H (Out G ps) xs ds := by
  rcases r with rfl | rfl | ⟨k, rfl, e⟩
  · cases h with
    | lst h1 h2 h3 => exact ⟨_, _, rfl, .inl (.inl h1), h3⟩
  · cases h with
    | ro h1 h3 => exact ⟨_, _, rfl, h1.sq, h3⟩
  · obtain ⟨p, e1, rfl⟩ := h
    obtain ⟨q, vs, e2, h1, h2⟩ := R.cells k _ _ e1 e
    cases e2
    exact ⟨p, vs, rfl, .inl (.inl h1), all_of h2⟩
/-- .. tracked as it is -/
def RdM (S : Ms) (a : A) (ds : List Dt) : Prop := a = .dat (.lst ds) ∨ ∃ k, a = .cell k ∧ S.cs[k]? = some (.lst (ds.map .dat))
theorem rdm {α : Type} [Enc α] {xs : List α} : RdM S (En xs) (xs.map Enc.enc) := .inl rfl
theorem rdmc {α : Type} [Enc α] {xs : List α} {k : Nat} (h : S.cs[k]? = some (Cl xs) := by rfl) : RdM S (.cell k) (xs.map Enc.enc) := .inr ⟨k, rfl, by rw [List.map_map]; exact h⟩
theorem RelP.rdm (R : RelP K G ps S σ H) (h : AIs K G ps H v x) (r : RdM S x ds) : ∃ p xs, v = .ref p ∧ H p = some (.lst xs) ∧ IsAll K H (Out G ps) xs ds := by
  rcases r with rfl | ⟨k, rfl, e⟩
  · cases h with
    | lst h1 h2 h3 => exact ⟨_, _, rfl, h1, h3⟩
  · obtain ⟨p, e1, rfl⟩ := h
    obtain ⟨q, vs, e2, h1, h2⟩ := R.cells k _ _ e1 e
    cases e2
    exact ⟨p, vs, rfl, h1, all_of h2⟩
theorem rd_t (h : AIs K G ps H v x) (r : RdT x ds) : ∃ p xs, v = .ref p ∧ SqT K H p xs ∧ IsAll K H (Out G ps) xs ds := by
  have r : x = .dat (.tup ds) := r
  subst r
  cases h with
  | tup h1 h3 => exact ⟨_, _, rfl, h1.sq, h3⟩
def RdS (S : Ms) (a : A) (ds : List Dt) : Prop := RdL S a ds ∨ RdT a ds
theorem RelP.rds (R : RelP K G ps S σ H) (h : AIs K G ps H v x) (r : RdS S x ds) : ∃ p xs, v = .ref p ∧ (SqL K H p xs ∨ SqT K H p xs) ∧ IsAll K H (Out G ps) xs ds := by
  rcases r with r | r
  · obtain ⟨p, xs, e, h1, h2⟩ := R.rdl h r
    exact ⟨p, xs, e, .inl h1, h2⟩
  · obtain ⟨p, xs, e, h1, h2⟩ := rd_t h r
    exact ⟨p, xs, e, .inr h1, h2⟩

/-! ### targets -/
def wipeA (sl : List (Option A)) : List Nat → List (Option A)
  | [] => sl
  | v :: vs => (wipeA sl vs).set v none
theorem Pairs.wipe {F : Option V → Option A → Prop} (hF : ∀ v, F v none) : ∀ (vs : List Nat) {σ : L2.St} {sl : List (Option A)}, Paired F σ sl → Paired F (wipe σ vs) (wipeA sl vs)
  | [], _, _, h => h
  | v :: vs, _, _, h => Paired.set (hF _) v (Pairs.wipe hF vs h)
theorem RelP.wipe (R : RelP K G ps S σ H) (vs : List Nat) : RelP K G ps ⟨wipeA S.sl vs, S.cs⟩ (wipe σ vs) H :=
  ⟨R.nd, R.bs, R.new, R.keep, R.zd, R.clen, R.cells, Pairs.wipe (fun v => by unfold SlOk; cases v <;> trivial) vs R.slots⟩
theorem wipe_at (σ : L2.St) (i : Nat) : ∀ ws : List Nat, (wipe σ ws)[i]? = if i ∈ ws then (if i < σ.length then some none else none) else σ[i]?
  | [] => by simp [wipe]
  | w :: ws => by
    unfold wipe
    by_cases e : w = i
    · subst e
      rw [if_pos List.mem_cons_self]
      by_cases hl : w < σ.length
      · rw [if_pos hl, List.getElem?_set_self (by rw [wipe_length]; exact hl)]
      · rw [if_neg hl, List.getElem?_eq_none (by rw [List.length_set, wipe_length]; omega)]
    · rw [List.getElem?_set_ne e, wipe_at σ i ws]
      have : (i ∈ w :: ws) ↔ i ∈ ws := by simp [Ne.symm e]
      simp only [this]
theorem wipe_set {σ : L2.St} {j : Nat} {o : Option V} {ws : List Nat} (h : j ∈ ws) : wipe (σ.set j o) ws = wipe σ ws := by
  apply List.ext_getElem?
  intro i
  rw [wipe_at, wipe_at, List.length_set]
  by_cases hi : i ∈ ws
  · rw [if_pos hi, if_pos hi]
  · rw [if_neg hi, if_neg hi]
    have : j ≠ i := fun e => hi (e ▸ h)
    rw [List.getElem?_set_ne this]
/-- a store of a to the target, from S, leaves S'; only the slots vs are stored -/
def tEG (K : PySem.W.Frag) (G : Gh) (S : Ms) (a : A) (S' : Ms) (vs : List Nat) : TG := fun v σ H Q => ∃ ps, RelP K G ps S σ H ∧ AIs K G ps H v a ∧
  ∀ σ' H' ps', RelP K G ps' S' σ' H' → Le G ps H ps' H' → (∀ ws : List Nat, (∀ i ∈ vs, i ∈ ws) → wipe σ' ws = wipe σ ws) → Q σ' H'
def EG (X : Cx) (G : Gh) (S : Ms) (tg : Expr) (a : A) (S' : Ms) (vs : List Nat) : Prop := PG X tg (tEG X.K G S a S' vs)
theorem PG.imp {e : Expr} {t t' : TG} (h : PG X e t) (f : ∀ v σ H Q, t' v σ H Q → t v σ H Q) : PG X e t' := ⟨fun pins s σ H v u Q I r q => h.run pins s σ H v u Q I r (f v σ H Q q)⟩
theorem eg_name {i : Nat} {n : Str} (hN : X.N.Nodup) (hi : X.N[i]? = some n := by rfl) (hx : Loc X.env.scope n := by first | exact Or.inl rfl | exact Or.inr rfl)
    (hf : X.fn n = true ∨ X.env.scope.names.lookup n = some .local := by first | exact .inl rfl | exact .inr rfl) : EG X G S (.Name n pos) x ⟨S.sl.set i (some x), S.cs⟩ [i] :=
  PG.imp (pg_name hN hi hx hf) fun v σ H Q ⟨ps, R, ok, q⟩ => q _ H ps (R.store i ok) Le.refl fun ws h => wipe_set (h i (by simp))
def EGs (X : Cx) (G : Gh) (S : Ms) (tgs : List Expr) (as : List A) (S' : Ms) (ws : List Nat) : Prop := PGs X tgs (fun vs σ H Q => ∃ ps, RelP X.K G ps S σ H ∧ Paired (AIs X.K G ps H) vs as ∧
  ∀ σ' H' ps', RelP X.K G ps' S' σ' H' → Le G ps H ps' H' → (∀ us : List Nat, (∀ i ∈ ws, i ∈ us) → wipe σ' us = wipe σ us) → Q σ' H')
theorem PGs.imp {e : List Expr} {t t' : TGs} (h : PGs X e t) (f : ∀ v σ H Q, t' v σ H Q → t v σ H Q) : PGs X e t' := ⟨fun pins s σ H v u Q I r q => h.run pins s σ H v u Q I r (f v σ H Q q)⟩
theorem egs_nil : EGs X G S [] [] S [] := PGs.imp pgs_nil fun vs σ H Q ⟨ps, R, ok, q⟩ => by
  cases ok
  exact ⟨rfl, q σ H ps R Le.refl fun _ _ => rfl⟩
theorem egs_cons {es : List Expr} {as : List A} {vs ws : List Nat} (h : EG X G S a x S1 vs) (t : EGs X G S1 es as S2 ws) (hs : (assignEach (a :: es) X.env).map (·.2) = assign a X.env :: (assignEach es X.env).map (·.2) := by rfl) : EGs X G S (a :: es) (x :: as) S2 (vs ++ ws) :=
  PGs.imp (pgs_cons h t hs) fun us σ H Q ⟨ps, R, ok, q⟩ => by
    cases ok with
    | cons h1 h2 =>
      refine ⟨_, _, rfl, ps, R, h1, fun σ1 H1 ps1 R1 L1 w1 => ⟨ps1, R1, Paired.mp h2 fun _ _ z => z.mono L1, fun σ2 H2 ps2 R2 L2 w2 => q σ2 H2 ps2 R2 (L1.trans L2) fun us hu => ?_⟩⟩
      rw [w2 us fun i hi => hu i (List.mem_append_right _ hi), w1 us fun i hi => hu i (List.mem_append_left _ hi)]
theorem eg_tup {es : List Expr} {k : Nat} {ws : List Nat} (hc : X.calm = true) (h : EGs X G S es (ds.map .dat) S1 ws) (hl : es.length = ds.length := by rfl) (hn : (assignEach es X.env).length = es.length := by rfl) (hst : (assignEach es X.env).findIdx? (·.1) = none := by rfl) : EG X G S (.Tuple es k pos) (.dat (.tup ds)) S1 ws :=
  PG.imp (pg_tup hc h hn hst) fun v σ H Q ⟨ps, R, ok, q⟩ => by
    cases ok with
    | tup h1 h3 => exact ⟨_, _, rfl, h1.sq, by rw [h3.length, hl], ps, R, of_all h3, q⟩

/-! ### what is walked -/
def Wk (K : PySem.W.Frag) (G : Gh) (J : It) (ps0 : Ps) (H0 : Hp) (I : Ms → Prop) (ds : List Dt) : Prop := ∀ ps S σ H, RelP K G ps S σ H → Le G ps0 H0 ps H → I S →
  J.stop ds.length H ∧ ∀ i d, ds[i]? = some d → J.go i H ∧ ∀ x H', J.yld i H x H' → (∀ p o, H p = some o → H' p = some o) ∧ Is K H' (Out G ps) x d
def WkS (K : PySem.W.Frag) (G : Gh) (J : It) (ps0 : Ps) (H0 : Hp) (ds : List Dt) : Prop := ∀ ps S σ H, RelP K G ps S σ H → Keeps H0 (Out G ps0) H (Out G ps) →
  J.stop ds.length H ∧ ∀ i d, ds[i]? = some d → J.go i H ∧ ∀ x H', J.yld i H x H' → (∀ p o, H p = some o → H' p = some o) ∧ Is K H' (Out G ps) x d
def tEI (K : PySem.W.Frag) (G : Gh) (S : Ms) (ds : List Dt) (I : Ms → Prop) (S' : Ms) : TI := fun σ H R => ∃ ps, RelP K G ps S σ H ∧ ∀ J H' ps', RelP K G ps' S' σ H' → Le G ps H ps' H' → Wk K G J ps' H' I ds → R J H'
def tES (K : PySem.W.Frag) (G : Gh) (S : Ms) (ds : List Dt) (S' : Ms) : TI := fun σ H R => ∃ ps, RelP K G ps S σ H ∧ ∀ J H' ps', RelP K G ps' S' σ H' → Le G ps H ps' H' → WkS K G J ps' H' ds → R J H'
/-- the walk of a comprehension; of a loop -/
def EI (X : Cx) (G : Gh) (S : Ms) (tg iter : Expr) (ds : List Dt) (I : Ms → Prop) (S' : Ms) : Prop := PI X tg iter (tEI X.K G S ds I S')
def ES (X : Cx) (G : Gh) (S : Ms) (tg iter : Expr) (ds : List Dt) (S' : Ms) : Prop := PI X tg iter (tES X.K G S ds S')
theorem PI.imp {tg e : Expr} {t t' : TI} (h : PI X tg e t) (f : ∀ σ H Q, t' σ H Q → t σ H Q) : PI X tg e t' := ⟨fun pins s σ H R I q => h.run pins s σ H R I (f σ H R q)⟩
abbrev Yes : Ms → Prop := fun _ => True
theorem ei_of {tg iter : Expr} (h : ES X G S tg iter ds S1) : EI X G S tg iter ds Yes S1 := PI.imp h fun σ H R ⟨ps, r, q⟩ => ⟨ps, r, fun J H1 ps1 R1 L1 w => q J H1 ps1 R1 L1 fun ps' S' σ' H' R' L' _ => w ps' S' σ' H' R' L'.out⟩
theorem wk_list {p : Addr} {xs : List V} (h : ∀ ps' S' σ' H', RelP K G ps' S' σ' H' → Keeps H (Out G ps) H' (Out G ps') → SqL K H' p xs ∧ IsAll K H' (Out G ps') xs ds) : WkS K G (Itl K p) ps H ds := fun ps' S' σ' H' R L => by
  obtain ⟨h1, h2⟩ := h ps' S' σ' H' R L
  refine ⟨⟨xs, h1, Nat.le_of_eq h2.length⟩, fun i d hd => ?_⟩
  obtain ⟨v, e, hv⟩ := h2.get hd
  refine ⟨⟨xs, v, h1, e⟩, fun x H2 y => ?_⟩
  obtain ⟨rfl, y⟩ := y
  have e2 := y xs h1
  rw [e] at e2
  cases e2
  exact ⟨fun _ _ z => z, hv⟩
theorem wk_tup {p : Addr} {xs : List V} (h : ∀ ps' S' σ' H', RelP K G ps' S' σ' H' → Keeps H (Out G ps) H' (Out G ps') → SqT K H' p xs ∧ IsAll K H' (Out G ps') xs ds) : WkS K G (Itt K p) ps H ds := fun ps' S' σ' H' R L => by
  obtain ⟨h1, h2⟩ := h ps' S' σ' H' R L
  refine ⟨⟨xs, h1, Nat.le_of_eq h2.length⟩, fun i d hd => ?_⟩
  obtain ⟨v, e, hv⟩ := h2.get hd
  refine ⟨⟨xs, v, h1, e⟩, fun x H2 y => ?_⟩
  obtain ⟨rfl, y⟩ := y
  have e2 := y xs h1
  rw [e] at e2
  cases e2
  exact ⟨fun _ _ z => z, hv⟩
variable {tg iter elt : Expr}
theorem es_lst (h : EV X G S a (.dat (.lst ds)) S1) : ES X G S tg a ds S1 := PI.imp (pi_list h) fun σ H R ⟨ps, r, q⟩ => ⟨ps, r, fun v H1 ps1 R1 L1 A1 => by
  cases A1 with
  | lst h1 h2 h3 => exact ⟨_, rfl, ⟨_, .inl (.inl h1)⟩, q _ H1 ps1 R1 L1 (wk_list fun ps' S' σ' H' R' L' => ⟨.inl (.inl (L' _ _ h1 h2).1), IsAll.mono L' _ h3⟩)⟩⟩
theorem es_ro (h : EV X G S a (.dat (.ro ds)) S1) : ES X G S tg a ds S1 := PI.imp (pi_list h) fun σ H R ⟨ps, r, q⟩ => ⟨ps, r, fun v H1 ps1 R1 L1 A1 => by
  cases A1 with
  | ro h1 h3 => exact ⟨_, rfl, ⟨_, h1.sq⟩, q _ H1 ps1 R1 L1 (wk_list fun ps' S' σ' H' R' L' => ⟨(h1.mono L').sq, IsAll.mono L' _ h3⟩)⟩⟩
theorem es_tup (h : EV X G S a (.dat (.tup ds)) S1) : ES X G S tg a ds S1 := PI.imp (pi_tup h) fun σ H R ⟨ps, r, q⟩ => ⟨ps, r, fun v H1 ps1 R1 L1 A1 => by
  cases A1 with
  | tup h1 h3 => exact ⟨_, rfl, ⟨_, h1.sq⟩, q _ H1 ps1 R1 L1 (wk_tup fun ps' S' σ' H' R' L' => ⟨(h1.mono L').sq, IsAll.mono L' _ h3⟩)⟩⟩
/-- a list of one's own, that stays while it is walked -/
theorem ei_cell {k : Nat} (h : EV X G S a (.cell k) S1) (hk : S1.cs[k]? = some (.lst (ds.map .dat))) : EI X G S tg a ds (fun S' => S'.cs[k]? = some (.lst (ds.map .dat))) S1 := PI.imp (pi_list h) fun σ H R ⟨ps, r, q⟩ => ⟨ps, r, fun v H1 ps1 R1 L1 A1 => by
  obtain ⟨p, e1, rfl⟩ := A1
  obtain ⟨p2, vs, e2, h1, h2⟩ := R1.cells k _ _ e1 hk
  cases e2
  refine ⟨p, rfl, ⟨_, .inl (.inl h1)⟩, q _ H1 ps1 R1 L1 ?_⟩
  intro ps' S' σ' H' R' L' i0
  obtain ⟨r', e'⟩ := L'.pre
  have e3 : ps'[k]? = some (some p) := by
    rw [e', List.getElem?_append_left (List.getElem?_eq_some_iff.mp e1).1]
    exact e1
  obtain ⟨p3, vs', e4, h1', h2'⟩ := R'.cells k _ _ e3 i0
  cases e4
  have al := all_of h2'
  refine ⟨⟨vs', .inl (.inl h1'), Nat.le_of_eq al.length⟩, fun i d hd => ?_⟩
  obtain ⟨v, e, hv⟩ := al.get hd
  refine ⟨⟨vs', v, .inl (.inl h1'), e⟩, fun x H2 y => ?_⟩
  obtain ⟨rfl, y⟩ := y
  have e2 := y vs' (.inl (.inl h1'))
  rw [e] at e2
  cases e2
  exact ⟨fun _ _ z => z, hv⟩⟩
/-- the ints from lo on, so many -/
def rngL (lo : Int) (n : Nat) : List Int := (List.range n).map fun (i : Nat) => lo + (i : Int)
theorem rngL_get {lo : Int} {n i : Nat} (h : i < n) : (rngL lo n)[i]? = some (lo + (i : Int)) := by
  unfold rngL
  rw [List.getElem?_map, List.getElem?_range h]
  rfl
theorem rngL_len {lo : Int} {n : Nat} : (rngL lo n).length = n := by simp [rngL]
theorem wk_rng {lo : Int} {n : Nat} : WkS K G (Itr lo n) ps H ((rngL lo n).map Enc.enc) := fun ps' S' σ' H' R L => by
  refine ⟨by rw [List.length_map, rngL_len]; exact Nat.le_refl n, fun i d hd => ?_⟩
  have hi : i < n := by
    have := (List.getElem?_eq_some_iff.mp hd).1
    rw [List.length_map, rngL_len] at this
    exact this
  refine ⟨hi, fun x H2 y => ?_⟩
  obtain ⟨rfl, rfl⟩ := y
  rw [List.getElem?_map, rngL_get hi] at hd
  cases hd
  exact ⟨fun _ _ z => z, .at _⟩
def RgOk (i : Int) : Prop := -(2 ^ 62) ≤ i ∧ i < 2 ^ 62
theorem es_rng1 {n : Int} {p : Pos} (hm : X.mg "range" = none) (h : EV X G S a (En n) S1) (hn : RgOk n) (hg : Gl X "range" := by rfl) (hs : starEach [a] X.env = [(false, eval a X.env)] := by rfl) : ES X G S tg (.Call (.Name "range" p) [a] [] pos) ((rngL 0 n.toNat).map Enc.enc) S1 :=
  PI.imp (pi_range1 hg hm (ea_cons h ea_nil hs) hs) fun σ H R ⟨ps, r, q⟩ => ⟨ps, r, fun vs H1 ps1 R1 L1 A1 => by
    cases A1 with
    | cons h1 h2 =>
      cases h2
      cases is_at h1
      exact ⟨n, rfl, hn.1, hn.2, q _ H1 ps1 R1 L1 wk_rng⟩⟩
theorem es_rng2 {m n : Int} {p : Pos} (hm : X.mg "range" = none) (h : EV X G S a (En m) S1) (h' : EV X G S1 b (En n) S2) (hm1 : RgOk m) (hn : RgOk n) (hg : Gl X "range" := by rfl) (hs : starEach [a, b] X.env = [(false, eval a X.env), (false, eval b X.env)] := by rfl) (hs2 : starEach [b] X.env = [(false, eval b X.env)] := by rfl) : ES X G S tg (.Call (.Name "range" p) [a, b] [] pos) ((rngL m (n - m).toNat).map Enc.enc) S2 :=
  PI.imp (pi_range2 hg hm (ea_cons h (ea_cons h' ea_nil hs2) (by rw [hs2]; exact hs)) hs hs2) fun σ H R ⟨ps, r, q⟩ => ⟨ps, r, fun vs H1 ps1 R1 L1 A1 => by
    cases A1 with
    | cons h1 h2 =>
      cases h2 with
      | cons h2 h3 =>
        cases h3
        cases is_at h1
        cases is_at h2
        exact ⟨m, n, rfl, ⟨hm1.1, hm1.2, hn.1, hn.2⟩, q _ H1 ps1 R1 L1 wk_rng⟩⟩
end
end Ab
set_option Elab.async false
set_option linter.all false
set_option maxRecDepth 100000
/-! Comprehensions. -/
namespace Ab
open PySem L2
section
variable {X : Cx} {K : PySem.W.Frag} {G : Gh} {S S1 S2 S3 : Ms} {a b c : Expr} {x y z : A} {pos : Pos} {ps ps' ps0 : Ps} {σ : L2.St} {H H' H0 : Hp} {v : V} {ds : List Dt} {tg iter elt tg1 iter1 : Expr}

/-- all references lie below n -/
def Low (n : Nat) (S : Ms) : Prop := (∀ (i k : Nat), S.sl[i]? = some (some (A.cell k)) → k < n) ∧ ∀ (j : Nat) (as : List A) (k : Nat), S.cs[j]? = some (.lst as) → A.cell k ∈ as → k < n
theorem RelP.low (R : RelP K G ps S σ H) : Low ps.length S := by
  refine ⟨fun i k h => ?_, fun j as k h m => ?_⟩
  · obtain ⟨v, _, p, e, _⟩ := R.slot h
    exact (List.getElem?_eq_some_iff.mp e).1
  · have hj : j < ps.length := by rw [R.clen]; exact (List.getElem?_eq_some_iff.mp h).1
    obtain ⟨p, vs, e, h1, h2⟩ := R.cells j _ _ (List.getElem?_eq_getElem hj) h
    obtain ⟨i, hi⟩ := List.mem_iff_getElem?.mp m
    obtain ⟨v, _, q, e2, _⟩ := Paired.at h2 hi
    exact (List.getElem?_eq_some_iff.mp e2).1
theorem Low.app {n : Nat} {sl : List (Option A)} {cs : List C} {ds : List Dt} (h : Low n ⟨sl, cs⟩) : Low n ⟨sl, cs ++ [.lst (ds.map .dat)]⟩ := by
  refine ⟨h.1, fun j as k e m => ?_⟩
  rcases getElem?_snoc e with ⟨_, e⟩ | ⟨_, e⟩
  · exact h.2 j as k e m
  · cases e
    obtain ⟨d, _, e⟩ := List.mem_map.mp m
    cases e
theorem AIs.cut {D : Addr} {x : A} (h : AIs K G (ps ++ [some D]) H v x) (hx : ∀ k, x = .cell k → k < ps.length) : AIs K G ps H v x := by
  cases x with
  | dat d => exact Is.mono (fun a o e n => ⟨e, fun z => n (z.imp (fun z => List.mem_append_left _ z) id)⟩) d h
  | cell k =>
    obtain ⟨p, e, ev⟩ := h
    rw [List.getElem?_append_left (hx k rfl)] at e
    exact ⟨p, e, ev⟩
/-- the last cell is let go: it is data from now on -/
theorem RelP.pop {D : Addr} {sl : List (Option A)} {cs : List C} {ds : List Dt} (R : RelP K G (ps ++ [some D]) ⟨sl, cs ++ [.lst (ds.map .dat)]⟩ σ H) (hb : ∃ r, ps = G.B.map some ++ r) (lo : Low ps.length ⟨sl, cs⟩) :
    RelP K G ps ⟨sl, cs⟩ σ H ∧ AIs K G ps H (.ref D) (.dat (.lst ds)) := by
  have hl : ps.length = cs.length := by
    have := R.clen
    simp at this
    exact this
  have kp : Keeps H (Out G (ps ++ [some D])) H (Out G ps) := fun a o e n => ⟨e, fun z => n (z.imp (fun z => List.mem_append_left _ z) id)⟩
  have nD : ¬ Out G ps D := fun z => by
    rcases z with z | z
    · obtain ⟨k, hk⟩ := List.mem_iff_getElem?.mp z
      have hk1 := (List.getElem?_eq_some_iff.mp hk).1
      have e1 : (ps ++ [some D])[k]? = some (some D) := by rw [List.getElem?_append_left hk1]; exact hk
      have e2 : (ps ++ [some D])[ps.length]? = some (some D) := by rw [List.getElem?_append_right (Nat.le_refl _)]; simp
      have := R.nd _ _ _ e1 e2
      omega
    · obtain ⟨n, nb⟩ := R.zd D z
      rcases R.new D (by simp) with h | h
      · exact nb h
      · exact n h
  obtain ⟨p, vs, e, h1, h2⟩ := R.cells cs.length (some D) (.lst (ds.map .dat)) (by rw [← hl, List.getElem?_append_right (Nat.le_refl _)]; simp) (by show (cs ++ [_])[cs.length]? = _; rw [List.getElem?_append_right (Nat.le_refl _)]; simp)
  cases e
  refine ⟨⟨fun i j p hi hj => ?_, hb, fun p m => R.new p (List.mem_append_left _ m), R.keep, R.zd, hl, fun k q c' e1 e2 => ?_, ?_⟩, .lst h1 nD (IsAll.mono kp _ (all_of h2))⟩
  · have up : ∀ {k : Nat}, ps[k]? = some (some p) → (ps ++ [some D])[k]? = some (some p) := fun {k} h => by rw [List.getElem?_append_left (List.getElem?_eq_some_iff.mp h).1]; exact h
    exact R.nd i j p (up hi) (up hj)
  · have h := R.cells k q c' (by rw [List.getElem?_append_left (List.getElem?_eq_some_iff.mp e1).1]; exact e1) (by show (cs ++ [_])[k]? = _; rw [List.getElem?_append_left (List.getElem?_eq_some_iff.mp e2).1]; exact e2)
    cases c' with
    | gone => exact h
    | tab n =>
      obtain ⟨p, tb, e, h1, h2, h3⟩ := h
      refine ⟨p, tb, e, h1, h2, fun pos cv hc => ?_⟩
      obtain ⟨c, a, b, n⟩ := h3 pos cv hc
      exact ⟨c, a, (kp _ _ b n).1, (kp _ _ b n).2⟩
    | lst as =>
      obtain ⟨p, vs, e, h1, h2⟩ := h
      refine ⟨p, vs, e, h1, Paired.mpm2 h2 fun v x m z => z.cut fun k' e' => lo.2 k as k' e2 (e' ▸ m)⟩
    | dk kvs =>
      obtain ⟨p, vs, e, h1, h2⟩ := h
      exact ⟨p, vs, e, h1, IsKV.mono kp _ h2⟩
  · refine Paired.mpi R.slots fun i o s e1 e2 z => ?_
    cases s with
    | none => unfold SlOk; cases o <;> trivial
    | some x =>
      cases o with
      | none => exact z
      | some v => exact AIs.cut z fun k e => lo.1 i k (e ▸ e2)
where
  Paired.mpm2 {α β : Type} {F F' : α → β → Prop} : ∀ {xs : List α} {ys : List β}, Paired F xs ys → (∀ x y, y ∈ ys → F x y → F' x y) → Paired F' xs ys
  | _, _, .nil, _ => .nil
  | _, _, .cons r t, f => .cons (f _ _ List.mem_cons_self r) (Paired.mpm2 t fun x y m => f x y (List.mem_cons_of_mem _ m))
  Paired.mpi {α β : Type} {F F' : α → β → Prop} : ∀ {xs : List α} {ys : List β}, Paired F xs ys → (∀ (i : Nat) x y, xs[i]? = some x → ys[i]? = some y → F x y → F' x y) → Paired F' xs ys
  | _, _, .nil, _ => .nil
  | _, _, .cons r t, f => .cons (f 0 _ _ rfl rfl r) (Paired.mpi t fun i x y h1 h2 => f (i + 1) x y (by simpa using h1) (by simpa using h2))
theorem Le.eq (x : Le G ps H ps' H') (h : ps'.length = ps.length) : ps' = ps := by
  obtain ⟨⟨r, e⟩, _⟩ := x
  have : r = [] := by
    rw [e, List.length_append] at h
    exact List.eq_nil_of_length_eq_zero (by omega)
  rw [e, this, List.append_nil]
theorem Le.cutD {D : Addr} (x : Le G ps H (ps ++ [some D]) H') : Le G ps H ps H' := ⟨⟨[], by simp⟩, fun a o e n => ⟨(x.out a o e n).1, fun z => (x.out a o e n).2 (z.imp (fun z => List.mem_append_left _ z) id)⟩⟩
theorem RelP.reslot {S' : Ms} {σ' : L2.St} (R : RelP K G ps S' σ' H) (h : Paired (SlOk K G ps H) σ S.sl) : RelP K G ps ⟨S.sl, S'.cs⟩ σ H := ⟨R.nd, R.bs, R.new, R.keep, R.zd, R.clen, R.cells, h⟩

/-! ### the tests of a clause -/
def ETs (X : Cx) (G : Gh) (S : Ms) (ifs : List Expr) (b : Bool) (S' : Ms) : Prop := PTs X ifs (tET X.K G S b S')
theorem PTs.imp {e : List Expr} {t t' : TT} (h : PTs X e t) (f : ∀ σ H Q, t' σ H Q → t σ H Q) : PTs X e t' := ⟨fun pins s σ H Q I q => h.run pins s σ H Q I (f σ H Q q)⟩
theorem ets_nil : ETs X G S [] true S := PTs.imp pts_nil fun σ H Q ⟨ps, R, q⟩ => q H ps R Le.refl
theorem ets_one {p : Bool} (h : ET X G S a p S1) : ETs X G S [a] p S1 := pts_one h
theorem filter_snoc {α : Type} {p : α → Bool} {xs : List α} {i : Nat} {x : α} (h : xs[i]? = some x) : (xs.take (i + 1)).filter p = (xs.take i).filter p ++ (if p x = true then [x] else []) := by
  rw [List.take_add_one, h, List.filter_append]
  congr 1
  show List.filter p [x] = _
  rw [List.filter_cons]
  split <;> rfl

/-- where a comprehension of one clause stands: as a value, as a name's new value -/
structure LcM (X : Cx) (tg iter elt : Expr) (ifs : List Expr) (scope : Scope) (own : List (Str × Nat)) (M : TE → Prop) : Prop where
  imp : ∀ t t', M t → (∀ σ H Q, t' σ H Q → t σ H Q) → M t'
  made : ∀ (wi : TI) (g : TG) (tt : TT) (te : TE), PI X tg iter wi → (∀ (s : Shared) (H : Hp) (Ca : Addr) (cl : List (Str × Addr)) (fp : List Addr), PG (X.blk s H scope (compEnvC scope cl Ca X.env) fp) tg g) →
    (∀ (s : Shared) (H : Hp) (Ca : Addr) (cl : List (Str × Addr)) (fp : List Addr), PTs (X.blk s H scope (compEnvC scope cl Ca X.env) fp) ifs tt) →
    (∀ (s : Shared) (H : Hp) (Ca : Addr) (cl : List (Str × Addr)) (fp : List Addr), PE (X.blk s H scope (compEnvC scope cl Ca X.env) fp) elt te) → M (tLc wi g tt te (own.map (·.2)))
theorem lcm_pe {ifs : List Expr} {scope : Scope} {own : List (Str × Nat)} (hc : X.calm = true) (hN : X.N.Nodup) (ok : BlkOk X.N X.env.scope scope own) (hs : ∀ x, foldedSetIterable iter X.env x = pure x := by intro _; rfl) :
    LcM X tg iter elt ifs scope own (PE X (.ListComp elt [⟨tg, iter, ifs, 0⟩] scope pos)) := ⟨fun _ _ h f => PE.imp h f, fun _ _ _ _ hi hg ht he => pe_lc (own := own) hc hN hi ok hg ht he hs⟩
theorem lcm_set {ifs : List Expr} {scope : Scope} {own : List (Str × Nat)} {i : Nat} {y : Str} {py spos : Pos} (hc : X.calm = true) (hN : X.N.Nodup) (ok : BlkOk X.N X.env.scope scope own) (hy : X.N[i]? = some y) (hyl : X.env.scope.names.lookup y = some .local)
    (hsw : swapsWith (.ListComp elt [⟨tg, iter, ifs, 0⟩] scope pos) (some (.Name y py)) spos.line X.env = pure true) (hs : ∀ x, foldedSetIterable iter X.env x = pure x := by intro _; rfl) :
    LcM X tg iter elt ifs scope own (fun t => PS X (.Assign [.Name y py] (.ListComp elt [⟨tg, iter, ifs, 0⟩] scope pos) spos) (tAsg t (gName i))) :=
  ⟨fun _ _ h f => ⟨fun pins s σ H D I q => h.run pins s σ H D I (f _ _ _ q)⟩, fun _ _ _ _ hi hg ht he => ps_setLc (own := own) hc hN hy hyl hsw hi ok hg ht he hs⟩
/-- [elt for tg in iter if ..], the state left as it was -/
theorem lc_any {M : TE → Prop} {α β : Type} [Enc α] [Enc β] {xs : List α} {p : α → Bool} {f : α → β} {I : Ms → Prop} {sl' : α → List (Option A)} {ifs : List Expr} {scope : Scope} (own : List (Str × Nat)) (hM : LcM X tg iter elt ifs scope own M)
    (hi : EI X G S tg iter (xs.map Enc.enc) I S1) (hI : ∀ sl c, I ⟨sl, S1.cs ++ [c]⟩) (hz : xs.length ≤ 100000)
    (hg : ∀ (s : Shared) (H : Hp) (Ca : Addr) (cl : List (Str × Addr)) (fp : List Addr) (x : α) (c : C), EG (X.blk s H scope (compEnvC scope cl Ca X.env) fp) G ⟨wipeA S1.sl (own.map (·.2)), S1.cs ++ [c]⟩ tg (En x) ⟨sl' x, S1.cs ++ [c]⟩ (own.map (·.2)))
    (ht : ∀ (s : Shared) (H : Hp) (Ca : Addr) (cl : List (Str × Addr)) (fp : List Addr) (x : α) (c : C), x ∈ xs → ETs (X.blk s H scope (compEnvC scope cl Ca X.env) fp) G ⟨sl' x, S1.cs ++ [c]⟩ ifs (p x) ⟨sl' x, S1.cs ++ [c]⟩)
    (he : ∀ (s : Shared) (H : Hp) (Ca : Addr) (cl : List (Str × Addr)) (fp : List Addr) (x : α) (c : C), x ∈ xs → p x = true → EV (X.blk s H scope (compEnvC scope cl Ca X.env) fp) G ⟨sl' x, S1.cs ++ [c]⟩ elt (En (f x)) ⟨sl' x, S1.cs ++ [c]⟩): M (tEV X.K G S (En ((xs.filter p).map f)) S1) := by
  have hg' : ∀ (s : Shared) (H : Hp) (Ca : Addr) (cl : List (Str × Addr)) (fp : List Addr), PG (X.blk s H scope (compEnvC scope cl Ca X.env) fp) tg (fun v σ H Q => ∃ (x : α) (c : C), tEG X.K G ⟨wipeA S1.sl (own.map (·.2)), S1.cs ++ [c]⟩ (En x) ⟨sl' x, S1.cs ++ [c]⟩ (own.map (·.2)) v σ H Q) := fun s H Ca cl fp =>
    ⟨fun pins s2 σ H2 v u Q I r ⟨x, c, q⟩ => (hg s H Ca cl fp x c).run pins s2 σ H2 v u Q I r q⟩
  have ht' : ∀ (s : Shared) (H : Hp) (Ca : Addr) (cl : List (Str × Addr)) (fp : List Addr), PTs (X.blk s H scope (compEnvC scope cl Ca X.env) fp) ifs (fun σ H Q => ∃ (x : α) (c : C), x ∈ xs ∧ tET X.K G ⟨sl' x, S1.cs ++ [c]⟩ (p x) ⟨sl' x, S1.cs ++ [c]⟩ σ H Q) := fun s H Ca cl fp =>
    ⟨fun pins s2 σ H2 Q I ⟨x, c, m, q⟩ => (ht s H Ca cl fp x c m).run pins s2 σ H2 Q I q⟩
  have he' : ∀ (s : Shared) (H : Hp) (Ca : Addr) (cl : List (Str × Addr)) (fp : List Addr), PE (X.blk s H scope (compEnvC scope cl Ca X.env) fp) elt (fun σ H Q => ∃ (x : α) (c : C), x ∈ xs ∧ p x = true ∧ tEV X.K G ⟨sl' x, S1.cs ++ [c]⟩ (En (f x)) ⟨sl' x, S1.cs ++ [c]⟩ σ H Q) := fun s H Ca cl fp =>
    ⟨fun pins s2 σ H2 Q I ⟨x, c, m, hp, q⟩ => (he s H Ca cl fp x c m hp).run pins s2 σ H2 Q I q⟩
  refine hM.imp _ _ (hM.made _ _ _ _ hi hg' ht' he') fun σ H Q ⟨ps, R, q⟩ => ⟨ps, R, fun J H1 ps1 R1 L1 wk D hD => ?_⟩
  let res : Nat → List Dt := fun i => (((xs.take i).filter p).map f).map Enc.enc
  have R2 := R1.cell (o := .lst []) (c := .lst ((res 0).map .dat)) hD fun x => ⟨D, [], rfl, upd_same, .nil⟩
  obtain ⟨R2, L2⟩ := R2
  have lo : Low ps1.length S1 := R1.low
  refine ⟨fun i m H3 => m = xs.length - i ∧ i ≤ xs.length ∧ RelP X.K G (ps1 ++ [some D]) ⟨S1.sl, S1.cs ++ [.lst ((res i).map .dat)]⟩ σ H3 ∧ Le G (ps1 ++ [some D]) (upd H1 D (.lst [])) (ps1 ++ [some D]) H3, ⟨xs.length, by omega, Nat.zero_le _, R2, Le.refl⟩, ?_⟩
  rintro i m H3 ⟨rfl, hi', R3, L3⟩
  obtain ⟨w1, w2⟩ := wk _ _ _ _ R3 (L2.trans L3) (hI _ _)
  by_cases hlt : i < xs.length
  · right
    have hx : xs[i]? = some xs[i] := List.getElem?_eq_getElem hlt
    have hm : xs[i] ∈ xs := List.getElem_mem hlt
    obtain ⟨g1, g2⟩ := w2 i (Enc.enc xs[i]) (by rw [List.getElem?_map, hx]; rfl)
    refine ⟨g1, fun H4 => RelP X.K G (ps1 ++ [some D]) ⟨S1.sl, S1.cs ++ [.lst ((res (i + 1)).map .dat)]⟩ σ H4 ∧ Le G (ps1 ++ [some D]) (upd H1 D (.lst [])) (ps1 ++ [some D]) H4, fun H4 ⟨n1, n2⟩ => ⟨xs.length - (i + 1), by omega, rfl, hlt, n1, n2⟩, fun v H4 hy => ?_⟩
    obtain ⟨hk, hv⟩ := g2 v H4 hy
    obtain ⟨R4, L4⟩ := R3.same hk
    refine ⟨xs[i], .lst ((res i).map .dat), ps1 ++ [some D], R4.wipe _, hv, fun σ5 H5 ps5 R5 L5 hw => ⟨?_, ?_⟩⟩
    · have e := hw (own.map (·.2)) fun _ z => z
      rw [e]
      exact wipe_wipe
    · have e5 := L5.eq (by rw [R5.clen, ← R4.clen])
      subst e5
      refine ⟨xs[i], .lst ((res i).map .dat), hm, _, R5, fun H6 ps6 R6 L6 => ?_⟩
      have e6 := L6.eq (by rw [R6.clen, ← R5.clen])
      subst e6
      have L46 := L4.trans (L5.trans L6)
      cases hp : p xs[i] with
      | false =>
        refine iteF ⟨?_, L3.trans L46⟩
        have : res (i + 1) = res i := by
          show (((xs.take (i + 1)).filter p).map f).map Enc.enc = _
          rw [filter_snoc hx, hp, if_neg (by decide), List.append_nil]
        rw [this]
        exact R6.reslot (S := S1) (Paired.mp R3.slots fun _ _ z => z.mono L46)
      | true =>
        refine iteT ⟨xs[i], .lst ((res i).map .dat), hm, hp, _, R6, fun y H7 ps7 R7 L7 A7 => ?_⟩
        have e7 := L7.eq (by rw [R7.clen, ← R6.clen])
        subst e7
        have L47 := L46.trans L7
        have hc7 : (ps1 ++ [some D])[S1.cs.length]? = some (some D) := by
          rw [← R1.clen, List.getElem?_append_right (Nat.le_refl _)]
          simp
        obtain ⟨q7, vs, e8, h1, h2⟩ := R7.cells S1.cs.length (some D) (.lst ((res i).map .dat)) hc7 (by show (S1.cs ++ [_])[S1.cs.length]? = _; rw [List.getElem?_append_right (Nat.le_refl _)]; simp)
        cases e8
        have al := all_of h2
        have hlen : vs.length ≤ 100000 := by
          rw [al.length]
          show ((((xs.take i).filter p).map f).map Enc.enc).length ≤ _
          rw [List.length_map, List.length_map]
          have := List.length_filter_le p (xs.take i)
          rw [List.length_take] at this
          omega
        refine ⟨vs, h1, Nat.lt_of_le_of_lt hlen (by decide), ?_⟩
        have R7' := R7.reslot (S := S1) (σ := σ) (Paired.mp R3.slots fun _ _ z => z.mono L47)
        have er : res (i + 1) = res i ++ [Enc.enc (f xs[i])] := by
          show (((xs.take (i + 1)).filter p).map f).map Enc.enc = _
          rw [filter_snoc hx, hp, if_pos rfl, List.map_append, List.map_append]
          rfl
        obtain ⟨R8, L8⟩ := R7'.write (o := .lst (vs ++ [y])) (c := .lst ((res (i + 1)).map .dat)) hc7 fun x => ⟨D, vs ++ [y], rfl, upd_same, by
          rw [er, List.map_append]
          exact Paired.app (Paired.mp h2 fun _ _ z => z.mono x) (.cons (A7.mono x) .nil)⟩
        refine ⟨?_, L3.trans (L47.trans L8)⟩
        have es : (S1.cs ++ [C.lst ((res i).map .dat)]).set S1.cs.length (C.lst ((res (i + 1)).map .dat)) = S1.cs ++ [C.lst ((res (i + 1)).map .dat)] := by
          rw [List.set_append_right _ _ (Nat.le_refl _)]
          simp
        have R8' : RelP X.K G (ps1 ++ [some D]) ⟨S1.sl, (S1.cs ++ [C.lst ((res i).map .dat)]).set S1.cs.length (C.lst ((res (i + 1)).map .dat))⟩ σ (upd H7 D (.lst (vs ++ [y]))) := R8
        rw [es] at R8'
        exact R8'
  · left
    have e : i = xs.length := by omega
    subst e
    refine ⟨by rw [List.length_map] at w1; exact w1, ?_⟩
    obtain ⟨R5, A5⟩ := R3.pop (ds := res xs.length) R1.bs lo
    refine q _ H3 ps1 R5 (L1.trans (L2.trans L3).cutD) ?_
    have : res xs.length = ((xs.filter p).map f).map Enc.enc := by
      show (((xs.take xs.length).filter p).map f).map Enc.enc = _
      rw [List.take_length]
    rw [this] at A5
    exact A5
where
  wipe_wipe {σ : L2.St} {vs : List Nat} : wipe (wipe σ vs) vs = wipe σ vs := by
    apply List.ext_getElem?
    intro i
    rw [wipe_at, wipe_at, wipe_length]
    by_cases h : i ∈ vs
    · rw [if_pos h, if_pos h]
    · rw [if_neg h, if_neg h]
end
end Ab
set_option Elab.async false
set_option linter.all false
set_option maxRecDepth 100000
/-! Statements, loops, what a def promises, calls. -/
namespace Ab
open PySem PySem.Spec PyProof.Rows L2

structure En4 where
  nx : Ms → Prop
  rt : A → Ms → Prop
  bk : Ms → Prop := fun _ => False
  ct : Ms → Prop := fun _ => False
/-- what is wanted of states, brought down to slots and heaps -/
structure Down (K : PySem.W.Frag) (G : Gh) (ps0 : Ps) (H0 : Hp) (E : En4) (D : Ends) : Prop where
  nx : ∀ S ps σ H, E.nx S → RelP K G ps S σ H → Keeps H0 (Out G ps0) H (Out G ps) → D.nx σ H
  rt : ∀ a S ps σ H v, E.rt a S → RelP K G ps S σ H → Keeps H0 (Out G ps0) H (Out G ps) → AIs K G ps H v a → D.rt v H
  bk : ∀ S ps σ H, E.bk S → RelP K G ps S σ H → Keeps H0 (Out G ps0) H (Out G ps) → D.bk σ H
  ct : ∀ S ps σ H, E.ct S → RelP K G ps S σ H → Keeps H0 (Out G ps0) H (Out G ps) → D.ct σ H
def tWS (K : PySem.W.Frag) (G : Gh) (S : Ms) (E : En4) : TS := fun D σ H => ∃ ps, RelP K G ps S σ H ∧ Down K G ps H E D
def WS (X : Cx) (G : Gh) (S : Ms) (st : Stmt) (E : En4) : Prop := PS X st (tWS X.K G S E)
def WSs (X : Cx) (G : Gh) (S : Ms) (sts : List Stmt) (E : En4) : Prop := PSs X sts (tWS X.K G S E)
/-- a statement that goes on to S' alone -/
def tSN (K : PySem.W.Frag) (G : Gh) (S S' : Ms) : TS := fun D σ H => ∃ ps, RelP K G ps S σ H ∧ ∀ σ' H' ps', RelP K G ps' S' σ' H' → Keeps H (Out G ps) H' (Out G ps') → D.nx σ' H'
def SN (X : Cx) (G : Gh) (S : Ms) (st : Stmt) (S' : Ms) : Prop := PS X st (tSN X.K G S S')

section
variable {X : Cx} {K : PySem.W.Frag} {G : Gh} {S S1 S2 S3 : Ms} {a b c : Expr} {x y z : A} {pos : Pos} {ps ps' ps0 : Ps} {σ : L2.St} {H H' H0 : Hp} {v : V} {ds : List Dt} {tg iter elt : Expr} {st : Stmt} {rest body A' B' : List Stmt} {E : En4} {D : Ends}
theorem Down.le (d : Down K G ps0 H0 E D) (k : Keeps H0 (Out G ps0) H (Out G ps)) : Down K G ps H E D :=
  ⟨fun S ps σ H h R k' => d.nx S ps σ H h R (k.trans k'), fun a S ps σ H v h R k' => d.rt a S ps σ H v h R (k.trans k'), fun S ps σ H h R k' => d.bk S ps σ H h R (k.trans k'), fun S ps σ H h R k' => d.ct S ps σ H h R (k.trans k')⟩
theorem WSs.mono {E' : En4} (h : WSs X G S rest E) (f : ∀ S, E.nx S → E'.nx S) (fr : ∀ a S, E.rt a S → E'.rt a S) (fb : ∀ S, E.bk S → E'.bk S) (fc : ∀ S, E.ct S → E'.ct S) : WSs X G S rest E' :=
  PSs.imp h fun D σ H ⟨ps, R, d⟩ => ⟨ps, R, ⟨fun S ps σ H h => d.nx S ps σ H (f S h), fun a S ps σ H v h => d.rt a S ps σ H v (fr a S h), fun S ps σ H h => d.bk S ps σ H (fb S h), fun S ps σ H h => d.ct S ps σ H (fc S h)⟩⟩
theorem wss_nil (h : E.nx S) : WSs X G S [] E := PSs.imp pss_nil fun D σ H ⟨ps, R, d⟩ => d.nx S ps σ H h R (Keeps.refl _ _)
theorem wss_cons (h : WS X G S st { E with nx := fun S' => WSs X G S' rest E }) : WSs X G S (st :: rest) E := by
  have hr : PSs X rest (fun D σ H => ∃ S1, WSs X G S1 rest E ∧ tWS X.K G S1 E D σ H) := ⟨fun pins s σ H D I ⟨S1, h, q⟩ => h.run pins s σ H D I q⟩
  refine PSs.imp (pss_cons h hr) fun D σ H ⟨ps, R, d⟩ => ⟨ps, R, ⟨fun S1 ps1 σ1 H1 h1 R1 k1 => ⟨S1, h1, ps1, R1, d.le k1⟩, d.rt, d.bk, d.ct⟩⟩
theorem ws_sn (h : SN X G S st S1) (k : E.nx S1) : WS X G S st E := PS.imp h fun D σ H ⟨ps, R, d⟩ => ⟨ps, R, fun σ' H' ps' R' k' => d.nx S1 ps' σ' H' k R' k'⟩
theorem wss_sn (h : SN X G S st S1) (k : WSs X G S1 rest E) : WSs X G S (st :: rest) E := wss_cons (ws_sn h k)
theorem wss_ret (h : EV X G S a x S1) (k : E.rt x S1) : WSs X G S (.Return (some a) pos :: rest) E := wss_cons (PS.imp (ps_ret h) fun D σ H ⟨ps, R, d⟩ => ⟨ps, R, fun v H1 ps1 R1 L1 A1 => d.rt x S1 ps1 σ H1 v k R1 L1.out A1⟩)
theorem wss_retN (k : E.rt (En ()) S) : WSs X G S (.Return none pos :: rest) E := wss_cons (PS.imp ps_retN fun D σ H ⟨ps, R, d⟩ => d.rt _ S ps σ H _ k R (Keeps.refl _ _) (.at _))
theorem wss_brk (k : E.bk S) : WSs X G S (.Break pos :: rest) E := wss_cons (PS.imp ps_break fun D σ H ⟨ps, R, d⟩ => d.bk _ ps σ H k R (Keeps.refl _ _))
theorem wss_cont (k : E.ct S) : WSs X G S (.Continue pos :: rest) E := wss_cons (PS.imp ps_continue fun D σ H ⟨ps, R, d⟩ => d.ct _ ps σ H k R (Keeps.refl _ _))
theorem ws_if {p : Bool} (hc : ET X G S c p S1) (h1 : p = true → WSs X G S1 A' E) (h2 : p = false → WSs X G S1 B' E) : WS X G S (.If c A' B' pos) E := by
  have f1 : PSs X A' (fun D σ H => p = true ∧ tWS X.K G S1 E D σ H) := ⟨fun pins s σ H D I ⟨e, q⟩ => (h1 e).run pins s σ H D I q⟩
  have f2 : PSs X B' (fun D σ H => p = false ∧ tWS X.K G S1 E D σ H) := ⟨fun pins s σ H D I ⟨e, q⟩ => (h2 e).run pins s σ H D I q⟩
  refine PS.imp (ps_if hc f1 f2) fun D σ H ⟨ps, R, d⟩ => ⟨ps, R, fun H1 ps1 R1 L1 => ?_⟩
  cases p with
  | true => exact iteT ⟨rfl, ps1, R1, d.le L1.out⟩
  | false => exact iteF ⟨rfl, ps1, R1, d.le L1.out⟩
theorem wss_if {p : Bool} (hc : ET X G S c p S1) (h1 : p = true → WSs X G S1 A' { E with nx := fun S' => WSs X G S' rest E }) (h2 : p = false → WSs X G S1 B' { E with nx := fun S' => WSs X G S' rest E }) : WSs X G S (.If c A' B' pos :: rest) E := wss_cons (ws_if hc h1 h2)
/-- both ways go on to one state -/
theorem wss_if2 {p : Bool} (S2 : Bool → Ms) (hc : ET X G S c p S1) (h1 : p = true → WSs X G S1 A' { E with nx := fun S' => S' = S2 true }) (h2 : p = false → WSs X G S1 B' { E with nx := fun S' => S' = S2 false }) (k : WSs X G (S2 p) rest E) : WSs X G S (.If c A' B' pos :: rest) E :=
  wss_if hc (fun e => (h1 e).mono (fun S h => by subst h; subst e; exact k) (fun _ _ h => h) (fun _ h => h) (fun _ h => h)) (fun e => (h2 e).mono (fun S h => by subst h; subst e; exact k) (fun _ _ h => h) (fun _ h => h) (fun _ h => h))
theorem sn_asg {vs : List Nat} (h : EV X G S a x S1) (g : EG X G S1 tg x S2 vs) (hs : swapsWithSole [tg] a pos.line X.env = pure false := by rfl) (hw : swappedStores [tg] a X.env = pure none := by rfl) (h1 : (assignEach [tg] X.env).map (·.2) = [assign tg X.env] := by rfl) : SN X G S (.Assign [tg] a pos) S2 :=
  PS.imp (ps_asg h g hs hw h1) fun D σ H ⟨ps, R, d⟩ => ⟨ps, R, fun v H1 ps1 R1 L1 A1 => ⟨ps1, R1, A1, fun σ2 H2 ps2 R2 L2 _ => d σ2 H2 ps2 R2 (L1.trans L2).out⟩⟩
theorem sn_set {i : Nat} {n : Str} {pos' : Pos} (hN : X.N.Nodup) (h : EV X G S a x S1) (hi : X.N[i]? = some n := by rfl) (hx : Loc X.env.scope n := by first | exact Or.inl rfl | exact Or.inr rfl) (hs : swapsWith a (some (.Name n pos')) pos.line X.env = pure false := by rfl)
    (hf : X.fn n = true ∨ X.env.scope.names.lookup n = some .local := by first | exact .inl rfl | exact .inr rfl) : SN X G S (.Assign [.Name n pos'] a pos) ⟨S1.sl.set i (some x), S1.cs⟩ :=
  PS.imp (ps_set hN hi hx h hs hf) fun D σ H ⟨ps, R, d⟩ => ⟨ps, R, fun v H1 ps1 R1 L1 A1 => d _ H1 ps1 (R1.store i A1) L1.out⟩
theorem sn_expr (h : EV X G S a x S1) (hs : swapsWith a none pos.line X.env = pure false := by rfl) : SN X G S (.Expr a pos) S1 :=
  PS.imp (ps_expr h hs) fun D σ H ⟨ps, R, d⟩ => ⟨ps, R, fun v H1 ps1 R1 L1 A1 => d _ H1 ps1 R1 L1.out⟩
theorem sn_pass : SN X G S (.Pass pos) S := PS.imp ps_pass fun D σ H ⟨ps, R, d⟩ => d σ H ps R (Keeps.refl _ _)

/-! ### loops -/
theorem wss_for {α : Type} [Enc α] {xs : List α} (Pv : Nat → Ms → Prop) (hp : PassesOwn (model X.prog X.w) X.A X.env X.xe) (hc : X.calm = true) (hi : ES X G S tg iter (xs.map Enc.enc) S1) (h0 : Pv 0 S1)
    (hs : ∀ (i : Nat) (x : α) (S' : Ms), xs[i]? = some x → Pv i S' → ∃ S'' vs, EG X G S' tg (En x) S'' vs ∧ WSs X G S'' body { nx := Pv (i + 1), rt := E.rt, bk := fun S3 => WSs X G S3 rest E, ct := Pv (i + 1) })
    (hd : ∀ S', Pv xs.length S' → WSs X G S' rest E) (hf : ∀ x, foldedSetIterable iter X.env x = pure x := by intro _; rfl) : WSs X G S (.For tg iter body [] pos :: rest) E := by
  refine wss_cons ?_
  have hg : PG X tg (fun v σ H Q => ∃ (x : A) (S1 S2 : Ms) (vs : List Nat), EG X G S1 tg x S2 vs ∧ tEG X.K G S1 x S2 vs v σ H Q) := ⟨fun pins s σ H v u Q I r ⟨x, S1, S2, vs, h, q⟩ => h.run pins s σ H v u Q I r q⟩
  have hb : PSs X body (fun D σ H => ∃ (S1 : Ms) (E1 : En4), WSs X G S1 body E1 ∧ tWS X.K G S1 E1 D σ H) := ⟨fun pins s σ H D I ⟨S1, E1, h, q⟩ => h.run pins s σ H D I q⟩
  refine PS.imp (ps_for hp hc hi hg hb hf) fun D σ H ⟨ps, R, d⟩ => ⟨ps, R, fun J H1 ps1 R1 L1 wk => ?_⟩
  refine ⟨fun i m σ' H' => m = xs.length - i ∧ i ≤ xs.length ∧ ∃ S' ps', Pv i S' ∧ RelP X.K G ps' S' σ' H' ∧ Keeps H1 (Out G ps1) H' (Out G ps'), ⟨xs.length, by omega, Nat.zero_le _, S1, ps1, h0, R1, Keeps.refl _ _⟩, ?_⟩
  rintro i m σ' H' ⟨rfl, hi', S', ps', pv, R', k'⟩
  obtain ⟨w1, w2⟩ := wk ps' S' σ' H' R' k'
  by_cases hlt : i < xs.length
  · right
    have hx : xs[i]? = some xs[i] := List.getElem?_eq_getElem hlt
    obtain ⟨g1, g2⟩ := w2 i (Enc.enc xs[i]) (by rw [List.getElem?_map, hx]; rfl)
    obtain ⟨S'', vs, eg, hbody⟩ := hs i xs[i] S' hx pv
    refine ⟨g1, fun σ3 H3 => ∃ S3 ps3, Pv (i + 1) S3 ∧ RelP X.K G ps3 S3 σ3 H3 ∧ Keeps H1 (Out G ps1) H3 (Out G ps3), fun σ3 H3 n => ⟨xs.length - (i + 1), by omega, rfl, hlt, n⟩, fun v H2 hy => ?_⟩
    obtain ⟨hk, hv⟩ := g2 v H2 hy
    obtain ⟨R2, L2⟩ := R'.same hk
    refine ⟨_, _, _, _, eg, ps', R2, hv, fun σ3 H3 ps3 R3 L3 _ => ⟨S'', _, hbody, ps3, R3, ?_⟩⟩
    have k3 := k'.trans (L2.trans L3).out
    exact ⟨fun S4 ps4 σ4 H4 n R4 k4 => ⟨S4, ps4, n, R4, k3.trans k4⟩, fun a S4 ps4 σ4 H4 v n R4 k4 A4 => d.rt a S4 ps4 σ4 H4 v n R4 (L1.out.trans (k3.trans k4)) A4,
      fun S4 ps4 σ4 H4 n R4 k4 => d.nx S4 ps4 σ4 H4 n R4 (L1.out.trans (k3.trans k4)), fun S4 ps4 σ4 H4 n R4 k4 => ⟨S4, ps4, n, R4, k3.trans k4⟩⟩
  · left
    have e : i = xs.length := by omega
    subst e
    exact ⟨by rw [List.length_map] at w1; exact w1, d.nx S' ps' σ' H' (hd S' pv) R' (L1.out.trans k')⟩
theorem wss_while (Pv : Nat → Ms → Prop) (m0 : Nat) (hp : PassesOwn (model X.prog X.w) X.A X.env X.xe) (h0 : Pv m0 S)
    (hs : ∀ (m : Nat) (S' : Ms), Pv m S' → ∃ p S'', ET X G S' c p S'' ∧ (p = true → WSs X G S'' body { nx := fun S3 => ∃ m', m' < m ∧ Pv m' S3, rt := E.rt, bk := fun S3 => WSs X G S3 rest E, ct := fun S3 => ∃ m', m' < m ∧ Pv m' S3 }) ∧ (p = false → WSs X G S'' rest E)) : WSs X G S (.While c body [] pos :: rest) E := by
  refine wss_cons ?_
  have hc : PT X c (fun σ H Q => ∃ (S1 : Ms) (p : Bool) (S2 : Ms), ET X G S1 c p S2 ∧ tET X.K G S1 p S2 σ H Q) := ⟨fun pins s σ H Q I ⟨S1, p, S2, h, q⟩ => h.run pins s σ H Q I q⟩
  have hb : PSs X body (fun D σ H => ∃ (S1 : Ms) (E1 : En4), WSs X G S1 body E1 ∧ tWS X.K G S1 E1 D σ H) := ⟨fun pins s σ H D I ⟨S1, E1, h, q⟩ => h.run pins s σ H D I q⟩
  refine PS.imp (ps_while hp hc hb) fun D σ H ⟨ps, R, d⟩ => ?_
  refine ⟨fun m σ' H' => ∃ S' ps', Pv m S' ∧ RelP X.K G ps' S' σ' H' ∧ Keeps H (Out G ps) H' (Out G ps'), ⟨m0, S, ps, h0, R, Keeps.refl _ _⟩, ?_⟩
  rintro m σ' H' ⟨S', ps', pv, R', k'⟩
  obtain ⟨p, S'', hc', h1, h2⟩ := hs m S' pv
  refine ⟨S', p, S'', hc', ps', R', fun H2 ps2 R2 L2 => ?_⟩
  have k2 := k'.trans L2.out
  cases p with
  | true =>
    refine iteT ⟨fun σ3 H3 => ∃ m', m' < m ∧ ∃ S3 ps3, Pv m' S3 ∧ RelP X.K G ps3 S3 σ3 H3 ∧ Keeps H (Out G ps) H3 (Out G ps3), fun σ3 H3 n => n, S'', _, h1 rfl, ps2, R2, ?_⟩
    exact ⟨fun S4 ps4 σ4 H4 ⟨m', lt, n⟩ R4 k4 => ⟨m', lt, S4, ps4, n, R4, k2.trans k4⟩, fun a S4 ps4 σ4 H4 v n R4 k4 A4 => d.rt a S4 ps4 σ4 H4 v n R4 (k2.trans k4) A4,
      fun S4 ps4 σ4 H4 n R4 k4 => d.nx S4 ps4 σ4 H4 n R4 (k2.trans k4), fun S4 ps4 σ4 H4 ⟨m', lt, n⟩ R4 k4 => ⟨m', lt, S4, ps4, n, R4, k2.trans k4⟩⟩
  | false => exact iteF (d.nx S'' ps2 σ' H2 (h2 rfl) R2 k2)

/-! ### what a def promises -/
/-- arguments and the lists handed in; the answer, and the lists as they are left -/
abbrev Ct := List A → List C → A → List C → Prop
def SpA (K : PySem.W.Frag) (φ : Ct) : Sp := fun vs H Q _ => ∃ (G : Gh) (args : List A) (cs : List C) (r : A) (cs' : List C), G.H0 = H ∧ G.B.length = cs.length ∧ φ args cs r cs' ∧ RelP K G (G.B.map some) ⟨args.map some, cs⟩ (vs.map some) H ∧
  ∀ v H' ps', RelP K G ps' ⟨[some r], cs'⟩ [some v] H' → Q v H'
/-- an end: the answer a, given out as r, with the first lists as cs' -/
def RetOk (a : A) (S : Ms) (r : A) (cs' : List C) : Prop := S.cs.take cs'.length = cs' ∧ cs'.length ≤ S.cs.length ∧ (∀ (j : Nat) (as : List A) (k : Nat), cs'[j]? = some (C.lst as) → A.cell k ∈ as → k < cs'.length) ∧
  ((∃ d, a = .dat d ∧ r = .dat d) ∨ (∃ k, a = .cell k ∧ k < cs'.length ∧ r = .cell k) ∨ ∃ k ds, a = .cell k ∧ cs'.length ≤ k ∧ S.cs[k]? = some (.lst (ds.map .dat)) ∧ r = .dat (.lst ds))
theorem RelP.ret {r : A} {cs' : List C} (R : RelP K G ps S σ H) (A1 : AIs K G ps H v x) (ok : RetOk x S r cs') (hB : G.B.length ≤ cs'.length) : RelP K G (ps.take cs'.length) ⟨[some r], cs'⟩ [some v] H := by
  obtain ⟨e1, e2, e3, e4⟩ := ok
  have hl : cs'.length ≤ ps.length := by rw [R.clen]; exact e2
  have kp : Keeps H (Out G ps) H (Out G (ps.take cs'.length)) := fun a o e n => ⟨e, fun z => n (z.imp (fun z => List.mem_of_mem_take z) id)⟩
  have up : ∀ {k : Nat} {o : Option Addr}, (ps.take cs'.length)[k]? = some o → ps[k]? = some o ∧ k < cs'.length := fun {k o} h => by
    have hk := (List.getElem?_eq_some_iff.mp h).1
    rw [List.length_take] at hk
    rw [List.getElem?_take_of_lt (by omega)] at h
    exact ⟨h, by omega⟩
  have dn : ∀ {k : Nat} {o : Option Addr}, ps[k]? = some o → k < cs'.length → (ps.take cs'.length)[k]? = some o := fun {k o} h hk => by rw [List.getElem?_take_of_lt hk]; exact h
  have cut : ∀ {w : V} {y : A}, AIs K G ps H w y → (∀ k, y = .cell k → k < cs'.length) → AIs K G (ps.take cs'.length) H w y := fun {w y} h hk => by
    cases y with
    | dat d => exact Is.mono kp d h
    | cell k =>
      obtain ⟨p, e, ev⟩ := h
      exact ⟨p, dn e (hk k rfl), ev⟩
  refine ⟨fun i j p hi hj => R.nd i j p (up hi).1 (up hj).1, ?_, fun p m => R.new p (List.mem_of_mem_take m), R.keep, R.zd, by rw [List.length_take]; show min _ _ = cs'.length; omega, fun k q c h1 h2 => ?_, ?_⟩
  · obtain ⟨r, e⟩ := R.bs
    refine ⟨r.take (cs'.length - (G.B.map some).length), ?_⟩
    rw [e, List.take_append]
    congr 1
    exact List.take_of_length_le (by rw [List.length_map]; exact hB)
  · obtain ⟨h1, hk⟩ := up h1
    have h2' : S.cs[k]? = some c := by
      have h2 : cs'[k]? = some c := h2
      rw [← e1, List.getElem?_take_of_lt hk] at h2
      exact h2
    have h := R.cells k q c h1 h2'
    cases c with
    | gone => exact h
    | tab n =>
      obtain ⟨p, tb, e, h1, h2, h3⟩ := h
      refine ⟨p, tb, e, h1, h2, fun pos cv hc => ?_⟩
      obtain ⟨c, a, b, n⟩ := h3 pos cv hc
      exact ⟨c, a, (kp _ _ b n).1, (kp _ _ b n).2⟩
    | lst as =>
      obtain ⟨p, vs, e, g1, g2⟩ := h
      exact ⟨p, vs, e, g1, RelP.pop.Paired.mpm2 g2 fun w y m z => cut z fun k' e' => e3 k as k' h2 (e' ▸ m)⟩
    | dk kvs =>
      obtain ⟨p, vs, e, g1, g2⟩ := h
      exact ⟨p, vs, e, g1, IsKV.mono kp _ g2⟩
  · refine .cons ?_ .nil
    show AIs K G _ H v r
    rcases e4 with ⟨d, rfl, rfl⟩ | ⟨k, rfl, hk, rfl⟩ | ⟨k, ds, rfl, hk, hc, rfl⟩
    · exact cut A1 fun k e => nomatch e
    · exact cut A1 fun k' e => by cases e; exact hk
    · obtain ⟨p, e, rfl⟩ := A1
      obtain ⟨q, vs, e', g1, g2⟩ := R.cells k _ _ e hc
      cases e'
      refine .lst g1 (fun z => ?_) (IsAll.mono kp _ (all_of g2))
      rcases z with z | z
      · obtain ⟨j, hj⟩ := List.mem_iff_getElem?.mp z
        obtain ⟨hj1, hj2⟩ := up hj
        have := R.nd _ _ _ e hj1
        omega
      · obtain ⟨n, nb⟩ := R.zd p z
        rcases R.new p (List.mem_of_getElem? e) with h | h
        · exact nb h
        · exact n h
theorem ret_dat {d : Dt} : RetOk (.dat d) S (.dat d) [] := ⟨rfl, Nat.zero_le _, fun j as k h => by simp at h, .inl ⟨d, rfl, rfl⟩⟩
theorem ret_lst {k : Nat} {α : Type} [Enc α] {xs : List α} (h : S.cs[k]? = some (Cl xs)) : RetOk (.cell k) S (En xs) [] := ⟨rfl, Nat.zero_le _, fun j as k h => by simp at h, .inr (.inr ⟨k, xs.map Enc.enc, rfl, Nat.zero_le _, by rw [List.map_map]; exact h, rfl⟩)⟩
theorem low1 {α : Type} [Enc α] {w : List α} : ∀ (j : Nat) (as : List A) (k : Nat), [Cl w][j]? = some (C.lst as) → A.cell k ∈ as → k < [Cl w].length := fun j as k h m => by
  cases j with
  | zero =>
    cases h
    obtain ⟨d, _, e⟩ := List.mem_map.mp m
    cases e
  | succ j => simp at h
theorem ret_dat1 {d : Dt} {α : Type} [Enc α] {w : List α} (h : S.cs.take 1 = [Cl w]) : RetOk (.dat d) S (.dat d) [Cl w] := ⟨h, by have := congrArg List.length h; simp at this; show 1 ≤ _; omega, low1, .inl ⟨d, rfl, rfl⟩⟩
theorem ret_lst1 {k : Nat} {α β : Type} [Enc α] [Enc β] {w : List α} {xs : List β} (h : S.cs.take 1 = [Cl w]) (hk : 1 ≤ k) (h2 : S.cs[k]? = some (Cl xs)) : RetOk (.cell k) S (En xs) [Cl w] := ⟨h, by have := congrArg List.length h; simp at this; show 1 ≤ _; omega, low1, .inr (.inr ⟨k, xs.map Enc.enc, rfl, hk, by rw [List.map_map]; exact h2, rfl⟩)⟩
theorem ret_new {α : Type} [Enc α] {w : List α} (h : S.cs.take 1 = [Cl w]) : RetOk (.cell 0) S (.cell 0) [Cl w] := ⟨h, by have := congrArg List.length h; simp at this; show 1 ≤ _; omega, low1, .inr (.inl ⟨0, rfl, Nat.zero_lt_one, rfl⟩)⟩

/-- a def keeps its promise, by its body -/
theorem fn_ok {P : Program} {w : World} {mg : Str → Option Value} {base : Heap} {n qual : Str} {st : Stmt} {f : Addr} {fd : FuncData} {N ps : List Str} {k : Nat} {φ : Ct} (F : Fun K n qual st f fd) (sc : FnScope N ps (defScope st)) (hlen : ∀ args cs r cs', φ args cs r cs' → args.length = ps.length ∧ cs.length ≤ cs'.length)
    (hbody : ∀ (cdv : Value) (Ar : Around) (outer : List Env) (s : Shared) (H : Hp) (E : XK) (G : Gh) (args : List A) (cs : List C) (r : A) (cs' : List C), Room k (Ar.deeper (PyProof.Rows.envOfC qual (defScope st) s.heap.objs.size f cdv)) → φ args cs r cs' → G.B.length = cs.length →
      WSs (cxOf CX0 P w K mg base N qual (defScope st) f cdv Ar outer s H E).nox G ⟨args.map some ++ List.replicate (N.length - args.length) none, cs⟩ (defBody st) { nx := fun S => RetOk (En ()) S r cs', rt := fun a S => RetOk a S r cs' }) : FnOk P w K mg base CX0 (k + 1) f fd ps (SpA K φ) := by
  refine F.ok sc (fun vs H Q E ⟨G, args, cs, r, cs', h1, h2, h3, R, q⟩ => ?_) (fun cdv Ar outer s H vs Q E hr ⟨G, args, cs, r, cs', h1, h2, h3, R, q⟩ => ?_)
  · have := Paired.len R.slots
    simp at this
    rw [this]
    exact (hlen _ _ _ _ h3).1
  · refine ⟨_, hbody cdv Ar outer s H E G args cs r cs' hr h3 h2, G.B.map some, ?_, ?_⟩
    · have hl : vs.length = args.length := by
        have := Paired.len R.slots
        simp at this
        exact this
      refine ⟨R.nd, R.bs, R.new, R.keep, R.zd, R.clen, R.cells, ?_⟩
      show Paired _ (L2.start N vs) _
      unfold L2.start
      rw [hl]
      exact Paired.app R.slots (rep_ok _)
    · have hb : G.B.length ≤ cs'.length := by rw [h2]; exact (hlen _ _ _ _ h3).2
      refine ⟨fun S ps σ H' ok R' _ => q _ H' _ (R'.ret (x := En ()) (v := .non) (.at _) ok hb), fun a S ps σ H' v ok R' _ A' => q v H' _ (R'.ret A' ok hb), fun _ _ _ _ h => h.elim, fun _ _ _ _ h => h.elim⟩
where
  rep_ok {G : Gh} {ps : Ps} {H : Hp} : ∀ n : Nat, Paired (SlOk K G ps H) (List.replicate n none) (List.replicate n none)
  | 0 => .nil
  | n + 1 => .cons (by unfold SlOk; trivial) (rep_ok n)
end
end Ab
set_option Elab.async false
set_option linter.all false
set_option maxRecDepth 100000
/-! Calls of defs, built-ins, methods of lists. -/
namespace Ab
open PySem PySem.Spec PyProof.Rows L2
section
variable {X : Cx} {K : PySem.W.Frag} {G : Gh} {S S1 S2 S3 : Ms} {a b c e : Expr} {es : List Expr} {x y z : A} {pos p2 : Pos} {ps ps' ps0 : Ps} {σ : L2.St} {H H' H0 : Hp} {v : V} {ds : List Dt}

/-! ### calls -/
variable {CX : CXT} {k : Nat} {f : Addr} {fd : FuncData} {pn : List Str} {φ : Ct} {n : Str}
/-- a def called with data alone -/
theorem sp_pure {vs : List V} {r : Dt} {E : XK} {Q : VK} (R : RelP K G ps S σ H) (hA : IsAll K H (Out G ps) vs ds) (hφ : φ (ds.map .dat) [] (.dat r) []) (q : ∀ v H', RelP K G ps S σ H' → Le G ps H ps H' → Is K H' (Out G ps) v r → Q v H') : SpA K φ vs H Q E := by
  have eo : ∀ a : Addr, Out ⟨H, Out G ps, []⟩ [] a ↔ Out G ps a := fun a => ⟨fun z => z.elim (fun z => absurd z List.not_mem_nil) id, .inr⟩
  have up : ∀ {H1 : Hp} {v : V} {d : Dt}, Is K H1 (Out G ps) v d → Is K H1 (Out ⟨H, Out G ps, []⟩ []) v d := fun h => Is.mono (fun a o e n => ⟨e, fun z => n ((eo a).mp z)⟩) _ h
  have dn : ∀ {H1 : Hp} {v : V} {d : Dt}, Is K H1 (Out ⟨H, Out G ps, []⟩ []) v d → Is K H1 (Out G ps) v d := fun h => Is.mono (fun a o e n => ⟨e, fun z => n ((eo a).mpr z)⟩) _ h
  refine ⟨⟨H, Out G ps, []⟩, ds.map .dat, [], .dat r, [], rfl, rfl, hφ, ⟨fun i j p h => by simp at h, ⟨[], rfl⟩, fun p m => by simp at m, fun a o e _ => e, fun a z => ⟨fun e => R.out e z, List.not_mem_nil⟩, rfl, fun k q c h => by simp at h, ?_⟩, fun v H' ps' R' => ?_⟩
  · have go : ∀ {vs : List V} {ds : List Dt}, IsAll K H (Out G ps) vs ds → Paired (SlOk K ⟨H, Out G ps, []⟩ [] H) (vs.map some) ((ds.map A.dat).map some) := by
      intro vs ds h
      induction ds generalizing vs with
      | nil => cases h; exact .nil
      | cons d ds ih =>
        cases h with
        | cons h1 h2 => exact .cons (show AIs K _ _ _ _ (.dat d) from up h1) (ih h2)
    exact go hA
  · have e : ps' = [] := List.eq_nil_of_length_eq_zero (by rw [R'.clen]; rfl)
    subst e
    obtain ⟨R2, L2⟩ := R.same fun a o h => R'.keep a o h List.not_mem_nil
    have h := R'.slots
    cases h with
    | cons h1 h2 => exact q v H' R2 L2 (dn h1)
theorem ev_call (F : FnOk X.prog X.w X.K X.mg X.base CX k f fd pn (SpA X.K φ)) (hr : Room k X.A) (hm : X.mg n = some (.ref f)) (hk : PySem.W.keepIn X.K (.ref f) = true) (hb : Binds X.K fd pn []) (hx : Passes CX X E0) {r : Dt}
    (ha : EA X G S (e :: es) (ds.map .dat) S1) (hφ : φ (ds.map .dat) [] (.dat r) []) (hg : Gl X n := by rfl)
    (hdb : (n == ("__debug__" : Str)) = false := by decide) (he : starEach (e :: es) X.env = (false, eval e X.env) :: starEach es X.env := by rfl) (hpl : (backTo pos (starEach es X.env)).any (·.1) = false := by rfl) :
    EV X G S (.Call (.Name n p2) (e :: es) [] pos) (.dat r) S1 :=
  PE.imp (pe_call F hr hg hm hk hb .nil hx ha hdb he hpl) fun σ H Q ⟨ps, R, q⟩ => ⟨ps, R, fun vs H1 ps1 R1 L1 A1 => by
    show SpA X.K φ (vs ++ []) H1 Q E0
    rw [List.append_nil]
    exact sp_pure R1 (all_of A1) hφ fun v H2 R2 L2 A2 => q v H2 ps1 R2 (L1.trans L2) A2⟩
/-- a def that makes a list of the caller's own -/
theorem ev_callN (F : FnOk X.prog X.w X.K X.mg X.base CX k f fd pn (SpA X.K φ)) (hr : Room k X.A) (hm : X.mg n = some (.ref f)) (hk : PySem.W.keepIn X.K (.ref f) = true) (hb : Binds X.K fd pn []) (hx : Passes CX X E0) {as : List Dt}
    (ha : EA X G S (e :: es) (ds.map .dat) S1) (hφ : φ (ds.map .dat) [] (.cell 0) [.lst (as.map .dat)]) (hg : Gl X n := by rfl)
    (hdb : (n == ("__debug__" : Str)) = false := by decide) (he : starEach (e :: es) X.env = (false, eval e X.env) :: starEach es X.env := by rfl) (hpl : (backTo pos (starEach es X.env)).any (·.1) = false := by rfl) :
    EV X G S (.Call (.Name n p2) (e :: es) [] pos) (.cell S1.cs.length) ⟨S1.sl, S1.cs ++ [.lst (as.map .dat)]⟩ :=
  PE.imp (pe_call F hr hg hm hk hb .nil hx ha hdb he hpl) fun σ H Q ⟨ps, R, q⟩ => ⟨ps, R, fun vs H1 ps R L1 A1 => by
    show SpA X.K φ (vs ++ []) H1 Q E0
    rw [List.append_nil]
    have eo : ∀ a : Addr, Out ⟨H1, Out G ps, []⟩ [] a ↔ Out G ps a := fun a => ⟨fun z => z.elim (fun z => absurd z List.not_mem_nil) id, .inr⟩
    have up : ∀ {H2 : Hp} {v : V} {d : Dt}, Is X.K H2 (Out G ps) v d → Is X.K H2 (Out ⟨H1, Out G ps, []⟩ []) v d := fun h => Is.mono (fun a o e n => ⟨e, fun z => n ((eo a).mp z)⟩) _ h
    have hA := all_of A1
    refine ⟨⟨H1, Out G ps, []⟩, ds.map .dat, [], .cell 0, [.lst (as.map .dat)], rfl, rfl, hφ, ⟨fun i j p h => by simp at h, ⟨[], rfl⟩, fun p m => by simp at m, fun a o e _ => e, fun a z => ⟨fun e => R.out e z, List.not_mem_nil⟩, rfl, fun k q c h => by simp at h, ?_⟩, fun v H' ps' R' => ?_⟩
    · have go : ∀ {vs : List V} {ds : List Dt}, IsAll X.K H1 (Out G ps) vs ds → Paired (SlOk X.K ⟨H1, Out G ps, []⟩ [] H1) (vs.map some) ((ds.map A.dat).map some) := by
        intro vs ds h
        induction ds generalizing vs with
        | nil => cases h; exact .nil
        | cons d ds ih =>
          cases h with
          | cons h1 h2 => exact .cons (show AIs X.K _ _ _ _ (.dat d) from up h1) (ih h2)
      exact go hA
    · have hl : ps'.length = 1 := R'.clen
      match ps', hl, R' with
      | [o], _, R' =>
        obtain ⟨p, vs', e1, g1, g2⟩ := R'.cells 0 o _ rfl rfl
        subst e1
        have hn : H1 p = none := by
          rcases R'.new p (by simp) with h | h
          · exact absurd h List.not_mem_nil
          · exact h
        have hs := R'.slots
        cases hs with
        | cons h1 h2 =>
          obtain ⟨p', e2, ev⟩ := (show AIs X.K ⟨H1, Out G ps, []⟩ [some p] H' v (.cell 0) from h1)
          cases e2
          subst ev
          have kp : Keeps H' (Out ⟨H1, Out G ps, []⟩ [some p]) H' (Out G (ps ++ [some p])) := fun a o e n => ⟨e, fun z => n (by
            rcases z with z | z
            · rcases List.mem_append.mp z with z | z
              · exact .inr (.inl z)
              · exact .inl z
            · exact .inr (.inr z))⟩
          obtain ⟨R2, L2⟩ := R.cell' (H' := H') (c := .lst (as.map .dat)) hn (fun a o h => R'.keep a o h List.not_mem_nil) fun x => ⟨p, vs', rfl, g1, of_all (IsAll.mono kp _ (all_of g2))⟩
          exact q _ H' _ R2 (L1.trans L2) ⟨p, by rw [← R.clen, List.getElem?_append_right (Nat.le_refl _)]; simp, rfl⟩⟩
/-- an argument as the callee sees it, the caller's list j being its list 0 -/
def up1 (j : Nat) : A → A
  | .cell 0 => .cell j
  | .cell (k + 1) => .cell (k + 1)
  | .dat d => .dat d
/-- a def that changes the caller's list j -/
theorem ev_call1 {j : Nat} {args : List A} {as as' : List Dt} (F : FnOk X.prog X.w X.K X.mg X.base CX k f fd pn (SpA X.K φ)) (hr : Room k X.A) (hm : X.mg n = some (.ref f)) (hk : PySem.W.keepIn X.K (.ref f) = true) (hb : Binds X.K fd pn []) (hx : Passes CX X E0) {r : Dt}
    (ha : EA X G S (e :: es) (args.map (up1 j)) S1) (hl : ∀ k, A.cell (k + 1) ∉ args := by simp) (hj : S1.cs[j]? = some (.lst (as.map .dat))) (hφ : φ args [.lst (as.map .dat)] (.dat r) [.lst (as'.map .dat)]) (hg : Gl X n := by rfl)
    (hdb : (n == ("__debug__" : Str)) = false := by decide) (he : starEach (e :: es) X.env = (false, eval e X.env) :: starEach es X.env := by rfl) (hpl : (backTo pos (starEach es X.env)).any (·.1) = false := by rfl) :
    EV X G S (.Call (.Name n p2) (e :: es) [] pos) (.dat r) ⟨S1.sl, S1.cs.set j (.lst (as'.map .dat))⟩ :=
  PE.imp (pe_call F hr hg hm hk hb .nil hx ha hdb he hpl) fun σ H Q ⟨ps, R, q⟩ => ⟨ps, R, fun vs H1 ps R L1 A1 => by
    show SpA X.K φ (vs ++ []) H1 Q E0
    rw [List.append_nil]
    have hjl : j < ps.length := by rw [R.clen]; exact (List.getElem?_eq_some_iff.mp hj).1
    obtain ⟨p, vs0, e0, g0, g0'⟩ := R.cells j _ _ (List.getElem?_eq_getElem hjl) hj
    have hp : ps[j]? = some (some p) := by rw [List.getElem?_eq_getElem hjl, e0]
    let G' : Gh := ⟨H1, fun a => Out G ps a ∧ a ≠ p, [p]⟩
    have eo : ∀ a : Addr, Out G' [some p] a ↔ Out G ps a := fun a => ⟨fun z => z.elim (fun z => by simp at z; rw [z]; exact .inl (List.mem_of_getElem? hp)) (·.1), fun z => by
      by_cases h : a = p
      · exact .inl (by rw [h]; simp)
      · exact .inr ⟨z, h⟩⟩
    have up : ∀ {H2 : Hp} {v : V} {d : Dt}, Is X.K H2 (Out G ps) v d → Is X.K H2 (Out G' [some p]) v d := fun h => Is.mono (fun a o e n => ⟨e, fun z => n ((eo a).mp z)⟩) _ h
    have dn : ∀ {H2 : Hp} {v : V} {d : Dt}, Is X.K H2 (Out G' [some p]) v d → Is X.K H2 (Out G ps) v d := fun h => Is.mono (fun a o e n => ⟨e, fun z => n ((eo a).mpr z)⟩) _ h
    refine ⟨G', args, [.lst (as.map .dat)], .dat r, [.lst (as'.map .dat)], rfl, rfl, hφ, ⟨fun i j q h h' => ?_, ⟨[], rfl⟩, fun q m => .inl (by simpa [G'] using m), fun a o e _ => e, fun a z => ⟨fun e => R.out e z.1, by simpa [G'] using z.2⟩, rfl, fun k q c h h' => ?_, ?_⟩, fun v H' ps' R' => ?_⟩
    · have l : ∀ {i : Nat}, [some p][i]? = some (some q) → i = 0 := fun {i} h => by
        have := (List.getElem?_eq_some_iff.mp h).1
        simp at this
        exact this
      rw [l h, l h']
    · have k0 : k = 0 := by
        have := (List.getElem?_eq_some_iff.mp h).1
        simp [G'] at this
        exact this
      subst k0
      have h : some (some p) = some q := h
      have h' : some (C.lst (as.map .dat)) = some c := h'
      cases h
      cases h'
      exact ⟨p, vs0, rfl, g0, of_all (IsAll.mono (fun a o e n => ⟨e, fun z => n ((eo a).mp z)⟩) _ (all_of g0'))⟩
    · have go : ∀ {vs : List V} {as : List A}, (∀ k, A.cell (k + 1) ∉ as) → Paired (AIs X.K G ps H1) vs (as.map (up1 j)) → Paired (SlOk X.K G' [some p] H1) (vs.map some) (as.map some) := by
        intro vs as
        induction as generalizing vs with
        | nil => intro _ h; cases h; exact .nil
        | cons x as ih =>
          intro hl h
          cases h with
          | cons h1 h2 =>
            refine .cons ?_ (ih (fun k m => hl k (List.mem_cons_of_mem _ m)) h2)
            cases x with
            | dat d => exact up h1
            | cell k =>
              cases k with
              | zero =>
                obtain ⟨p', e', ev⟩ := (show AIs X.K G ps H1 _ (.cell j) from h1)
                rw [hp] at e'
                cases e'
                exact ⟨p, rfl, ev⟩
              | succ k => exact absurd List.mem_cons_self (hl k)
      exact go hl A1
    · have hl : ps'.length = 1 := R'.clen
      obtain ⟨r0, er⟩ := R'.bs
      have e1 : ps' = [some p] := by
        rw [er] at hl ⊢
        have : r0 = [] := List.eq_nil_of_length_eq_zero (by simp [G'] at hl; exact by simpa using hl)
        rw [this]
        rfl
      subst e1
      obtain ⟨p', vs', e2, g1, g2⟩ := R'.cells 0 (some p) _ rfl rfl
      cases e2
      obtain ⟨R2, L2⟩ := R.write' (H' := H') (c := .lst (as'.map .dat)) hp (fun a o ne h => R'.keep a o h (by simpa [G'] using ne)) fun x => ⟨p, vs', rfl, g1, of_all (IsAll.mono (fun a o e n => ⟨e, fun z => n ((eo a).mpr z)⟩) _ (all_of g2))⟩
      have hs := R'.slots
      cases hs with
      | cons h1 h2 => exact q v H' _ R2 (L1.trans L2) (dn h1)⟩
end
end Ab
set_option Elab.async false
set_option linter.all false
set_option maxRecDepth 100000
/-! Built-ins, subscripts, methods of lists. -/
namespace Ab
open PySem PySem.Spec PyProof.Rows L2
section
variable {X : Cx} {K : PySem.W.Frag} {G : Gh} {S S1 S2 S3 : Ms} {a b c e : Expr} {es : List Expr} {x y z : A} {as : List A} {pos p2 : Pos} {ps ps' ps0 : Ps} {σ : L2.St} {H H' H0 : Hp} {v : V} {ds : List Dt} {n : Str}

/-- a call by values, from S, gives z and leaves S' -/
def RA (K : PySem.W.Frag) (r : List V → Hp → VK → Prop) (G : Gh) (S : Ms) (as : List A) (z : A) (S' : Ms) : Prop := ∀ vs ps σ H Q, RelP K G ps S σ H → Paired (AIs K G ps H) vs as →
  (∀ v H' ps', RelP K G ps' S' σ H' → Le G ps H ps' H' → AIs K G ps' H' v z → Q v H') → r vs H Q
theorem ev_cb {r : List V → Hp → VK → Prop} {id : String} (hc : CallR X (.builtin id) r) (hm : X.mg n = none) (hv : bootBuiltins n = some (.builtin id)) (ha : EA X G S (e :: es) as S1) (hr : RA X.K r G S1 as z S2) (hg : Gl X n := by rfl) (hn : n ≠ "__name__" := by decide) (hdb : (n == ("__debug__" : Str)) = false := by decide)
    (he : starEach (e :: es) X.env = (false, eval e X.env) :: starEach es X.env := by rfl) (hpl : (backTo pos (starEach es X.env)).any (·.1) = false := by rfl) : EV X G S (.Call (.Name n p2) (e :: es) [] pos) z S2 :=
  PE.imp (pe_callB hc hg hm hv ha hn hdb he hpl) fun σ H Q ⟨ps, R, q⟩ => ⟨ps, R, fun vs H1 ps1 R1 L1 A1 => hr vs ps1 σ H1 Q R1 A1 fun v H2 ps2 R2 L2 A2 => q v H2 ps2 R2 (L1.trans L2) A2⟩
theorem ev_ct {r : List V → Hp → VK → Prop} {T : String} (hc : CallR X (.type T) r) (hm : X.mg n = none) (hv : bootBuiltins n = some (.type T)) (ha : EA X G S (e :: es) as S1) (hr : RA X.K r G S1 as z S2) (hg : Gl X n := by rfl) (hn : n ≠ "__name__" := by decide) (hdb : (n == ("__debug__" : Str)) = false := by decide)
    (he : starEach (e :: es) X.env = (false, eval e X.env) :: starEach es X.env := by rfl) (hpl : (backTo pos (starEach es X.env)).any (·.1) = false := by rfl) : EV X G S (.Call (.Name n p2) (e :: es) [] pos) z S2 :=
  PE.imp (pe_callTy hc hg hm hv ha hn hdb he hpl) fun σ H Q ⟨ps, R, q⟩ => ⟨ps, R, fun vs H1 ps1 R1 L1 A1 => hr vs ps1 σ H1 Q R1 A1 fun v H2 ps2 R2 L2 A2 => q v H2 ps2 R2 (L1.trans L2) A2⟩
theorem p1 {F : V → A → Prop} {vs : List V} (h : Paired F vs [x]) : ∃ v, vs = [v] ∧ F v x := by
  cases h with
  | cons h t =>
    cases t
    exact ⟨_, rfl, h⟩
theorem p2' {F : V → A → Prop} {vs : List V} (h : Paired F vs [x, y]) : ∃ v w, vs = [v, w] ∧ F v x ∧ F w y := by
  cases h with
  | cons h t =>
    obtain ⟨w, rfl, h2⟩ := p1 t
    exact ⟨_, _, rfl, h, h2⟩
/-! ### len, abs, int -/
section
variable {α : Type} [Enc α] {xs : List α} {i j : Int} {p : Bool}
theorem ev_len (hm : X.mg "len" = none) (h : EV X G S a x S1) (r : RdS S1 x (xs.map Enc.enc)) (hg : Gl X "len" := by rfl) (he : starEach [a] X.env = (false, eval a X.env) :: starEach [] X.env := by rfl) (hpl : (backTo pos (starEach [] X.env)).any (·.1) = false := by rfl) :
    EV X G S (.Call (.Name "len" p2) [a] [] pos) (En (xs.length : Int)) S1 :=
  ev_cb call_len_seq hm (by decide +kernel) (ea_cons h ea_nil he) (fun vs ps σ H Q R A1 q => by
    obtain ⟨v, rfl, h1⟩ := p1 A1
    obtain ⟨q0, ys, rfl, h2, h3⟩ := R.rds h1 r
    have e := h3.length
    rw [List.length_map] at e
    refine ⟨q0, ys, rfl, h2, ?_⟩
    rw [e]
    exact q _ H ps R Le.refl (.at _)) hg (by decide) (by decide) he hpl
theorem ev_abs (hm : X.mg "abs" = none) (h : EV X G S a (En i) S1) (hg : Gl X "abs" := by rfl) (he : starEach [a] X.env = (false, eval a X.env) :: starEach [] X.env := by rfl) (hpl : (backTo pos (starEach [] X.env)).any (·.1) = false := by rfl) :
    EV X G S (.Call (.Name "abs" p2) [a] [] pos) (En (if i < 0 then -i else i)) S1 :=
  ev_cb call_abs hm (by decide +kernel) (ea_cons h ea_nil he) (fun vs ps σ H Q R A1 q => by
    obtain ⟨v, rfl, h1⟩ := p1 A1
    cases is_at h1
    exact ⟨i, rfl, q _ H ps R Le.refl (.at _)⟩) hg (by decide) (by decide) he hpl
theorem ev_intI (hm : X.mg "int" = none) (h : EV X G S a (En i) S1) (hg : Gl X "int" := by rfl) (he : starEach [a] X.env = (false, eval a X.env) :: starEach [] X.env := by rfl) (hpl : (backTo pos (starEach [] X.env)).any (·.1) = false := by rfl) :
    EV X G S (.Call (.Name "int" p2) [a] [] pos) (En i) S1 :=
  ev_ct call_int1 hm (by decide +kernel) (ea_cons h ea_nil he) (fun vs ps σ H Q R A1 q => by
    obtain ⟨v, rfl, h1⟩ := p1 A1
    cases is_at h1
    exact .inl ⟨i, rfl, q _ H ps R Le.refl (.at _)⟩) hg (by decide) (by decide) he hpl
def b2i (p : Bool) : Int := cond p 1 0
theorem ev_intB (hm : X.mg "int" = none) (h : EV X G S a (En p) S1) (hg : Gl X "int" := by rfl) (he : starEach [a] X.env = (false, eval a X.env) :: starEach [] X.env := by rfl) (hpl : (backTo pos (starEach [] X.env)).any (·.1) = false := by rfl) :
    EV X G S (.Call (.Name "int" p2) [a] [] pos) (En (b2i p)) S1 :=
  ev_ct call_int1 hm (by decide +kernel) (ea_cons h ea_nil he) (fun vs ps σ H Q R A1 q => by
    obtain ⟨v, rfl, h1⟩ := p1 A1
    cases is_at h1
    refine .inr ⟨p, rfl, ?_⟩
    have e : (if p = true then (1 : Int) else 0) = b2i p := by cases p <;> rfl
    rw [e]
    exact q _ H ps R Le.refl (.at _)) hg (by decide) (by decide) he hpl
/-! ### list, tuple -/
theorem ev_list (hm : X.mg "list" = none) (h : EV X G S a x S1) (r : RdS S1 x ds) (hg : Gl X "list" := by rfl) (he : starEach [a] X.env = (false, eval a X.env) :: starEach [] X.env := by rfl) (hpl : (backTo pos (starEach [] X.env)).any (·.1) = false := by rfl) :
    EV X G S (.Call (.Name "list" p2) [a] [] pos) (.dat (.lst ds)) S1 :=
  ev_ct call_list_of hm (by decide +kernel) (ea_cons h ea_nil he) (fun vs ps σ H Q R A1 q => by
    obtain ⟨v, rfl, h1⟩ := p1 A1
    obtain ⟨q0, ys, rfl, h2, h3⟩ := R.rds h1 r
    refine ⟨q0, ys, rfl, h2, fun l hl => ?_⟩
    obtain ⟨R2, L2, n⟩ := new_dat (o := .lst ys) R hl
    exact q _ _ ps R2 L2 (.lst upd_same n (IsAll.mono L2.out _ h3))) hg (by decide) (by decide) he hpl
/-- .. a list of one's own -/
theorem ev_listC (hm : X.mg "list" = none) (h : EV X G S a x S1) (r : RdS S1 x ds) (hg : Gl X "list" := by rfl) (he : starEach [a] X.env = (false, eval a X.env) :: starEach [] X.env := by rfl) (hpl : (backTo pos (starEach [] X.env)).any (·.1) = false := by rfl) :
    EV X G S (.Call (.Name "list" p2) [a] [] pos) (.cell S1.cs.length) ⟨S1.sl, S1.cs ++ [.lst (ds.map .dat)]⟩ :=
  ev_ct call_list_of hm (by decide +kernel) (ea_cons h ea_nil he) (fun vs ps σ H Q R A1 q => by
    obtain ⟨v, rfl, h1⟩ := p1 A1
    obtain ⟨q0, ys, rfl, h2, h3⟩ := R.rds h1 r
    refine ⟨q0, ys, rfl, h2, fun l hl => ?_⟩
    obtain ⟨R2, L2⟩ := R.cell (o := .lst ys) (c := .lst (ds.map .dat)) hl fun x => ⟨l, ys, rfl, upd_same, of_all (IsAll.mono x.out _ h3)⟩
    exact q _ _ _ R2 L2 ⟨l, by rw [← R.clen, List.getElem?_append_right (Nat.le_refl _)]; simp, rfl⟩) hg (by decide) (by decide) he hpl
theorem ev_tupL (hm : X.mg "tuple" = none) (h : EV X G S a x S1) (r : RdL S1 x ds) (hg : Gl X "tuple" := by rfl) (he : starEach [a] X.env = (false, eval a X.env) :: starEach [] X.env := by rfl) (hpl : (backTo pos (starEach [] X.env)).any (·.1) = false := by rfl) :
    EV X G S (.Call (.Name "tuple" p2) [a] [] pos) (.dat (.tup ds)) S1 :=
  ev_ct call_tuple_of hm (by decide +kernel) (ea_cons h ea_nil he) (fun vs ps σ H Q R A1 q => by
    obtain ⟨v, rfl, h1⟩ := p1 A1
    obtain ⟨q0, ys, rfl, h2, h3⟩ := R.rdl h1 r
    refine ⟨q0, ys, rfl, .inl ⟨h2, fun l hl => ?_⟩⟩
    obtain ⟨R2, L2, n⟩ := new_dat (o := .tup ys) R hl
    exact q _ _ ps R2 L2 (.tup (.inl ⟨.inl upd_same, n⟩) (IsAll.mono L2.out _ h3))) hg (by decide) (by decide) he hpl
theorem ev_tupT (hm : X.mg "tuple" = none) (h : EV X G S a (.dat (.tup ds)) S1) (hg : Gl X "tuple" := by rfl) (he : starEach [a] X.env = (false, eval a X.env) :: starEach [] X.env := by rfl) (hpl : (backTo pos (starEach [] X.env)).any (·.1) = false := by rfl) :
    EV X G S (.Call (.Name "tuple" p2) [a] [] pos) (.dat (.tup ds)) S1 :=
  ev_ct call_tuple_of hm (by decide +kernel) (ea_cons h ea_nil he) (fun vs ps σ H Q R A1 q => by
    obtain ⟨v, rfl, h1⟩ := p1 A1
    obtain ⟨q0, ys, rfl, h2, h3⟩ := rd_t h1 (rfl : RdT _ ds)
    exact ⟨q0, ys, rfl, .inr ⟨h2, q _ H ps R Le.refl h1⟩⟩) hg (by decide) (by decide) he hpl
theorem rg_all {lo hi : Int} {O : Ex} : IsAll K H O (rgV lo hi) ((rngL lo (hi - lo).toNat).map Enc.enc) := by
  unfold rgV rngL
  rw [List.map_map]
  generalize List.range (hi - lo).toNat = l
  induction l with
  | nil => exact .nil
  | cons x l ih => exact .cons (.at _) ih
/-- list(range(n)) -/
theorem ev_listR1 {n : Int} {p3 : Pos} {pos' : Pos} (hc : X.calm = true) (hm : X.mg "list" = none) (hm2 : X.mg "range" = none) (h : EV X G S a (En n) S1) (hn : 0 ≤ n ∧ n ≤ 100000) (hg : Gl X "list" := by rfl) (hg2 : Gl X "range" := by rfl) (na : starEach [a] X.env = (false, eval a X.env) :: starEach [] X.env := by rfl)
    (nb : starEach [.Call (.Name "range" p3) [a] [] pos'] X.env = (false, eval (.Call (.Name "range" p3) [a] [] pos') X.env) :: starEach [] X.env := by rfl) :
    EV X G S (.Call (.Name "list" p2) [.Call (.Name "range" p3) [a] [] pos'] [] pos) (En (rngL 0 n.toNat)) S1 :=
  PE.imp (pe_listRg hc hg hm (prg_1 hg2 hm2 h na) nb) fun σ H Q ⟨ps, R, q⟩ => ⟨ps, R, fun v H1 ps1 R1 L1 A1 => ⟨n, is_at A1, L2.RgOk.of_le (by omega) (by omega) (by omega) (by omega), fun p hp => by
    obtain ⟨R2, L2, nn⟩ := new_dat (o := .lst (rgV 0 n)) R1 hp
    refine q _ _ ps1 R2 (L1.trans L2) (.lst upd_same nn ?_)
    have := rg_all (K := X.K) (H := upd H1 p (.lst (rgV 0 n))) (lo := 0) (hi := n) (O := Out G ps1)
    rw [Int.sub_zero] at this
    exact this⟩⟩
/-! ### sums and the like -/
theorem ints_of {O : Ex} : ∀ {xs : List V} {ns : List Int}, IsAll K H O xs (ns.map Enc.enc) → xs = ns.map V.int
  | [], [], _ => rfl
  | _ :: _, _ :: ns, .cons h t => by
    cases h
    rw [ints_of t]
    rfl
  | [], _ :: _, h => nomatch h
  | _ :: _, [], h => nomatch h
theorem bls_of {O : Ex} : ∀ {xs : List V} {ns : List Bool}, IsAll K H O xs (ns.map Enc.enc) → xs = ns.map V.bl
  | [], [], _ => rfl
  | _ :: _, _ :: ns, .cons h t => by
    cases h
    rw [bls_of t]
    rfl
  | [], _ :: _, h => nomatch h
  | _ :: _, [], h => nomatch h
theorem all_ints {O : Ex} : ∀ {ns : List Int}, IsAll K H O (ns.map V.int) (ns.map Enc.enc)
  | [] => .nil
  | _ :: _ => .cons (.at _) all_ints
variable {is : List Int} {bs : List Bool}
theorem ev_sum (hc : X.calm = true) (hm : X.mg "sum" = none) (h : EV X G S a x S1) (r : RdL S1 x (is.map Enc.enc)) (hg : Gl X "sum" := by rfl) (he : starEach [a] X.env = (false, eval a X.env) :: starEach [] X.env := by rfl) (hpl : (backTo pos (starEach [] X.env)).any (·.1) = false := by rfl) :
    EV X G S (.Call (.Name "sum" p2) [a] [] pos) (En is.sum) S1 :=
  ev_cb (cr_sum hc) hm (by decide +kernel) (ea_cons h ea_nil he) (fun vs ps σ H Q R A1 q => by
    obtain ⟨v, rfl, h1⟩ := p1 A1
    obtain ⟨q0, ys, rfl, h2, h3⟩ := R.rdl h1 r
    rw [ints_of h3] at h2
    exact ⟨q0, is, rfl, h2, q _ H ps R Le.refl (.at _)⟩) hg (by decide) (by decide) he hpl
theorem ev_any (hc : X.calm = true) (hm : X.mg "any" = none) (h : EV X G S a x S1) (r : RdL S1 x (bs.map Enc.enc)) (hg : Gl X "any" := by rfl) (he : starEach [a] X.env = (false, eval a X.env) :: starEach [] X.env := by rfl) (hpl : (backTo pos (starEach [] X.env)).any (·.1) = false := by rfl) :
    EV X G S (.Call (.Name "any" p2) [a] [] pos) (En (bs.any id)) S1 :=
  ev_cb (cr_any hc) hm (by decide +kernel) (ea_cons h ea_nil he) (fun vs ps σ H Q R A1 q => by
    obtain ⟨v, rfl, h1⟩ := p1 A1
    obtain ⟨q0, ys, rfl, h2, h3⟩ := R.rdl h1 r
    rw [bls_of h3] at h2
    exact ⟨q0, bs, rfl, h2, q _ H ps R Le.refl (.at _)⟩) hg (by decide) (by decide) he hpl
theorem ev_all (hc : X.calm = true) (hm : X.mg "all" = none) (h : EV X G S a x S1) (r : RdL S1 x (bs.map Enc.enc)) (hg : Gl X "all" := by rfl) (he : starEach [a] X.env = (false, eval a X.env) :: starEach [] X.env := by rfl) (hpl : (backTo pos (starEach [] X.env)).any (·.1) = false := by rfl) :
    EV X G S (.Call (.Name "all" p2) [a] [] pos) (En (bs.all id)) S1 :=
  ev_cb (cr_all hc) hm (by decide +kernel) (ea_cons h ea_nil he) (fun vs ps σ H Q R A1 q => by
    obtain ⟨v, rfl, h1⟩ := p1 A1
    obtain ⟨q0, ys, rfl, h2, h3⟩ := R.rdl h1 r
    rw [bls_of h3] at h2
    exact ⟨q0, bs, rfl, h2, q _ H ps R Le.refl (.at _)⟩) hg (by decide) (by decide) he hpl
/-- the greatest, the least of some ints -/
def maxL : List Int → Int
  | [] => 0
  | x :: xs => xs.foldl max x
def minL : List Int → Int
  | [] => 0
  | x :: xs => xs.foldl min x
theorem foldl_max : ∀ (xs : List Int) (x : Int), (xs.foldl max x ∈ x :: xs) ∧ ∀ y ∈ x :: xs, y ≤ xs.foldl max x
  | [], x => ⟨by simp, by simp⟩
  | y :: ys, x => by
    obtain ⟨h1, h2⟩ := foldl_max ys (max x y)
    refine ⟨?_, fun z hz => ?_⟩
    · show List.foldl max (max x y) ys ∈ _
      rcases List.mem_cons.mp h1 with h | h
      · rw [h]
        by_cases q : x ≤ y
        · rw [Int.max_eq_right q]; simp
        · rw [Int.max_eq_left (by omega)]; simp
      · exact List.mem_cons_of_mem _ (List.mem_cons_of_mem _ h)
    · show z ≤ List.foldl max (max x y) ys
      have h0 := h2 (max x y) List.mem_cons_self
      rcases List.mem_cons.mp hz with h | h
      · omega
      · rcases List.mem_cons.mp h with h | h
        · omega
        · exact h2 z (List.mem_cons_of_mem _ h)
theorem foldl_min : ∀ (xs : List Int) (x : Int), (xs.foldl min x ∈ x :: xs) ∧ ∀ y ∈ x :: xs, xs.foldl min x ≤ y
  | [], x => ⟨by simp, by simp⟩
  | y :: ys, x => by
    obtain ⟨h1, h2⟩ := foldl_min ys (min x y)
    refine ⟨?_, fun z hz => ?_⟩
    · show List.foldl min (min x y) ys ∈ _
      rcases List.mem_cons.mp h1 with h | h
      · rw [h]
        by_cases q : x ≤ y
        · rw [Int.min_eq_left q]; simp
        · rw [Int.min_eq_right (by omega)]; simp
      · exact List.mem_cons_of_mem _ (List.mem_cons_of_mem _ h)
    · show List.foldl min (min x y) ys ≤ z
      have h0 := h2 (min x y) List.mem_cons_self
      rcases List.mem_cons.mp hz with h | h
      · omega
      · rcases List.mem_cons.mp h with h | h
        · omega
        · exact h2 z (List.mem_cons_of_mem _ h)
theorem maxL_spec {xs : List Int} (h : xs ≠ []) : maxL xs ∈ xs ∧ ∀ y ∈ xs, y ≤ maxL xs := by
  cases xs with
  | nil => exact absurd rfl h
  | cons x xs => exact foldl_max xs x
theorem minL_spec {xs : List Int} (h : xs ≠ []) : minL xs ∈ xs ∧ ∀ y ∈ xs, minL xs ≤ y := by
  cases xs with
  | nil => exact absurd rfl h
  | cons x xs => exact foldl_min xs x
theorem ev_max (hc : X.calm = true) (hm : X.mg "max" = none) (h : EV X G S a x S1) (r : RdL S1 x (is.map Enc.enc)) (h0 : is ≠ []) (hg : Gl X "max" := by rfl) (he : starEach [a] X.env = (false, eval a X.env) :: starEach [] X.env := by rfl) (hpl : (backTo pos (starEach [] X.env)).any (·.1) = false := by rfl) :
    EV X G S (.Call (.Name "max" p2) [a] [] pos) (En (maxL is)) S1 :=
  ev_cb (cr_max hc) hm (by decide +kernel) (ea_cons h ea_nil he) (fun vs ps σ H Q R A1 q => by
    obtain ⟨v, rfl, h1⟩ := p1 A1
    obtain ⟨q0, ys, rfl, h2, h3⟩ := R.rdl h1 r
    rw [ints_of h3] at h2
    refine ⟨q0, is, rfl, h2, List.length_pos_iff.mpr h0, fun m k1 k2 => ?_⟩
    obtain ⟨g1, g2⟩ := maxL_spec h0
    have e : m = maxL is := Int.le_antisymm (g2 m k1) (k2 _ g1)
    rw [e]
    exact q _ H ps R Le.refl (.at _)) hg (by decide) (by decide) he hpl
theorem ev_min (hc : X.calm = true) (hm : X.mg "min" = none) (h : EV X G S a x S1) (r : RdL S1 x (is.map Enc.enc)) (h0 : is ≠ []) (hg : Gl X "min" := by rfl) (he : starEach [a] X.env = (false, eval a X.env) :: starEach [] X.env := by rfl) (hpl : (backTo pos (starEach [] X.env)).any (·.1) = false := by rfl) :
    EV X G S (.Call (.Name "min" p2) [a] [] pos) (En (minL is)) S1 :=
  ev_cb (cr_min hc) hm (by decide +kernel) (ea_cons h ea_nil he) (fun vs ps σ H Q R A1 q => by
    obtain ⟨v, rfl, h1⟩ := p1 A1
    obtain ⟨q0, ys, rfl, h2, h3⟩ := R.rdl h1 r
    rw [ints_of h3] at h2
    refine ⟨q0, is, rfl, h2, List.length_pos_iff.mpr h0, fun m k1 k2 => ?_⟩
    obtain ⟨g1, g2⟩ := minL_spec h0
    have e : m = minL is := Int.le_antisymm (k2 _ g1) (g2 m k1)
    rw [e]
    exact q _ H ps R Le.refl (.at _)) hg (by decide) (by decide) he hpl
def sortI (xs : List Int) : List Int := xs.mergeSort fun a b => decide (a ≤ b)
theorem sortI_perm (xs : List Int) : (sortI xs).Perm xs := List.mergeSort_perm _ _
theorem sortI_sorted (xs : List Int) : (sortI xs).Pairwise (· ≤ ·) := (List.pairwise_mergeSort (fun a b c h1 h2 => by simp at *; omega) (fun a b => by simp; omega) xs).imp fun h => by simpa using h
theorem sort_uniq {xs ys : List Int} (h : xs.Perm ys) (h1 : xs.Pairwise (· ≤ ·)) (h2 : ys.Pairwise (· ≤ ·)) : xs = ys := h.eq_of_pairwise (fun a b _ _ k1 k2 => Int.le_antisymm k1 k2) h1 h2
theorem ev_sortI (hm : X.mg "sorted" = none) (h : EV X G S a x S1) (r : RdL S1 x (is.map Enc.enc)) (hg : Gl X "sorted" := by rfl) (he : starEach [a] X.env = (false, eval a X.env) :: starEach [] X.env := by rfl) (hpl : (backTo pos (starEach [] X.env)).any (·.1) = false := by rfl) :
    EV X G S (.Call (.Name "sorted" p2) [a] [] pos) (En (sortI is)) S1 :=
  ev_cb cr_sortedI hm (by decide +kernel) (ea_cons h ea_nil he) (fun vs ps σ H Q R A1 q => by
    obtain ⟨v, rfl, h1⟩ := p1 A1
    obtain ⟨q0, ys, rfl, h2, h3⟩ := R.rdl h1 r
    rw [ints_of h3] at h2
    refine ⟨q0, is, rfl, h2, fun ns' p k1 k2 hp => ?_⟩
    have e : ns' = sortI is := sort_uniq (k1.trans (sortI_perm is).symm) k2 (sortI_sorted is)
    rw [e]
    obtain ⟨R2, L2, n⟩ := new_dat (o := .lst ((sortI is).map V.int)) R hp
    exact q _ _ ps R2 L2 (.lst upd_same n all_ints)) hg (by decide) (by decide) he hpl
end
/-! ### subscripts -/
section
variable {α : Type} [Enc α] [Inhabited α] {xs : List α} {i : Int}
def gI (xs : List α) (i : Int) : α := (atI xs i).getD default
def InR (i : Int) (n : Nat) : Prop := -(n : Int) ≤ i ∧ i < (n : Int)
omit [Enc α] in
theorem gI_some (hi : InR i xs.length) : atI xs i = some (gI xs i) := by
  unfold gI
  have : ∃ v, atI xs i = some v := by
    obtain ⟨h1, h2⟩ := hi
    unfold atI ixN
    by_cases h0 : 0 ≤ i
    · rw [if_pos h0, if_pos h2]
      exact ⟨xs[i.toNat]'(by omega), by simp⟩
    · rw [if_neg h0, if_pos h1]
      exact ⟨xs[(i + xs.length).toNat]'(by omega), by simp⟩
  obtain ⟨v, e⟩ := this
  rw [e]
  rfl
theorem atI_map {β γ : Type} (f : β → γ) (xs : List β) (i : Int) : atI (xs.map f) i = (atI xs i).map f := by
  unfold atI
  rw [List.length_map]
  cases ixN xs.length i with
  | none => rfl
  | some j => simp
theorem at_all {O : Ex} {vs : List V} {ds : List Dt} {d : Dt} (h : IsAll K H O vs ds) (e : atI ds i = some d) : ∃ v, atI vs i = some v ∧ Is K H O v d := by
  unfold atI at e ⊢
  rw [h.length]
  cases q : ixN ds.length i with
  | none => rw [q] at e; cases e
  | some j =>
    rw [q] at e
    exact h.get e
theorem plainIx_name {nm : Str} {p : Pos} : PlainIx (.Name nm p) := fun _ _ => rfl
theorem ev_ixL (h1 : EV X G S a x S1) (h2 : EV X G S1 b (En i) S2) (r : RdL S2 x (xs.map Enc.enc)) (hi : InR i xs.length) (hp : PlainIx b := by intro _ _; rfl) : EV X G S (.Subscript a b pos) (En (gI xs i)) S2 :=
  ev_op2 h1 h2 (fun vx vy ps σ H Q R hx hy q => by
    obtain ⟨q0, ys, rfl, k1, k2⟩ := R.rdl hx r
    obtain ⟨v, e, hv⟩ := at_all (i := i) k2 (by rw [atI_map, gI_some hi]; rfl)
    exact ⟨q0, ys, i, v, rfl, is_at hy, k1, e, q _ H ps R Le.refl hv⟩) fun _ _ k1 k2 => pe_ix ix_list k1 k2 hp
theorem ev_ixT (h1 : EV X G S a x S1) (h2 : EV X G S1 b (En i) S2) (r : RdT x (xs.map Enc.enc)) (hi : InR i xs.length) (hp : PlainIx b := by intro _ _; rfl) : EV X G S (.Subscript a b pos) (En (gI xs i)) S2 :=
  ev_op2 h1 h2 (fun vx vy ps σ H Q R hx hy q => by
    obtain ⟨q0, ys, rfl, k1, k2⟩ := rd_t hx r
    obtain ⟨v, e, hv⟩ := at_all (i := i) k2 (by rw [atI_map, gI_some hi]; rfl)
    exact ⟨q0, ys, i, v, rfl, is_at hy, k1, e, q _ H ps R Le.refl hv⟩) fun _ _ k1 k2 => pe_ix ix_tup k1 k2 hp
end
/-- a part of a tuple, told by a number -/
theorem ev_part {j : Nat} {d : Dt} {k : Nat} {p : Pos} (h1 : EV X G S a (.dat (.tup ds)) S1) (hd : ds[j]? = some d) : EV X G S (.Subscript a (.Constant (.int (j : Int)) k p) pos) (.dat d) S1 :=
  ev_op2 h1 ev_int (fun vx vy ps σ H Q R hx hy q => by
    obtain ⟨q0, ys, rfl, k1, k2⟩ := rd_t hx (rfl : RdT _ ds)
    obtain ⟨v, e, hv⟩ := k2.get hd
    exact ⟨q0, ys, (j : Int), v, rfl, is_at hy, k1, atI_nat e, q _ H ps R Le.refl hv⟩) fun _ _ k1 k2 => pe_ix ix_tup k1 k2 (fun _ _ => rfl)
/-! ### in -/
theorem inV_ints {i : Int} : ∀ {is : List Int}, inV (.int i) (is.map V.int) = decide (i ∈ is)
  | [] => by simp [inV]
  | j :: is => by
    unfold inV
    rw [List.map_cons, List.any_cons]
    have := inV_ints (i := i) (is := is)
    unfold inV at this
    rw [this]
    show (j == i || decide (i ∈ is)) = _
    by_cases h : j = i
    · subst h; simp
    · have : (j == i) = false := by simpa using h
      rw [this]
      simp [Ne.symm h]
theorem flat_ints : ∀ {is : List Int}, (is.map V.int).all flatV = true
  | [] => rfl
  | _ :: _ => by rw [List.map_cons, List.all_cons, flat_ints]; rfl
variable {is : List Int} {i : Int}
theorem r2_in {neg : Bool} (r : RdS S y (is.map Enc.enc)) : R2A K (rIn K neg) G S (En i) y (En (if neg then !decide (i ∈ is) else decide (i ∈ is))) S := fun vx vy ps σ H Q R hx hy q => by
  obtain ⟨q0, ys, rfl, h2, h3⟩ := R.rds hy r
  cases is_at hx
  rw [ints_of h3] at h2
  refine ⟨q0, _, rfl, h2, rfl, flat_ints, ?_⟩
  rw [inV_ints]
  exact q _ H ps R Le.refl (.at _)
theorem et_in (h1 : EV X G S a (En i) S1) (h2 : EV X G S1 b y S2) (r : RdS S2 y (is.map Enc.enc)) (hm : behindInMarks .In b = false := by rfl) : ET X G S (.Compare a [.In] [b] pos) (decide (i ∈ is)) S2 := et_cmp op_in_seq h1 h2 (r2_in r) hm
theorem et_nin (h1 : EV X G S a (En i) S1) (h2 : EV X G S1 b y S2) (r : RdS S2 y (is.map Enc.enc)) (hm : behindInMarks .NotIn b = false := by rfl) : ET X G S (.Compare a [.NotIn] [b] pos) (!decide (i ∈ is)) S2 := et_cmp op_notIn_seq h1 h2 (r2_in r) hm
theorem ev_in (h1 : EV X G S a (En i) S1) (h2 : EV X G S1 b y S2) (r : RdS S2 y (is.map Enc.enc)) (hm : behindInMarks .In b = false := by rfl) : EV X G S (.Compare a [.In] [b] pos) (En (decide (i ∈ is))) S2 := ev_cmp op_in_seq h1 h2 (r2_in r) hm
theorem ev_nin (h1 : EV X G S a (En i) S1) (h2 : EV X G S1 b y S2) (r : RdS S2 y (is.map Enc.enc)) (hm : behindInMarks .NotIn b = false := by rfl) : EV X G S (.Compare a [.NotIn] [b] pos) (En (!decide (i ∈ is))) S2 := ev_cmp op_notIn_seq h1 h2 (r2_in r) hm
end
end Ab
set_option Elab.async false
set_option linter.all false
set_option maxRecDepth 100000
/-! Methods of lists of one's own, stores, equality of data, sums of sequences, slices. -/
namespace Ab
open PySem PySem.Spec PyProof.Rows L2
section
variable {X : Cx} {K : PySem.W.Frag} {G : Gh} {S S1 S2 S3 : Ms} {a b c e : Expr} {es : List Expr} {x y z : A} {as : List A} {pos p2 apos : Pos} {ps ps' ps0 : Ps} {σ : L2.St} {H H' H0 : Hp} {v : V} {ds : List Dt} {n : Str} {k : Nat}

theorem cell_of (R : RelP K G ps S σ H) (h : AIs K G ps H v (.cell k)) {as : List A} (hk : S.cs[k]? = some (.lst as)) : ∃ p vs, v = .ref p ∧ ps[k]? = some (some p) ∧ H p = some (.lst vs) ∧ Paired (AIs K G ps H) vs as := by
  obtain ⟨p, e1, rfl⟩ := h
  obtain ⟨q, vs, e2, h1, h2⟩ := R.cells k _ _ e1 hk
  cases e2
  exact ⟨p, vs, rfl, e1, h1, h2⟩
/-- a method of a list, with one argument; without -/
theorem ev_m1 {r : V → List V → Hp → VK → Prop} {name : Str} {id : String} (slot : Slot "list" name id) (hty : typeOf (.builtin id) = pure (.type "method_descriptor")) (hm : MtR X id r) (ho : EV X G S a (.cell k) S1) {as : List A} (hk : S1.cs[k]? = some (.lst as)) (ha : EV X G S1 e x S2)
    (hr : ∀ vx vy ps σ H Q, RelP X.K G ps S2 σ H → AIs X.K G ps H vx (.cell k) → AIs X.K G ps H vy x → (∀ v H' ps', RelP X.K G ps' S3 σ H' → Le G ps H ps' H' → AIs X.K G ps' H' v z → Q v H') → r vx [vy] H Q)
    (hbase : attributeBase a name X.env (eval a X.env) = eval a X.env := by rfl)
    (hfew : ((backTo pos (starEach [e] X.env)).all (fun x => !x.1) && (backToKw pos (keywordEach [] X.env)).all (fun x => x.1.isSome)
      && decide (([e] : List Expr).length + ([] : List Keyword).length + (if ([] : List Keyword).isEmpty then 0 else 1) < 30)) = true := by rfl)
    (hline : (apos.endLine == pos.line) = true := by rfl) (hs : starEach [e] X.env = (false, eval e X.env) :: starEach [] X.env := by rfl) (hplain : (backTo pos (starEach [] X.env)).any (·.1) = false := by rfl) :
    EV X G S (.Call (.Attribute a name apos) [e] [] pos) z S3 :=
  PE.imp (pe_bm PySem.F.plainAttrs_list slot hty hm ho (ea_cons ha ea_nil hs) hbase hfew hline hs hplain) fun σ H Q ⟨ps, R, q⟩ => ⟨ps, R, fun v H1 ps1 R1 L1 A1 => by
    obtain ⟨p, vs, rfl, _, h1, _⟩ := cell_of R1 A1 hk
    refine ⟨.inl ⟨rfl, vs, .inl (.inl h1)⟩, ps1, R1, fun us H2 ps2 R2 L2 A2 => ?_⟩
    obtain ⟨u, rfl, hu⟩ := p1 A2
    exact hr _ u ps2 σ H2 Q R2 (A1.mono L2) hu fun w H3 ps3 R3 L3 A3 => q w H3 ps3 R3 ((L1.trans L2).trans L3) A3⟩
theorem ev_m0 {r : V → List V → Hp → VK → Prop} {name : Str} {id : String} (slot : Slot "list" name id) (hty : typeOf (.builtin id) = pure (.type "method_descriptor")) (hm : MtR X id r) (ho : EV X G S a (.cell k) S1) {as : List A} (hk : S1.cs[k]? = some (.lst as))
    (hr : ∀ vx ps σ H Q, RelP X.K G ps S1 σ H → AIs X.K G ps H vx (.cell k) → (∀ v H' ps', RelP X.K G ps' S3 σ H' → Le G ps H ps' H' → AIs X.K G ps' H' v z → Q v H') → r vx [] H Q)
    (hbase : attributeBase a name X.env (eval a X.env) = eval a X.env := by rfl) (hline : (apos.endLine == pos.line) = true := by rfl) :
    EV X G S (.Call (.Attribute a name apos) [] [] pos) z S3 :=
  PE.imp (pe_bm0 PySem.F.plainAttrs_list slot hty hm ho hbase hline) fun σ H Q ⟨ps, R, q⟩ => ⟨ps, R, fun v H1 ps1 R1 L1 A1 => by
    obtain ⟨p, vs, rfl, _, h1, _⟩ := cell_of R1 A1 hk
    exact ⟨.inl ⟨rfl, vs, .inl (.inl h1)⟩, hr _ ps1 σ H1 Q R1 A1 fun w H3 ps3 R3 L3 A3 => q w H3 ps3 R3 (L1.trans L3) A3⟩⟩
section
variable {α : Type} [Enc α] {xs : List α} {u : α}
theorem cl_set {cs : List C} {xs : List α} : Cl xs = C.lst ((xs.map Enc.enc).map .dat) := by rw [List.map_map]; rfl
/-- xs.append(e) -/
theorem ev_append (ho : EV X G S a (.cell k) S) (ha : EV X G S e (En u) S1) {xs0 : List α} (hk0 : S.cs[k]? = some (Cl xs0)) (hk : S1.cs[k]? = some (Cl xs)) (hz : xs.length < 100000) (hbase : attributeBase a "append" X.env (eval a X.env) = eval a X.env := by rfl)
    (hfew : ((backTo pos (starEach [e] X.env)).all (fun x => !x.1) && (backToKw pos (keywordEach [] X.env)).all (fun x => x.1.isSome)
      && decide (([e] : List Expr).length + ([] : List Keyword).length + (if ([] : List Keyword).isEmpty then 0 else 1) < 30)) = true := by rfl)
    (hline : (apos.endLine == pos.line) = true := by rfl) (hs : starEach [e] X.env = (false, eval e X.env) :: starEach [] X.env := by rfl) (hplain : (backTo pos (starEach [] X.env)).any (·.1) = false := by rfl) :
    EV X G S (.Call (.Attribute a "append" apos) [e] [] pos) (En ()) ⟨S1.sl, S1.cs.set k (Cl (xs ++ [u]))⟩ :=
  ev_m1 PySem.F.slot_list_append PySem.F.type_list_append mt_append ho hk0 ha (fun vx vy ps σ H Q R hx hy q => by
    obtain ⟨p, vs, rfl, e1, h1, h2⟩ := cell_of R hx hk
    have hl := Paired.len h2
    rw [List.length_map] at hl
    obtain ⟨R2, L2⟩ := R.write (o := .lst (vs ++ [vy])) (c := Cl (xs ++ [u])) e1 fun x => ⟨p, vs ++ [vy], rfl, upd_same, by
      rw [List.map_append]
      exact Paired.app (Paired.mp h2 fun _ _ z => z.mono x) (.cons (hy.mono x) .nil)⟩
    exact ⟨p, vs, vy, rfl, rfl, h1, by rw [hl]; exact sz_lt hz, q _ _ ps R2 L2 (.at _)⟩) hbase hfew hline hs hplain
/-- xs.extend(ys) -/
theorem ev_extend {ys : List α} (ho : EV X G S a (.cell k) S) (ha : EV X G S e (En ys) S1) {xs0 : List α} (hk0 : S.cs[k]? = some (Cl xs0)) (hk : S1.cs[k]? = some (Cl xs)) (hz : xs.length + ys.length ≤ 100000) (hbase : attributeBase a "extend" X.env (eval a X.env) = eval a X.env := by rfl)
    (hfew : ((backTo pos (starEach [e] X.env)).all (fun x => !x.1) && (backToKw pos (keywordEach [] X.env)).all (fun x => x.1.isSome)
      && decide (([e] : List Expr).length + ([] : List Keyword).length + (if ([] : List Keyword).isEmpty then 0 else 1) < 30)) = true := by rfl)
    (hline : (apos.endLine == pos.line) = true := by rfl) (hs : starEach [e] X.env = (false, eval e X.env) :: starEach [] X.env := by rfl) (hplain : (backTo pos (starEach [] X.env)).any (·.1) = false := by rfl) :
    EV X G S (.Call (.Attribute a "extend" apos) [e] [] pos) (En ()) ⟨S1.sl, S1.cs.set k (Cl (xs ++ ys))⟩ :=
  ev_m1 PySem.F.slot_list_extend PySem.F.type_list_extend mt_extend ho hk0 ha (fun vx vy ps σ H Q R hx hy q => by
    obtain ⟨p, vs, rfl, e1, h1, h2⟩ := cell_of R hx hk
    have hl := Paired.len h2
    rw [List.length_map] at hl
    obtain ⟨p', ws, rfl, g1, g2⟩ := R.rdm hy rdm
    have hl2 := g2.length
    rw [List.length_map] at hl2
    obtain ⟨R2, L2⟩ := R.write (o := .lst (vs ++ ws)) (c := Cl (xs ++ ys)) e1 fun x => ⟨p, vs ++ ws, rfl, upd_same, by
      rw [List.map_append]
      refine Paired.app (Paired.mp h2 fun _ _ z => z.mono x) ?_
      have := of_all (G := G) (ps := ps) g2
      rw [List.map_map] at this
      exact Paired.mp this fun _ _ z => z.mono x⟩
    exact ⟨p, p', vs, ws, rfl, rfl, h1, g1, by rw [hl, hl2]; exact sz_of hz, q _ _ ps R2 L2 (.at _)⟩) hbase hfew hline hs hplain
theorem dropLast_map {β γ : Type} (f : β → γ) : ∀ l : List β, (l.map f).dropLast = l.dropLast.map f
  | [] => rfl
  | [_] => rfl
  | _ :: b :: r => by
    have := dropLast_map f (b :: r)
    simpa using this
theorem Paired.dropLast {β γ : Type} {F : β → γ → Prop} : ∀ {xs : List β} {ys : List γ}, Paired F xs ys → Paired F xs.dropLast ys.dropLast
  | _, _, .nil => .nil
  | _, _, .cons r .nil => .nil
  | _, _, .cons r (.cons r' t) => .cons r (Paired.dropLast (.cons r' t))
theorem Paired.erase {β γ : Type} {F : β → γ → Prop} : ∀ {xs : List β} {ys : List γ} (i : Nat), Paired F xs ys → Paired F (xs.eraseIdx i) (ys.eraseIdx i)
  | _, _, _, .nil => .nil
  | _, _, 0, .cons _ t => t
  | _, _, i + 1, .cons r t => .cons r (Paired.erase i t)
theorem erase_map {β γ : Type} (f : β → γ) : ∀ (l : List β) (i : Nat), (l.map f).eraseIdx i = (l.eraseIdx i).map f
  | [], _ => rfl
  | _ :: _, 0 => rfl
  | b :: r, i + 1 => by
    have := erase_map f r i
    simpa using this
/-- xs.pop() -/
theorem ev_pop [Inhabited α] (ho : EV X G S a (.cell k) S) (hk : S.cs[k]? = some (Cl xs)) (h0 : xs ≠ []) (hbase : attributeBase a "pop" X.env (eval a X.env) = eval a X.env := by rfl) (hline : (apos.endLine == pos.line) = true := by rfl) :
    EV X G S (.Call (.Attribute a "pop" apos) [] [] pos) (En (xs.getLastD default)) ⟨S.sl, S.cs.set k (Cl xs.dropLast)⟩ :=
  ev_m0 PySem.F.slot_list_pop PySem.F.type_list_pop mt_pop ho hk (fun vx ps σ H Q R hx q => by
    obtain ⟨p, vs, rfl, e1, h1, h2⟩ := cell_of R hx hk
    have hl := Paired.len h2
    rw [List.length_map] at hl
    have hpos := List.length_pos_iff.mpr h0
    have e2 : xs.getLastD default = xs[xs.length - 1] := by
      rw [List.getLastD_eq_getLast?, List.getLast?_eq_getElem?, List.getElem?_eq_getElem (by omega)]
      rfl
    obtain ⟨w, ew, hw⟩ := Paired.at h2 (i := xs.length - 1) (y := .dat (Enc.enc xs[xs.length - 1])) (by rw [List.getElem?_map, List.getElem?_eq_getElem (by omega)]; rfl)
    obtain ⟨R2, L2⟩ := R.write (o := .lst vs.dropLast) (c := Cl xs.dropLast) e1 fun x => ⟨p, vs.dropLast, rfl, upd_same, by
      have := Paired.dropLast h2
      rw [dropLast_map] at this
      exact Paired.mp this fun _ _ z => z.mono x⟩
    refine ⟨p, vs, w, rfl, rfl, h1, by rw [hl]; exact ew, q _ _ ps R2 L2 ?_⟩
    rw [e2]
    exact hw.mono L2) hbase hline
/-- xs.pop(i) -/
theorem ev_popAt [Inhabited α] {i : Int} (ho : EV X G S a (.cell k) S) (ha : EV X G S e (En i) S1) {xs0 : List α} (hk0 : S.cs[k]? = some (Cl xs0)) (hk : S1.cs[k]? = some (Cl xs)) (hi : 0 ≤ i ∧ i < xs.length) (hz : xs.length ≤ 100000) (hbase : attributeBase a "pop" X.env (eval a X.env) = eval a X.env := by rfl)
    (hfew : ((backTo pos (starEach [e] X.env)).all (fun x => !x.1) && (backToKw pos (keywordEach [] X.env)).all (fun x => x.1.isSome)
      && decide (([e] : List Expr).length + ([] : List Keyword).length + (if ([] : List Keyword).isEmpty then 0 else 1) < 30)) = true := by rfl)
    (hline : (apos.endLine == pos.line) = true := by rfl) (hs : starEach [e] X.env = (false, eval e X.env) :: starEach [] X.env := by rfl) (hplain : (backTo pos (starEach [] X.env)).any (·.1) = false := by rfl) :
    EV X G S (.Call (.Attribute a "pop" apos) [e] [] pos) (En (gI xs i)) ⟨S1.sl, S1.cs.set k (Cl (xs.eraseIdx i.toNat))⟩ :=
  ev_m1 PySem.F.slot_list_pop PySem.F.type_list_pop mt_popAt ho hk0 ha (fun vx vy ps σ H Q R hx hy q => by
    obtain ⟨p, vs, rfl, e1, h1, h2⟩ := cell_of R hx hk
    have hl := Paired.len h2
    rw [List.length_map] at hl
    cases is_at hy
    have hat : atI xs i = some (gI xs i) := gI_some ⟨by omega, hi.2⟩
    have hx : xs[i.toNat]? = some (gI xs i) := by
      unfold atI ixN at hat
      rw [if_pos hi.1, if_pos hi.2] at hat
      exact hat
    obtain ⟨w, ew, hw⟩ := Paired.at h2 (i := i.toNat) (y := .dat (Enc.enc (gI xs i))) (by rw [List.getElem?_map, hx]; rfl)
    obtain ⟨R2, L2⟩ := R.write (o := .lst (vs.eraseIdx i.toNat)) (c := Cl (xs.eraseIdx i.toNat)) e1 fun x => ⟨p, vs.eraseIdx i.toNat, rfl, upd_same, by
      have := Paired.erase i.toNat h2
      rw [erase_map] at this
      exact Paired.mp this fun _ _ z => z.mono x⟩
    refine ⟨p, vs, i, i.toNat, w, rfl, rfl, h1, by omega, by omega, ?_, ew, q _ _ ps R2 L2 (hw.mono L2)⟩
    rw [hl]
    exact seqIndex_of hi.1 hi.2) hbase hfew hline hs hplain
/-- xs[i] = e -/
theorem sn_setC {i : Int} (h : EV X G S e (En u) S1) (ho : EV X G S1 a (.cell k) S1) (hi : EV X G S1 b (En i) S2) (hk : S2.cs[k]? = some (Cl xs)) (hb : 0 ≤ i ∧ i < xs.length)
    (ha : ∀ v, assign (.Subscript a b p2) X.env v = (do
      let ov ← holding [v] (eval a X.env)
      let iv ← holding [v, ov] (eval b X.env)
      standAt p2
      holding [v, ov, iv] (setItem ov iv v)
      release [v, ov, iv] []) := by intro _; rfl) (hs : swapsWithSole [.Subscript a b p2] e pos.line X.env = pure false := by rfl) (hw : swappedStores [.Subscript a b p2] e X.env = pure none := by rfl) (h1 : (assignEach [.Subscript a b p2] X.env).map (·.2) = [assign (.Subscript a b p2) X.env] := by rfl) : SN X G S (.Assign [.Subscript a b p2] e pos) ⟨S2.sl, S2.cs.set k (Cl (xs.set i.toNat u))⟩ :=
  PS.imp (ps_asg h (pg_sub ho hi set_list ha) hs hw h1) fun D σ H ⟨ps, R, d⟩ => ⟨ps, R, fun v H1 ps1 R1 L1 A1 => ⟨ps1, R1, fun o H2 ps2 R2 L2 A2 => ⟨ps2, R2, fun iv H3 ps3 R3 L3 A3 => by
    obtain ⟨p, vs, rfl, e1, h1, h2⟩ := cell_of R3 (A2.mono L3) hk
    have hl := Paired.len h2
    rw [List.length_map] at hl
    cases is_at A3
    have A1' := (A1.mono L2).mono L3
    obtain ⟨R4, L4⟩ := R3.write (o := .lst (vs.set i.toNat v)) (c := Cl (xs.set i.toNat u)) e1 fun x => ⟨p, vs.set i.toNat v, rfl, upd_same, by
      rw [List.map_set]
      exact Paired.set (A1'.mono x) _ (Paired.mp h2 fun _ _ z => z.mono x)⟩
    refine ⟨p, vs, i, i.toNat, rfl, rfl, h1, ?_, d _ _ ps3 R4 (((L1.trans L2).trans L3).trans L4).out⟩
    rw [hl]
    unfold ixN
    rw [if_pos hb.1, if_pos hb.2]⟩⟩⟩
end
/-! ### equality of data -/
class EqE (α : Type) [Enc α] [DecidableEq α] where
  pd : α → PyData
  dep : Nat
  dp : ∀ {K : PySem.W.Frag} {H : Hp} {O : Ex} {v : V} (x : α), Is K H O v (Enc.enc x) → Dp K H v (pd x)
  lay : ∀ x, (pd x).canLay0 = true
  hd : ∀ x, (pd x).depth ≤ dep
  eqv : ∀ x y, PyData.eqv (pd x) (pd y) = decide (x = y)
instance : EqE Int := ⟨fun i => .int i, 0, fun x h => by cases h; exact .int _, fun _ => rfl, fun _ => Nat.le_refl _, fun x y => by
  show (x == y) = _
  by_cases h : x = y <;> simp [h]⟩
instance : EqE Bool := ⟨fun i => .bool i, 0, fun x h => by cases h; exact .bl _, fun _ => rfl, fun _ => Nat.le_refl _, fun x y => by
  show (x == y) = _
  by_cases h : x = y <;> simp [h]⟩
theorem dp_all {α : Type} [Enc α] [DecidableEq α] [EqE α] {O : Ex} : ∀ {vs : List V} {xs : List α}, IsAll K H O vs (xs.map Enc.enc) → DpAll K H vs (xs.map EqE.pd)
  | [], [], _ => .nil
  | _ :: _, _ :: _, .cons h t => .cons (EqE.dp _ h) (dp_all t)
  | [], _ :: _, h => nomatch h
  | _ :: _, [], h => nomatch h
theorem lay_all {α : Type} [Enc α] [DecidableEq α] [EqE α] : ∀ xs : List α, PyData.canLayAll0 (xs.map EqE.pd) = true
  | [] => rfl
  | x :: xs => by rw [List.map_cons, PyData.canLayAll0, EqE.lay x, lay_all xs]; rfl
theorem dep_all {α : Type} [Enc α] [DecidableEq α] [EqE α] : ∀ xs : List α, PyData.depthAll (xs.map EqE.pd) ≤ EqE.dep α
  | [] => by simp [PyData.depthAll]
  | x :: xs => by
    have h1 := dep_all xs
    have h2 := EqE.hd x
    simp only [List.map_cons, PyData.depthAll]
    omega
theorem eqv_all {α : Type} [Enc α] [DecidableEq α] [EqE α] : ∀ xs ys : List α, PyData.eqvAll (xs.map EqE.pd) (ys.map EqE.pd) = decide (xs = ys)
  | [], [] => by simp [PyData.eqvAll]
  | [], _ :: _ => by simp [PyData.eqvAll]
  | _ :: _, [] => by simp [PyData.eqvAll]
  | x :: xs, y :: ys => by
    rw [List.map_cons, List.map_cons, PyData.eqvAll, EqE.eqv x y, eqv_all xs ys]
    by_cases h1 : x = y <;> by_cases h2 : xs = ys <;> simp [h1, h2]
instance {α : Type} [Enc α] [DecidableEq α] [EqE α] : EqE (List α) := ⟨fun xs => .list (xs.map EqE.pd), EqE.dep α + 1, fun x h => by
  cases h with
  | lst h1 h2 h3 => exact .lst (.inl (.inl h1)) (dp_all h3), fun x => by simp only [PyData.canLay0]; exact lay_all x, fun x => by have := dep_all x; simp only [PyData.depth]; omega, fun x y => by simp only [PyData.eqv]; exact eqv_all x y⟩
instance {α : Type} [Enc α] [DecidableEq α] [EqE α] : EqE (Tp α) := ⟨fun xs => .tuple (List.map EqE.pd xs), EqE.dep α + 1, fun x h => by
  cases h with
  | tup h1 h3 => exact .tup h1.sq (dp_all h3), fun x => by simp only [PyData.canLay0]; exact lay_all x, fun x => by have := dep_all (α := α) x; simp only [PyData.depth]; omega, fun x y => by simp only [PyData.eqv]; exact eqv_all (α := α) x y⟩
instance {α β : Type} [Enc α] [Enc β] [DecidableEq α] [DecidableEq β] [EqE α] [EqE β] : EqE (α × β) := ⟨fun p => .tuple [EqE.pd p.1, EqE.pd p.2], EqE.dep α + EqE.dep β + 1, fun x h => by
  cases h with
  | tup h1 h3 =>
    cases h3 with
    | cons k1 h3 =>
      cases h3 with
      | cons k2 h3 =>
        cases h3
        exact .tup h1.sq (.cons (EqE.dp _ k1) (.cons (EqE.dp _ k2) .nil)), fun x => by simp only [PyData.canLay0, PyData.canLayAll0, EqE.lay]; rfl, fun x => by
  have h1 := EqE.hd x.1
  have h2 := EqE.hd x.2
  simp only [PyData.depth, PyData.depthAll]
  omega, fun x y => by
  simp only [PyData.eqv, PyData.eqvAll, EqE.eqv]
  obtain ⟨x1, x2⟩ := x
  obtain ⟨y1, y2⟩ := y
  by_cases h1 : x1 = y1 <;> by_cases h2 : x2 = y2 <;> simp [h1, h2]⟩
instance {α β γ : Type} [Enc α] [Enc β] [Enc γ] [DecidableEq α] [DecidableEq β] [DecidableEq γ] [EqE α] [EqE β] [EqE γ] : EqE (T3 α β γ) := ⟨fun p => .tuple [EqE.pd p.1, EqE.pd p.2.1, EqE.pd p.2.2], EqE.dep α + EqE.dep β + EqE.dep γ + 1, fun x h => by
  cases h with
  | tup h1 h3 =>
    cases h3 with
    | cons k1 h3 =>
      cases h3 with
      | cons k2 h3 =>
        cases h3 with
        | cons k3 h3 =>
          cases h3
          exact .tup h1.sq (.cons (EqE.dp _ k1) (.cons (EqE.dp _ k2) (.cons (EqE.dp _ k3) .nil))), fun x => by simp only [PyData.canLay0, PyData.canLayAll0, EqE.lay]; rfl, fun x => by
  have h1 := EqE.hd x.1
  have h2 := EqE.hd x.2.1
  have h3 := EqE.hd x.2.2
  simp only [PyData.depth, PyData.depthAll]
  omega, fun x y => by
  simp only [PyData.eqv, PyData.eqvAll, EqE.eqv]
  obtain ⟨x1, x2, x3⟩ := x
  obtain ⟨y1, y2, y3⟩ := y
  show _ = decide ((x1, x2, x3) = (y1, y2, y3))
  by_cases h1 : x1 = y1 <;> by_cases h2 : x2 = y2 <;> by_cases h3 : x3 = y3 <;> simp [h1, h2, h3]⟩
section
variable {α : Type} [Enc α] [DecidableEq α] [EqE α] {u w : α} {xs : List α}
theorem shaped_of (hd : EqE.dep α ≤ 64) : SeqAt.shaped (EqE.pd u) = true := by
  unfold SeqAt.shaped
  rw [EqE.lay, Bool.true_and]
  exact decide_eq_true (Nat.le_trans (EqE.hd u) hd)
theorem r2_eqD (hd : EqE.dep α ≤ 64) : R2A K (rEqD K) G S (En u) (En w) (En (decide (u = w))) S := fun vx vy ps σ H Q R hx hy q =>
  ⟨_, _, EqE.dp u hx, EqE.dp w hy, shaped_of hd, shaped_of hd, by rw [EqE.eqv]; exact q _ H ps R Le.refl (.at _)⟩
theorem r2_neD (hd : EqE.dep α ≤ 64) : R2A K (rNeD K) G S (En u) (En w) (En (!decide (u = w))) S := fun vx vy ps σ H Q R hx hy q =>
  ⟨_, _, EqE.dp u hx, EqE.dp w hy, shaped_of hd, shaped_of hd, by rw [EqE.eqv]; exact q _ H ps R Le.refl (.at _)⟩
theorem ev_eqD (hu : X.A.units + 64 < cLine) (h1 : EV X G S a (En u) S1) (h2 : EV X G S1 b (En w) S2) (hd : EqE.dep α ≤ 64 := by decide) : EV X G S (.Compare a [.Eq] [b] pos) (En (decide (u = w))) S2 := ev_cmp (op_eqD hu) h1 h2 (r2_eqD hd) (nomark _)
theorem et_eqD (hu : X.A.units + 64 < cLine) (h1 : EV X G S a (En u) S1) (h2 : EV X G S1 b (En w) S2) (hd : EqE.dep α ≤ 64 := by decide) : ET X G S (.Compare a [.Eq] [b] pos) (decide (u = w)) S2 := et_cmp (op_eqD hu) h1 h2 (r2_eqD hd) (nomark _)
theorem ev_neD (hu : X.A.units + 64 < cLine) (h1 : EV X G S a (En u) S1) (h2 : EV X G S1 b (En w) S2) (hd : EqE.dep α ≤ 64 := by decide) : EV X G S (.Compare a [.NotEq] [b] pos) (En (!decide (u = w))) S2 := ev_cmp (op_neD hu) h1 h2 (r2_neD hd) (nomark _)
theorem et_neD (hu : X.A.units + 64 < cLine) (h1 : EV X G S a (En u) S1) (h2 : EV X G S1 b (En w) S2) (hd : EqE.dep α ≤ 64 := by decide) : ET X G S (.Compare a [.NotEq] [b] pos) (!decide (u = w)) S2 := et_cmp (op_neD hu) h1 h2 (r2_neD hd) (nomark _)
/-- a list (one's own or data) beside a list -/
theorem dp_rdl (R : RelP K G ps S σ H) (h : AIs K G ps H v x) (r : RdL S x (xs.map Enc.enc)) : Dp K H v (EqE.pd xs) := by
  obtain ⟨p, vs, rfl, h1, h2⟩ := R.rdl h r
  exact .lst h1 (dp_all h2)
theorem et_eqL {ys : List α} (hu : X.A.units + 64 < cLine) (h1 : EV X G S a x S1) (h2 : EV X G S1 b y S2) (r1 : RdL S2 x (xs.map Enc.enc)) (r2 : RdL S2 y (ys.map Enc.enc)) (hd : EqE.dep (List α) ≤ 64 := by decide) : ET X G S (.Compare a [.Eq] [b] pos) (decide (xs = ys)) S2 :=
  et_cmp (op_eqD hu) h1 h2 (fun vx vy ps σ H Q R hx hy q => ⟨_, _, dp_rdl R hx r1, dp_rdl R hy r2, shaped_of hd, shaped_of hd, by rw [EqE.eqv]; exact q _ H ps R Le.refl (.at _)⟩) (nomark _)
theorem et_neL {ys : List α} (hu : X.A.units + 64 < cLine) (h1 : EV X G S a x S1) (h2 : EV X G S1 b y S2) (r1 : RdL S2 x (xs.map Enc.enc)) (r2 : RdL S2 y (ys.map Enc.enc)) (hd : EqE.dep (List α) ≤ 64 := by decide) : ET X G S (.Compare a [.NotEq] [b] pos) (!decide (xs = ys)) S2 :=
  et_cmp (op_neD hu) h1 h2 (fun vx vy ps σ H Q R hx hy q => ⟨_, _, dp_rdl R hx r1, dp_rdl R hy r2, shaped_of hd, shaped_of hd, by rw [EqE.eqv]; exact q _ H ps R Le.refl (.at _)⟩) (nomark _)
end
/-! ### sums of sequences -/
section
variable {α : Type} [Enc α] {xs ys : List α}
theorem isall_app {O : Ex} {vs ws : List V} {xs ys : List α} (h1 : IsAll K H O vs (xs.map Enc.enc)) (h2 : IsAll K H O ws (ys.map Enc.enc)) : IsAll K H O (vs ++ ws) ((xs ++ ys).map Enc.enc) := by
  rw [List.map_append]
  exact h1.append h2
theorem ev_cat (h1 : EV X G S a x S1) (h2 : EV X G S1 b y S2) (r1 : RdM S2 x (xs.map Enc.enc)) (r2 : RdM S2 y (ys.map Enc.enc)) (hz : xs.length + ys.length ≤ 100000) : EV X G S (.BinOp a .Add b pos) (En (xs ++ ys)) S2 :=
  ev_bin op_cat h1 h2 fun vx vy ps σ H Q R hx hy q => by
    obtain ⟨p, vs, rfl, g1, g2⟩ := R.rdm hx r1
    obtain ⟨p', ws, rfl, k1, k2⟩ := R.rdm hy r2
    have l1 := g2.length
    have l2 := k2.length
    rw [List.length_map] at l1 l2
    refine ⟨p, p', vs, ws, rfl, rfl, g1, k1, by rw [l1, l2]; exact sz_of hz, fun l hl => ?_⟩
    obtain ⟨R2, L2, n⟩ := new_dat (o := .lst (vs ++ ws)) R hl
    exact q _ _ ps R2 L2 (.lst upd_same n (IsAll.mono L2.out _ (isall_app g2 k2)))
theorem ev_catT {xs ys : List α} (h1 : EV X G S a (En (α := Tp α) xs) S1) (h2 : EV X G S1 b (En (α := Tp α) ys) S2) (hz : xs.length + ys.length ≤ 100000) : EV X G S (.BinOp a .Add b pos) (En (α := Tp α) (xs ++ ys)) S2 :=
  ev_bin op_catA h1 h2 fun vx vy ps σ H Q R hx hy q => by
    obtain ⟨p, vs, rfl, g1, g2⟩ := rd_t hx (rfl : RdT _ (xs.map Enc.enc))
    obtain ⟨p', ws, rfl, k1, k2⟩ := rd_t hy (rfl : RdT _ (ys.map Enc.enc))
    have l1 := g2.length
    have l2 := k2.length
    rw [List.length_map] at l1 l2
    refine ⟨p, p', vs, ws, rfl, rfl, g1, k1, by rw [l1, l2]; exact sz_of hz, fun e => ?_, fun _ e => ?_, fun _ _ l hl => ?_⟩
    · have e1 : xs = [] := List.eq_nil_of_length_eq_zero (by rw [← l1, e]; rfl)
      subst e1
      exact q _ H ps R Le.refl hy
    · have e1 : ys = [] := List.eq_nil_of_length_eq_zero (by rw [← l2, e]; rfl)
      subst e1
      rw [List.append_nil] at q
      exact q _ H ps R Le.refl hx
    · obtain ⟨R2, L2, n⟩ := new_dat (o := .tup (vs ++ ws)) R hl
      exact q _ _ ps R2 L2 (.tup (.inl ⟨.inl upd_same, n⟩) (IsAll.mono L2.out _ (isall_app g2 k2)))
end
/-! ### slices -/
section
variable {α : Type} [Enc α] {xs : List α}
/-- the part from lo to hi -/
def cutD {α : Type} (xs : List α) (lo hi : Option Int) : List α := (xs.drop (HT.sIx xs.length 0 lo)).take (HT.sIx xs.length xs.length hi - HT.sIx xs.length 0 lo)
theorem isall_drop {O : Ex} : ∀ {vs : List V} {ds : List Dt} (n : Nat), IsAll K H O vs ds → IsAll K H O (vs.drop n) (ds.drop n)
  | _, _, 0, h => h
  | _, _, _ + 1, .nil => .nil
  | _, _, n + 1, .cons _ t => isall_drop n t
theorem isall_take {O : Ex} : ∀ {vs : List V} {ds : List Dt} (n : Nat), IsAll K H O vs ds → IsAll K H O (vs.take n) (ds.take n)
  | _, _, 0, _ => .nil
  | _, _, _ + 1, .nil => .nil
  | _, _, n + 1, .cons r t => .cons r (isall_take n t)
theorem isall_cut {O : Ex} {vs : List V} {lo hi : Option Int} (h : IsAll K H O vs (xs.map Enc.enc)) : IsAll K H O (cutV vs lo hi) ((cutD xs lo hi).map Enc.enc) := by
  have hl := h.length
  rw [List.length_map] at hl
  unfold cutV cutD
  rw [hl, List.map_take, List.map_drop]
  exact isall_take _ (isall_drop _ h)
def EO (X : Cx) (G : Gh) (S : Ms) (e : Option Expr) (o : Option Int) (S' : Ms) : Prop := PO X e (fun σ H Q => ∃ ps, RelP X.K G ps S σ H ∧ ∀ H' ps', RelP X.K G ps' S' σ H' → Le G ps H ps' H' → Q o H')
theorem PO.imp {e : Option Expr} {t t' : TO} (h : PO X e t) (f : ∀ σ H Q, t' σ H Q → t σ H Q) : PO X e t' := ⟨fun pins s σ H Q I q => h.run pins s σ H Q I (f σ H Q q)⟩
theorem eo_none : EO X G S none none S := PO.imp po_none fun σ H Q ⟨ps, R, q⟩ => q H ps R Le.refl
theorem eo_some {i : Int} (h : EV X G S a (En i) S1) : EO X G S (some a) (some i) S1 := PO.imp (po_some h) fun σ H Q ⟨ps, R, q⟩ => ⟨ps, R, fun v H1 ps1 R1 L1 A1 => ⟨i, is_at A1, q H1 ps1 R1 L1⟩⟩
theorem ev_slL {lo hi : Option Expr} {l u : Option Int} {p : Pos} (h : EV X G S a x S1) (h1 : EO X G S1 lo l S2) (h2 : EO X G S2 hi u S3) (r : RdL S3 x (xs.map Enc.enc)) : EV X G S (.Subscript a (.Slice lo hi none p) pos) (En (cutD xs l u)) S3 :=
  PE.imp (pe_slice sl_list h h1 h2) fun σ H Q ⟨ps, R, q⟩ => ⟨ps, R, fun v H1 ps1 R1 L1 A1 => ⟨ps1, R1, fun H2 ps2 R2 L2 => ⟨ps2, R2, fun H3 ps3 R3 L3 => by
    obtain ⟨p, vs, rfl, g1, g2⟩ := R3.rdl ((A1.mono L2).mono L3) r
    refine ⟨p, vs, rfl, g1, fun l' hl => ?_⟩
    obtain ⟨R4, L4, n⟩ := new_dat (o := .lst (cutV vs l u)) R3 hl
    exact q _ _ ps3 R4 (((L1.trans L2).trans L3).trans L4) (.lst upd_same n (IsAll.mono L4.out _ (isall_cut g2)))⟩⟩⟩
theorem ev_slT {lo hi : Option Expr} {l u : Option Int} {p : Pos} (h : EV X G S a (En (α := Tp α) xs) S1) (h1 : EO X G S1 lo l S2) (h2 : EO X G S2 hi u S3) : EV X G S (.Subscript a (.Slice lo hi none p) pos) (En (α := Tp α) (cutD xs l u)) S3 :=
  PE.imp (pe_slice sl_tupA h h1 h2) fun σ H Q ⟨ps, R, q⟩ => ⟨ps, R, fun v H1 ps1 R1 L1 A1 => ⟨ps1, R1, fun H2 ps2 R2 L2 => ⟨ps2, R2, fun H3 ps3 R3 L3 => by
    have A3 := (A1.mono L2).mono L3
    obtain ⟨p, vs, rfl, g1, g2⟩ := rd_t A3 (rfl : RdT _ (xs.map Enc.enc))
    have hl := g2.length
    rw [List.length_map] at hl
    refine ⟨p, vs, rfl, g1, fun ⟨e1, e2⟩ => ?_, fun _ l' hl => ?_⟩
    · have e : cutD xs l u = xs := by
        unfold cutD
        rw [← hl, e1, e2, List.drop_zero, Nat.sub_zero, hl, List.take_length]
      rw [e] at q
      exact q _ H3 ps3 R3 ((L1.trans L2).trans L3) A3
    · obtain ⟨R4, L4, n⟩ := new_dat (o := .tup (cutV vs l u)) R3 hl
      exact q _ _ ps3 R4 (((L1.trans L2).trans L3).trans L4) (.tup (.inl ⟨.inl upd_same, n⟩) (IsAll.mono L4.out _ (isall_cut g2)))⟩⟩⟩
end
/-! ### is, is not of truth values -/
theorem ev_isB {p q : Bool} (h1 : EV X G S a (En p) S1) (h2 : EV X G S1 b (En q) S2) : EV X G S (.Compare a [.Is] [b] pos) (En (decide (p = q))) S2 := ev_cmp op_is_bl h1 h2 (fun vx vy ps σ H Q R hx hy k => ⟨p, q, is_at hx, is_at hy, k _ H ps R Le.refl (.at _)⟩) (nomark _)
theorem et_isB {p q : Bool} (h1 : EV X G S a (En p) S1) (h2 : EV X G S1 b (En q) S2) : ET X G S (.Compare a [.Is] [b] pos) (decide (p = q)) S2 := et_cmp op_is_bl h1 h2 (fun vx vy ps σ H Q R hx hy k => ⟨p, q, is_at hx, is_at hy, k _ H ps R Le.refl (.at _)⟩) (nomark _)
theorem et_isnB {p q : Bool} (h1 : EV X G S a (En p) S1) (h2 : EV X G S1 b (En q) S2) : ET X G S (.Compare a [.IsNot] [b] pos) (!decide (p = q)) S2 := et_cmp op_isnot_bl h1 h2 (fun vx vy ps σ H Q R hx hy k => ⟨p, q, is_at hx, is_at hy, k _ H ps R Le.refl (.at _)⟩) (nomark _)
end
end Ab
set_option Elab.async false
set_option linter.all false
set_option maxRecDepth 100000
/-! Comprehensions of two clauses, such that change lists, dicts. -/
namespace Ab
open PySem PySem.Spec PyProof.Rows L2
section
variable {X : Cx} {K : PySem.W.Frag} {G : Gh} {S S1 S2 S3 : Ms} {a b c e : Expr} {es : List Expr} {x y z : A} {as : List A} {pos p2 apos : Pos} {ps ps' ps0 : Ps} {σ : L2.St} {H H' H0 : Hp} {v : V} {ds : List Dt} {n : Str} {k : Nat} {tg iter elt tg1 iter1 : Expr}

/-- what a comprehension gives that hands a state on: each turn gives something or nothing, and the state behind it -/
def lcRun {α β γ : Type} (step : α → γ → Option β × γ) : List α → γ → List β × γ
  | [], g => ([], g)
  | x :: xs, g => match step x g with
    | (some y, g') => let r := lcRun step xs g'; (y :: r.1, r.2)
    | (none, g') => lcRun step xs g'
def lcAt {α β γ : Type} (step : α → γ → Option β × γ) (xs : List α) (g : γ) (i : Nat) : List β × γ := lcRun step (xs.take i) g
theorem lcRun_snoc {α β γ : Type} (step : α → γ → Option β × γ) (x : α) : ∀ (xs : List α) (g : γ), lcRun step (xs ++ [x]) g = ((lcRun step xs g).1 ++ (step x (lcRun step xs g).2).1.toList, (step x (lcRun step xs g).2).2)
  | [], g => by
    show lcRun step [x] g = _
    unfold lcRun
    cases h : step x g with
    | mk o g' =>
      cases o with
      | none => simp [lcRun, h]
      | some y => simp [lcRun, h]
  | z :: xs, g => by
    show lcRun step (z :: (xs ++ [x])) g = _
    unfold lcRun
    cases h : step z g with
    | mk o g' =>
      cases o with
      | none => simp [lcRun_snoc step x xs g']
      | some y => simp [lcRun_snoc step x xs g']
theorem lcAt_succ {α β γ : Type} {step : α → γ → Option β × γ} {xs : List α} {g : γ} {i : Nat} {x : α} (h : xs[i]? = some x) : lcAt step xs g (i + 1) = ((lcAt step xs g i).1 ++ (step x (lcAt step xs g i).2).1.toList, (step x (lcAt step xs g i).2).2) := by
  unfold lcAt
  rw [List.take_add_one, h]
  exact lcRun_snoc step x _ g
theorem lcRun_len {α β γ : Type} (step : α → γ → Option β × γ) : ∀ (xs : List α) (g : γ), (lcRun step xs g).1.length ≤ xs.length
  | [], g => Nat.le_refl _
  | x :: xs, g => by
    unfold lcRun
    cases h : step x g with
    | mk o g' =>
      cases o with
      | none => have := lcRun_len step xs g'; simp; omega
      | some y => have := lcRun_len step xs g'; simp; omega

/-- [elt for tg in iter if ..] that changes lists on the way: the lists are cs g, g handed on -/
theorem lcM_any {M : TE → Prop} {α β γ : Type} [Enc α] [Enc β] {xs : List α} (step : α → γ → Option β × γ) (g0 : γ) (cs : γ → List C) (p : α → γ → Bool) (gm : α → γ → γ) {I : Ms → Prop} {sl' : α → List (Option A)} {ifs : List Expr} {scope : Scope} (own : List (Str × Nat)) (hM : LcM X tg iter elt ifs scope own M)
    (hi : EI X G S tg iter (xs.map Enc.enc) I S1) (h0 : S1.cs = cs g0) (hI : ∀ g c, I ⟨S1.sl, cs g ++ [c]⟩) (hz : xs.length ≤ 100000) (hlow : ∀ g n, Low n ⟨S1.sl, cs g0⟩ → Low n ⟨S1.sl, cs g⟩) (hcl : ∀ g, (cs g).length = (cs g0).length)
    (hst1 : ∀ x g, p x g = false → step x g = (none, gm x g)) (f : α → γ → β) (ge : α → γ → γ) (hst2 : ∀ x g, p x g = true → step x g = (some (f x (gm x g)), ge x (gm x g)))
    (hg : ∀ (s : Shared) (H : Hp) (Ca : Addr) (cl : List (Str × Addr)) (fp : List Addr) (x : α) (g : γ) (c : C), EG (X.blk s H scope (compEnvC scope cl Ca X.env) fp) G ⟨wipeA S1.sl (own.map (·.2)), cs g ++ [c]⟩ tg (En x) ⟨sl' x, cs g ++ [c]⟩ (own.map (·.2)))
    (ht : ∀ (s : Shared) (H : Hp) (Ca : Addr) (cl : List (Str × Addr)) (fp : List Addr) (i : Nat) (x : α) (c : C), xs[i]? = some x → ETs (X.blk s H scope (compEnvC scope cl Ca X.env) fp) G ⟨sl' x, cs (lcAt step xs g0 i).2 ++ [c]⟩ ifs (p x (lcAt step xs g0 i).2) ⟨sl' x, cs (gm x (lcAt step xs g0 i).2) ++ [c]⟩)
    (he : ∀ (s : Shared) (H : Hp) (Ca : Addr) (cl : List (Str × Addr)) (fp : List Addr) (i : Nat) (x : α) (c : C), xs[i]? = some x → p x (lcAt step xs g0 i).2 = true → EV (X.blk s H scope (compEnvC scope cl Ca X.env) fp) G ⟨sl' x, cs (gm x (lcAt step xs g0 i).2) ++ [c]⟩ elt (En (f x (gm x (lcAt step xs g0 i).2))) ⟨sl' x, cs (ge x (gm x (lcAt step xs g0 i).2)) ++ [c]⟩) : M (tEV X.K G S (En (lcRun step xs g0).1) ⟨S1.sl, cs (lcRun step xs g0).2⟩) := by
  have hg' : ∀ (s : Shared) (H : Hp) (Ca : Addr) (cl : List (Str × Addr)) (fp : List Addr), PG (X.blk s H scope (compEnvC scope cl Ca X.env) fp) tg (fun v σ H Q => ∃ (x : α) (g : γ) (c : C), tEG X.K G ⟨wipeA S1.sl (own.map (·.2)), cs g ++ [c]⟩ (En x) ⟨sl' x, cs g ++ [c]⟩ (own.map (·.2)) v σ H Q) := fun s H Ca cl fp =>
    ⟨fun pins s2 σ H2 v u Q I r ⟨x, g, c, q⟩ => (hg s H Ca cl fp x g c).run pins s2 σ H2 v u Q I r q⟩
  have ht' : ∀ (s : Shared) (H : Hp) (Ca : Addr) (cl : List (Str × Addr)) (fp : List Addr), PTs (X.blk s H scope (compEnvC scope cl Ca X.env) fp) ifs (fun σ H Q => ∃ (i : Nat) (x : α) (c : C), xs[i]? = some x ∧ tET X.K G ⟨sl' x, cs (lcAt step xs g0 i).2 ++ [c]⟩ (p x (lcAt step xs g0 i).2) ⟨sl' x, cs (gm x (lcAt step xs g0 i).2) ++ [c]⟩ σ H Q) := fun s H Ca cl fp =>
    ⟨fun pins s2 σ H2 Q I ⟨i, x, c, m, q⟩ => (ht s H Ca cl fp i x c m).run pins s2 σ H2 Q I q⟩
  have he' : ∀ (s : Shared) (H : Hp) (Ca : Addr) (cl : List (Str × Addr)) (fp : List Addr), PE (X.blk s H scope (compEnvC scope cl Ca X.env) fp) elt (fun σ H Q => ∃ (i : Nat) (x : α) (c : C), xs[i]? = some x ∧ p x (lcAt step xs g0 i).2 = true ∧ tEV X.K G ⟨sl' x, cs (gm x (lcAt step xs g0 i).2) ++ [c]⟩ (En (f x (gm x (lcAt step xs g0 i).2))) ⟨sl' x, cs (ge x (gm x (lcAt step xs g0 i).2)) ++ [c]⟩ σ H Q) := fun s H Ca cl fp =>
    ⟨fun pins s2 σ H2 Q I ⟨i, x, c, m, hp, q⟩ => (he s H Ca cl fp i x c m hp).run pins s2 σ H2 Q I q⟩
  refine hM.imp _ _ (hM.made _ _ _ _ hi hg' ht' he') fun σ H Q ⟨ps, R, q⟩ => ⟨ps, R, fun J H1 ps1 R1 L1 wk D hD => ?_⟩
  have eS1 : S1 = ⟨S1.sl, cs g0⟩ := by rw [← h0]
  let res : Nat → List Dt := fun i => (lcAt step xs g0 i).1.map Enc.enc
  have R1' : RelP X.K G ps1 ⟨S1.sl, cs g0⟩ σ H1 := eS1 ▸ R1
  obtain ⟨R2, L2⟩ := R1'.cell (o := .lst []) (c := .lst ((res 0).map .dat)) hD fun x => ⟨D, [], rfl, upd_same, .nil⟩
  have lo : Low ps1.length ⟨S1.sl, cs g0⟩ := R1'.low
  have hlen1 : ∀ g, ps1.length = (cs g).length := fun g => by rw [hcl g]; exact R1'.clen
  refine ⟨fun i m H3 => m = xs.length - i ∧ i ≤ xs.length ∧ RelP X.K G (ps1 ++ [some D]) ⟨S1.sl, cs (lcAt step xs g0 i).2 ++ [.lst ((res i).map .dat)]⟩ σ H3 ∧ Le G (ps1 ++ [some D]) (upd H1 D (.lst [])) (ps1 ++ [some D]) H3, ⟨xs.length, by omega, Nat.zero_le _, R2, Le.refl⟩, ?_⟩
  rintro i m H3 ⟨rfl, hi', R3, L3⟩
  obtain ⟨w1, w2⟩ := wk _ _ _ _ R3 (L2.trans L3) (hI _ _)
  by_cases hlt : i < xs.length
  · right
    have hx : xs[i]? = some xs[i] := List.getElem?_eq_getElem hlt
    obtain ⟨g1, g2⟩ := w2 i (Enc.enc xs[i]) (by rw [List.getElem?_map, hx]; rfl)
    refine ⟨g1, fun H4 => RelP X.K G (ps1 ++ [some D]) ⟨S1.sl, cs (lcAt step xs g0 (i + 1)).2 ++ [.lst ((res (i + 1)).map .dat)]⟩ σ H4 ∧ Le G (ps1 ++ [some D]) (upd H1 D (.lst [])) (ps1 ++ [some D]) H4, fun H4 ⟨n1, n2⟩ => ⟨xs.length - (i + 1), by omega, rfl, hlt, n1, n2⟩, fun v H4 hy => ?_⟩
    obtain ⟨hk, hv⟩ := g2 v H4 hy
    obtain ⟨R4, L4⟩ := R3.same hk
    have ln : ∀ {ps : Ps} {S : Ms} {σ : List (Option V)} {H : Hp} {g : γ} {c : C}, RelP X.K G ps S σ H → S.cs = cs g ++ [c] → ps.length = (ps1 ++ [some D]).length := fun {ps S σ H g c} R e => by
      rw [R.clen, e, List.length_append, List.length_append, hlen1 g]
      rfl
    refine ⟨xs[i], (lcAt step xs g0 i).2, .lst ((res i).map .dat), ps1 ++ [some D], R4.wipe _, hv, fun σ5 H5 ps5 R5 L5 hw => ⟨?_, ?_⟩⟩
    · have e := hw (own.map (·.2)) fun _ z => z
      rw [e]
      exact lc_any.wipe_wipe
    · have e5 := L5.eq (ln R5 rfl)
      subst e5
      refine ⟨i, xs[i], .lst ((res i).map .dat), hx, _, R5, fun H6 ps6 R6 L6 => ?_⟩
      have e6 := L6.eq (ln R6 rfl)
      subst e6
      have L46 := L4.trans (L5.trans L6)
      have es := lcAt_succ (step := step) (g := g0) hx
      cases hp : p xs[i] (lcAt step xs g0 i).2 with
      | false =>
        refine iteF ⟨?_, L3.trans L46⟩
        have e1 : lcAt step xs g0 (i + 1) = ((lcAt step xs g0 i).1, gm xs[i] (lcAt step xs g0 i).2) := by rw [es, hst1 _ _ hp]; simp
        have : res (i + 1) = res i := by show (lcAt step xs g0 (i + 1)).1.map Enc.enc = _; rw [e1]
        rw [this, e1]
        exact R6.reslot (S := S1) (Paired.mp R3.slots fun _ _ z => z.mono L46)
      | true =>
        refine iteT ⟨i, xs[i], .lst ((res i).map .dat), hx, hp, _, R6, fun y H7 ps7 R7 L7 A7 => ?_⟩
        have e7 := L7.eq (ln R7 rfl)
        subst e7
        have L47 := L46.trans L7
        have e1 : lcAt step xs g0 (i + 1) = ((lcAt step xs g0 i).1 ++ [f xs[i] (gm xs[i] (lcAt step xs g0 i).2)], ge xs[i] (gm xs[i] (lcAt step xs g0 i).2)) := by rw [es, hst2 _ _ hp]; rfl
        generalize hgE : ge xs[i] (gm xs[i] (lcAt step xs g0 i).2) = gE at *
        have hc7 : (ps1 ++ [some D])[(cs gE).length]? = some (some D) := by
          rw [← hlen1 gE, List.getElem?_append_right (Nat.le_refl _)]
          simp
        obtain ⟨q7, vs, e8, h1, h2⟩ := R7.cells (cs gE).length (some D) (.lst ((res i).map .dat)) hc7 (by show (cs gE ++ [_])[(cs gE).length]? = _; rw [List.getElem?_append_right (Nat.le_refl _)]; simp)
        cases e8
        have al := all_of h2
        have hlen : vs.length ≤ 100000 := by
          rw [al.length]
          show ((lcAt step xs g0 i).1.map Enc.enc).length ≤ _
          rw [List.length_map]
          have := lcRun_len step (xs.take i) g0
          rw [List.length_take] at this
          unfold lcAt
          omega
        refine ⟨vs, h1, Nat.lt_of_le_of_lt hlen (by decide), ?_⟩
        have R7' := R7.reslot (S := S1) (σ := σ) (Paired.mp R3.slots fun _ _ z => z.mono L47)
        have er : res (i + 1) = res i ++ [Enc.enc (f xs[i] (gm xs[i] (lcAt step xs g0 i).2))] := by
          show (lcAt step xs g0 (i + 1)).1.map Enc.enc = _
          rw [e1, List.map_append]
          rfl
        obtain ⟨R8, L8⟩ := R7'.write (o := .lst (vs ++ [y])) (c := .lst ((res (i + 1)).map .dat)) hc7 fun x => ⟨D, vs ++ [y], rfl, upd_same, by
          rw [er, List.map_append]
          exact Paired.app (Paired.mp h2 fun _ _ z => z.mono x) (.cons (A7.mono x) .nil)⟩
        refine ⟨?_, L3.trans (L47.trans L8)⟩
        have es2 : (cs gE ++ [C.lst ((res i).map .dat)]).set (cs gE).length (C.lst ((res (i + 1)).map .dat)) = cs gE ++ [C.lst ((res (i + 1)).map .dat)] := by
          rw [List.set_append_right _ _ (Nat.le_refl _)]
          simp
        have R8' : RelP X.K G (ps1 ++ [some D]) ⟨S1.sl, (cs gE ++ [C.lst ((res i).map .dat)]).set (cs gE).length (C.lst ((res (i + 1)).map .dat))⟩ σ (upd H7 D (.lst (vs ++ [y]))) := R8
        rw [es2] at R8'
        have e2 : (lcAt step xs g0 (i + 1)).2 = gE := by rw [e1]
        rw [e2]
        exact R8'
  · left
    have e : i = xs.length := by omega
    subst e
    refine ⟨by rw [List.length_map] at w1; exact w1, ?_⟩
    obtain ⟨R5, A5⟩ := R3.pop (ds := res xs.length) R1.bs (hlow _ _ lo)
    have el : lcAt step xs g0 xs.length = lcRun step xs g0 := by unfold lcAt; rw [List.take_length]
    have : res xs.length = (lcRun step xs g0).1.map Enc.enc := by show (lcAt step xs g0 xs.length).1.map Enc.enc = _; rw [el]
    rw [this] at A5
    rw [el] at R5
    exact q _ H3 ps1 R5 (L1.trans (L2.trans L3).cutD) A5
end
end Ab
set_option Elab.async false
set_option linter.all false
set_option maxRecDepth 100000
/-! Comprehensions of two clauses; the short form of those that change lists; dicts. -/
namespace Ab
open PySem PySem.Spec PyProof.Rows L2
section
variable {X : Cx} {K : PySem.W.Frag} {G : Gh} {S S1 S2 S3 : Ms} {a b c e : Expr} {es : List Expr} {x y z : A} {as : List A} {pos p2 apos : Pos} {ps ps' ps0 : Ps} {σ : L2.St} {H H' H0 : Hp} {v : V} {ds : List Dt} {n : Str} {k : Nat} {tg iter elt tg1 iter1 : Expr}

def lcStep {α β γ : Type} (p : α → γ → Bool) (gm : α → γ → γ) (f : α → γ → β) (ge : α → γ → γ) (x : α) (g : γ) : Option β × γ := cond (p x g) (some (f x (gm x g)), ge x (gm x g)) (none, gm x g)
theorem lcS_any {M : TE → Prop} {α β γ : Type} [Enc α] [Enc β] {xs : List α} (g0 : γ) (cs : γ → List C) (p : α → γ → Bool) (gm : α → γ → γ) (f : α → γ → β) (ge : α → γ → γ) {I : Ms → Prop} {sl' : α → List (Option A)} {ifs : List Expr} {scope : Scope} (own : List (Str × Nat)) (hM : LcM X tg iter elt ifs scope own M)
    (hi : EI X G S tg iter (xs.map Enc.enc) I S1) (h0 : S1.cs = cs g0) (hI : ∀ g c, I ⟨S1.sl, cs g ++ [c]⟩) (hz : xs.length ≤ 100000) (hlow : ∀ g n, Low n ⟨S1.sl, cs g0⟩ → Low n ⟨S1.sl, cs g⟩) (hcl : ∀ g, (cs g).length = (cs g0).length)
    (hg : ∀ (s : Shared) (H : Hp) (Ca : Addr) (cl : List (Str × Addr)) (fp : List Addr) (x : α) (g : γ) (c : C), EG (X.blk s H scope (compEnvC scope cl Ca X.env) fp) G ⟨wipeA S1.sl (own.map (·.2)), cs g ++ [c]⟩ tg (En x) ⟨sl' x, cs g ++ [c]⟩ (own.map (·.2)))
    (ht : ∀ (s : Shared) (H : Hp) (Ca : Addr) (cl : List (Str × Addr)) (fp : List Addr) (i : Nat) (x : α) (c : C), xs[i]? = some x → ETs (X.blk s H scope (compEnvC scope cl Ca X.env) fp) G ⟨sl' x, cs (lcAt (lcStep p gm f ge) xs g0 i).2 ++ [c]⟩ ifs (p x (lcAt (lcStep p gm f ge) xs g0 i).2) ⟨sl' x, cs (gm x (lcAt (lcStep p gm f ge) xs g0 i).2) ++ [c]⟩)
    (he : ∀ (s : Shared) (H : Hp) (Ca : Addr) (cl : List (Str × Addr)) (fp : List Addr) (i : Nat) (x : α) (c : C), xs[i]? = some x → p x (lcAt (lcStep p gm f ge) xs g0 i).2 = true → EV (X.blk s H scope (compEnvC scope cl Ca X.env) fp) G ⟨sl' x, cs (gm x (lcAt (lcStep p gm f ge) xs g0 i).2) ++ [c]⟩ elt (En (f x (gm x (lcAt (lcStep p gm f ge) xs g0 i).2))) ⟨sl' x, cs (ge x (gm x (lcAt (lcStep p gm f ge) xs g0 i).2)) ++ [c]⟩) : M (tEV X.K G S (En (lcRun (lcStep p gm f ge) xs g0).1) ⟨S1.sl, cs (lcRun (lcStep p gm f ge) xs g0).2⟩) :=
  lcM_any (lcStep p gm f ge) g0 cs p gm own hM hi h0 hI hz hlow hcl (fun x g h => by unfold lcStep; rw [h]; rfl) f ge (fun x g h => by unfold lcStep; rw [h]; rfl) hg ht he
/-- one list of one's own, the state handed on -/
theorem low_cl {α : Type} [Enc α] {n : Nat} {sl : List (Option A)} {g g' : List α} (h : Low n ⟨sl, [Cl g]⟩) : Low n ⟨sl, [Cl g']⟩ := by
  refine ⟨h.1, fun j as k e m => ?_⟩
  cases j with
  | zero =>
    cases e
    obtain ⟨d, _, e⟩ := List.mem_map.mp m
    cases e
  | succ j => simp at e

/-- where a comprehension of two clauses stands -/
structure LcM2 (X : Cx) (tg iter tg1 iter1 elt : Expr) (ifs ifs1 : List Expr) (scope : Scope) (own : List (Str × Nat)) (vs1 : List Nat) (M : TE → Prop) : Prop where
  imp : ∀ t t', M t → (∀ σ H Q, t' σ H Q → t σ H Q) → M t'
  made : ∀ (wi wi1 : TI) (g g1 : TG) (tt tt1 : TT) (te : TE), PI X tg iter wi → (∀ (s : Shared) (H : Hp) (Ca : Addr) (cl : List (Str × Addr)) (fp : List Addr), PG (X.blk s H scope (compEnvC scope cl Ca X.env) fp) tg g) →
    (∀ (s : Shared) (H : Hp) (Ca : Addr) (cl : List (Str × Addr)) (fp : List Addr), PTs (X.blk s H scope (compEnvC scope cl Ca X.env) fp) ifs tt) →
    (∀ (s : Shared) (H : Hp) (Ca : Addr) (cl : List (Str × Addr)) (fp : List Addr), PI (X.blk s H scope (compEnvC scope cl Ca X.env) fp) tg1 iter1 wi1) →
    (∀ (s : Shared) (H : Hp) (Ca : Addr) (cl : List (Str × Addr)) (fp : List Addr), PG (X.blk s H scope (compEnvC scope cl Ca X.env) fp) tg1 g1) →
    (∀ (s : Shared) (H : Hp) (Ca : Addr) (cl : List (Str × Addr)) (fp : List Addr), PTs (X.blk s H scope (compEnvC scope cl Ca X.env) fp) ifs1 tt1) →
    (∀ (s : Shared) (H : Hp) (Ca : Addr) (cl : List (Str × Addr)) (fp : List Addr), PE (X.blk s H scope (compEnvC scope cl Ca X.env) fp) elt te) → M (tLc2 wi g tt wi1 g1 tt1 te (own.map (·.2)) vs1)
theorem lcm2_pe {ifs ifs1 : List Expr} {scope : Scope} {own : List (Str × Nat)} {vs1 : List Nat} (hc : X.calm = true) (hN : X.N.Nodup) (ok : BlkOk X.N X.env.scope scope own) (hv : ∀ i ∈ vs1, i ∈ own.map (·.2)) (hs : ∀ x, foldedSetIterable iter X.env x = pure x := by intro _; rfl) (hs1 : ∀ env x, foldedSetIterable iter1 env x = pure x := by intro _ _; rfl) :
    LcM2 X tg iter tg1 iter1 elt ifs ifs1 scope own vs1 (PE X (.ListComp elt [⟨tg, iter, ifs, 0⟩, ⟨tg1, iter1, ifs1, 0⟩] scope pos)) := ⟨fun _ _ h f => PE.imp h f, fun _ _ _ _ _ _ _ hi hg ht hi1 hg1 ht1 he => pe_lc2 (own := own) (vs1 := vs1) hc hN hi ok hv hg ht hi1 hg1 ht1 he hs hs1⟩
theorem lcm2_set {ifs ifs1 : List Expr} {scope : Scope} {own : List (Str × Nat)} {vs1 : List Nat} {i : Nat} {y : Str} {py spos : Pos} (hc : X.calm = true) (hN : X.N.Nodup) (ok : BlkOk X.N X.env.scope scope own) (hv : ∀ i ∈ vs1, i ∈ own.map (·.2)) (hy : X.N[i]? = some y) (hyl : X.env.scope.names.lookup y = some .local)
    (hsw : swapsWith (.ListComp elt [⟨tg, iter, ifs, 0⟩, ⟨tg1, iter1, ifs1, 0⟩] scope pos) (some (.Name y py)) spos.line X.env = pure true) (hs : ∀ x, foldedSetIterable iter X.env x = pure x := by intro _; rfl) (hs1 : ∀ env x, foldedSetIterable iter1 env x = pure x := by intro _ _; rfl) :
    LcM2 X tg iter tg1 iter1 elt ifs ifs1 scope own vs1 (fun t => PS X (.Assign [.Name y py] (.ListComp elt [⟨tg, iter, ifs, 0⟩, ⟨tg1, iter1, ifs1, 0⟩] scope pos) spos) (tAsg t (gName i))) :=
  ⟨fun _ _ h f => ⟨fun pins s σ H D I q => h.run pins s σ H D I (f _ _ _ q)⟩, fun _ _ _ _ _ _ _ hi hg ht hi1 hg1 ht1 he => ps_setLc2 (own := own) (vs1 := vs1) hc hN hy hyl hsw hi ok hv hg ht hi1 hg1 ht1 he hs hs1⟩
/-- [elt for tg in iter if .. for tg1 in iter1 if ..], the state left as it was -/
theorem lc2_any {M : TE → Prop} {α β δ : Type} [Enc α] [Enc β] [Enc δ] {xs : List α} {p : α → Bool} {ys : α → List δ} {p1 : α → δ → Bool} {f : α → δ → β} {I : Ms → Prop} {I1 : α → Ms → Prop} {sl' : α → List (Option A)} {sl2 : α → δ → List (Option A)} {ifs ifs1 : List Expr} {scope : Scope} (own : List (Str × Nat)) (vs1 : List Nat) (hM : LcM2 X tg iter tg1 iter1 elt ifs ifs1 scope own vs1 M)
    (hi : EI X G S tg iter (xs.map Enc.enc) I S1) (hI : ∀ sl c, I ⟨sl, S1.cs ++ [c]⟩) (hz : (xs.flatMap ys).length ≤ 100000)
    (hg : ∀ (s : Shared) (H : Hp) (Ca : Addr) (cl : List (Str × Addr)) (fp : List Addr) (x : α) (c : C), EG (X.blk s H scope (compEnvC scope cl Ca X.env) fp) G ⟨wipeA S1.sl (own.map (·.2)), S1.cs ++ [c]⟩ tg (En x) ⟨sl' x, S1.cs ++ [c]⟩ (own.map (·.2)))
    (ht : ∀ (s : Shared) (H : Hp) (Ca : Addr) (cl : List (Str × Addr)) (fp : List Addr) (x : α) (c : C), x ∈ xs → ETs (X.blk s H scope (compEnvC scope cl Ca X.env) fp) G ⟨sl' x, S1.cs ++ [c]⟩ ifs (p x) ⟨sl' x, S1.cs ++ [c]⟩)
    (hi1 : ∀ (s : Shared) (H : Hp) (Ca : Addr) (cl : List (Str × Addr)) (fp : List Addr) (x : α) (c : C), x ∈ xs → p x = true → EI (X.blk s H scope (compEnvC scope cl Ca X.env) fp) G ⟨sl' x, S1.cs ++ [c]⟩ tg1 iter1 ((ys x).map Enc.enc) (I1 x) ⟨sl' x, S1.cs ++ [c]⟩) (hI1 : ∀ x sl c, I1 x ⟨sl, S1.cs ++ [c]⟩)
    (hg1 : ∀ (s : Shared) (H : Hp) (Ca : Addr) (cl : List (Str × Addr)) (fp : List Addr) (x : α) (y : δ) (c : C), EG (X.blk s H scope (compEnvC scope cl Ca X.env) fp) G ⟨wipeA (sl' x) vs1, S1.cs ++ [c]⟩ tg1 (En y) ⟨sl2 x y, S1.cs ++ [c]⟩ vs1)
    (ht1 : ∀ (s : Shared) (H : Hp) (Ca : Addr) (cl : List (Str × Addr)) (fp : List Addr) (x : α) (y : δ) (c : C), x ∈ xs → p x = true → y ∈ ys x → ETs (X.blk s H scope (compEnvC scope cl Ca X.env) fp) G ⟨sl2 x y, S1.cs ++ [c]⟩ ifs1 (p1 x y) ⟨sl2 x y, S1.cs ++ [c]⟩)
    (he : ∀ (s : Shared) (H : Hp) (Ca : Addr) (cl : List (Str × Addr)) (fp : List Addr) (x : α) (y : δ) (c : C), x ∈ xs → p x = true → y ∈ ys x → p1 x y = true → EV (X.blk s H scope (compEnvC scope cl Ca X.env) fp) G ⟨sl2 x y, S1.cs ++ [c]⟩ elt (En (f x y)) ⟨sl2 x y, S1.cs ++ [c]⟩) : M (tEV X.K G S (En ((xs.filter p).flatMap fun x => ((ys x).filter (p1 x)).map (f x))) S1) := by
  have hg' : ∀ (s : Shared) (H : Hp) (Ca : Addr) (cl : List (Str × Addr)) (fp : List Addr), PG (X.blk s H scope (compEnvC scope cl Ca X.env) fp) tg (fun v σ H Q => ∃ (x : α) (c : C), tEG X.K G ⟨wipeA S1.sl (own.map (·.2)), S1.cs ++ [c]⟩ (En x) ⟨sl' x, S1.cs ++ [c]⟩ (own.map (·.2)) v σ H Q) := fun s H Ca cl fp =>
    ⟨fun pins s2 σ H2 v u Q I r ⟨x, c, q⟩ => (hg s H Ca cl fp x c).run pins s2 σ H2 v u Q I r q⟩
  have ht' : ∀ (s : Shared) (H : Hp) (Ca : Addr) (cl : List (Str × Addr)) (fp : List Addr), PTs (X.blk s H scope (compEnvC scope cl Ca X.env) fp) ifs (fun σ H Q => ∃ (x : α) (c : C), x ∈ xs ∧ tET X.K G ⟨sl' x, S1.cs ++ [c]⟩ (p x) ⟨sl' x, S1.cs ++ [c]⟩ σ H Q) := fun s H Ca cl fp =>
    ⟨fun pins s2 σ H2 Q I ⟨x, c, m, q⟩ => (ht s H Ca cl fp x c m).run pins s2 σ H2 Q I q⟩
  have hi1' : ∀ (s : Shared) (H : Hp) (Ca : Addr) (cl : List (Str × Addr)) (fp : List Addr), PI (X.blk s H scope (compEnvC scope cl Ca X.env) fp) tg1 iter1 (fun σ H R => ∃ (x : α) (c : C), x ∈ xs ∧ p x = true ∧ tEI X.K G ⟨sl' x, S1.cs ++ [c]⟩ ((ys x).map Enc.enc) (I1 x) ⟨sl' x, S1.cs ++ [c]⟩ σ H R) := fun s H Ca cl fp =>
    ⟨fun pins s2 σ H2 R I ⟨x, c, m, hp, q⟩ => (hi1 s H Ca cl fp x c m hp).run pins s2 σ H2 R I q⟩
  have hg1' : ∀ (s : Shared) (H : Hp) (Ca : Addr) (cl : List (Str × Addr)) (fp : List Addr), PG (X.blk s H scope (compEnvC scope cl Ca X.env) fp) tg1 (fun v σ H Q => ∃ (x : α) (y : δ) (c : C), tEG X.K G ⟨wipeA (sl' x) vs1, S1.cs ++ [c]⟩ (En y) ⟨sl2 x y, S1.cs ++ [c]⟩ vs1 v σ H Q) := fun s H Ca cl fp =>
    ⟨fun pins s2 σ H2 v u Q I r ⟨x, y, c, q⟩ => (hg1 s H Ca cl fp x y c).run pins s2 σ H2 v u Q I r q⟩
  have ht1' : ∀ (s : Shared) (H : Hp) (Ca : Addr) (cl : List (Str × Addr)) (fp : List Addr), PTs (X.blk s H scope (compEnvC scope cl Ca X.env) fp) ifs1 (fun σ H Q => ∃ (x : α) (y : δ) (c : C), x ∈ xs ∧ p x = true ∧ y ∈ ys x ∧ tET X.K G ⟨sl2 x y, S1.cs ++ [c]⟩ (p1 x y) ⟨sl2 x y, S1.cs ++ [c]⟩ σ H Q) := fun s H Ca cl fp =>
    ⟨fun pins s2 σ H2 Q I ⟨x, y, c, m, hp, my, q⟩ => (ht1 s H Ca cl fp x y c m hp my).run pins s2 σ H2 Q I q⟩
  have he' : ∀ (s : Shared) (H : Hp) (Ca : Addr) (cl : List (Str × Addr)) (fp : List Addr), PE (X.blk s H scope (compEnvC scope cl Ca X.env) fp) elt (fun σ H Q => ∃ (x : α) (y : δ) (c : C), x ∈ xs ∧ p x = true ∧ y ∈ ys x ∧ p1 x y = true ∧ tEV X.K G ⟨sl2 x y, S1.cs ++ [c]⟩ (En (f x y)) ⟨sl2 x y, S1.cs ++ [c]⟩ σ H Q) := fun s H Ca cl fp =>
    ⟨fun pins s2 σ H2 Q I ⟨x, y, c, m, hp, my, hp1, q⟩ => (he s H Ca cl fp x y c m hp my hp1).run pins s2 σ H2 Q I q⟩
  refine hM.imp _ _ (hM.made _ _ _ _ _ _ _ hi hg' ht' hi1' hg1' ht1' he') fun σ H Q ⟨ps, R, q⟩ => ⟨ps, R, fun J H1 ps1 R1 L1 wk D hD => ?_⟩
  let row : α → List β := fun x => ((ys x).filter (p1 x)).map (f x)
  let resT : Nat → List β := fun i => ((xs.take i).filter p).flatMap row
  have row_len : ∀ x, (row x).length ≤ (ys x).length := fun x => by
    show (((ys x).filter (p1 x)).map (f x)).length ≤ _
    rw [List.length_map]
    exact List.length_filter_le _ _
  have fm_len : ∀ l : List α, ((l.filter p).flatMap row).length ≤ (l.flatMap ys).length := fun l => by
    induction l with
    | nil => exact Nat.le_refl _
    | cons x l ih =>
      rw [List.filter_cons, List.flatMap_cons, List.length_append]
      split
      · rw [List.flatMap_cons, List.length_append]
        have := row_len x
        omega
      · omega
  have total : ∀ i x, xs[i]? = some x → (resT i).length + (ys x).length ≤ 100000 := fun i x hx => by
    obtain ⟨hl, rfl⟩ := List.getElem?_eq_some_iff.mp hx
    have e : xs = xs.take i ++ xs[i] :: xs.drop (i + 1) := by
      rw [← List.drop_eq_getElem_cons hl, List.take_append_drop]
    have h1 : (xs.flatMap ys).length = ((xs.take i).flatMap ys).length + ((ys xs[i]).length + ((xs.drop (i + 1)).flatMap ys).length) := by
      conv => lhs; rw [e]
      rw [List.flatMap_append, List.flatMap_cons, List.length_append, List.length_append]
    have h2 := fm_len (xs.take i)
    show (((xs.take i).filter p).flatMap row).length + _ ≤ _
    omega
  let res : Nat → List Dt := fun i => (resT i).map Enc.enc
  have hsnoc : ∀ i x, xs[i]? = some x → resT (i + 1) = resT i ++ (if p x = true then row x else []) := fun i x hx => by
    show ((xs.take (i + 1)).filter p).flatMap row = _
    rw [filter_snoc hx, List.flatMap_append]
    congr 1
    split
    · simp
    · rfl
  obtain ⟨R2, L2⟩ := R1.cell (o := .lst []) (c := .lst ((res 0).map .dat)) hD fun x => ⟨D, [], rfl, upd_same, .nil⟩
  have lo : Low ps1.length S1 := R1.low
  have ln : ∀ {ps : Ps} {S : Ms} {σ : List (Option V)} {H : Hp} {c : C}, RelP X.K G ps S σ H → S.cs = S1.cs ++ [c] → ps.length = (ps1 ++ [some D]).length := fun {ps S σ H c} R e => by
    rw [R.clen, e, List.length_append, List.length_append, R1.clen]
    rfl
  have hcD : (ps1 ++ [some D])[S1.cs.length]? = some (some D) := by
    rw [← R1.clen, List.getElem?_append_right (Nat.le_refl _)]
    simp
  have set_last : ∀ (c c' : C), (S1.cs ++ [c]).set S1.cs.length c' = S1.cs ++ [c'] := fun c c' => by
    rw [List.set_append_right _ _ (Nat.le_refl _)]
    simp
  refine ⟨fun i m H3 => m = xs.length - i ∧ i ≤ xs.length ∧ RelP X.K G (ps1 ++ [some D]) ⟨S1.sl, S1.cs ++ [.lst ((res i).map .dat)]⟩ σ H3 ∧ Le G (ps1 ++ [some D]) (upd H1 D (.lst [])) (ps1 ++ [some D]) H3, ⟨xs.length, by omega, Nat.zero_le _, R2, Le.refl⟩, ?_⟩
  rintro i m H3 ⟨rfl, hi', R3, L3⟩
  obtain ⟨w1, w2⟩ := wk _ _ _ _ R3 (L2.trans L3) (hI _ _)
  by_cases hlt : i < xs.length
  · right
    have hx : xs[i]? = some xs[i] := List.getElem?_eq_getElem hlt
    have hm : xs[i] ∈ xs := List.getElem_mem hlt
    have htot := total i _ hx
    have hsn := hsnoc i _ hx
    generalize xs[i] = xi at *
    obtain ⟨g1, g2⟩ := w2 i (Enc.enc xi) (by rw [List.getElem?_map, hx]; rfl)
    refine ⟨g1, fun H4 => RelP X.K G (ps1 ++ [some D]) ⟨S1.sl, S1.cs ++ [.lst ((res (i + 1)).map .dat)]⟩ σ H4 ∧ Le G (ps1 ++ [some D]) (upd H1 D (.lst [])) (ps1 ++ [some D]) H4, fun H4 ⟨n1, n2⟩ => ⟨xs.length - (i + 1), by omega, rfl, hlt, n1, n2⟩, fun v H4 hy => ?_⟩
    obtain ⟨hk, hv'⟩ := g2 v H4 hy
    obtain ⟨R4, L4⟩ := R3.same hk
    refine ⟨xi, .lst ((res i).map .dat), ps1 ++ [some D], R4.wipe _, hv', fun σ5 H5 ps5 R5 L5 hw => ⟨?_, ?_⟩⟩
    · have e := hw (own.map (·.2)) fun _ z => z
      rw [e]
      exact lc_any.wipe_wipe
    · have e5 := L5.eq (ln R5 rfl)
      subst e5
      refine ⟨xi, .lst ((res i).map .dat), hm, _, R5, fun H6 ps6 R6 L6 => ?_⟩
      have e6 := L6.eq (ln R6 rfl)
      subst e6
      have L46 := L4.trans (L5.trans L6)
      cases hp : p xi with
      | false =>
        refine iteF ⟨?_, L3.trans L46⟩
        have : res (i + 1) = res i := by
          show (resT (i + 1)).map Enc.enc = (resT i).map Enc.enc
          rw [hsn, hp, if_neg (by decide), List.append_nil]
        rw [this]
        exact R6.reslot (S := S1) (Paired.mp R3.slots fun _ _ z => z.mono L46)
      | true =>
        refine iteT ⟨xi, .lst ((res i).map .dat), hm, hp, _, R6, fun J1 H7 ps7 R7 L7 wk1 => ?_⟩
        have e7 := L7.eq (ln R7 rfl)
        subst e7
        have L47 := L46.trans L7
        let in_ : Nat → List β := fun j => (((ys xi).take j).filter (p1 xi)).map (f xi)
        let rs : Nat → List Dt := fun j => (resT i ++ in_ j).map Enc.enc
        have rs0 : rs 0 = res i := by
          show (resT i ++ []).map Enc.enc = _
          rw [List.append_nil]
        refine ⟨fun j k H8 => k = (ys xi).length - j ∧ j ≤ (ys xi).length ∧ RelP X.K G (ps1 ++ [some D]) ⟨sl' xi, S1.cs ++ [.lst ((rs j).map .dat)]⟩ σ5 H8 ∧ Le G (ps1 ++ [some D]) H7 (ps1 ++ [some D]) H8, ⟨(ys xi).length, by omega, Nat.zero_le _, by rw [rs0]; exact R7, Le.refl⟩, ?_⟩
        rintro j k H8 ⟨rfl, hj', R8, L8⟩
        obtain ⟨v1, v2⟩ := wk1 _ _ _ _ R8 L8 (hI1 _ _ _)
        by_cases hlj : j < (ys xi).length
        · right
          have hy2 : (ys xi)[j]? = some (ys xi)[j] := List.getElem?_eq_getElem hlj
          have hmy : (ys xi)[j] ∈ ys xi := List.getElem_mem hlj
          generalize (ys xi)[j] = yj at *
          obtain ⟨k1, k2⟩ := v2 j (Enc.enc yj) (by rw [List.getElem?_map, hy2]; rfl)
          refine ⟨k1, fun H9 => RelP X.K G (ps1 ++ [some D]) ⟨sl' xi, S1.cs ++ [.lst ((rs (j + 1)).map .dat)]⟩ σ5 H9 ∧ Le G (ps1 ++ [some D]) H7 (ps1 ++ [some D]) H9, fun H9 ⟨n1, n2⟩ => ⟨(ys xi).length - (j + 1), by omega, rfl, hlj, n1, n2⟩, fun v H9 hyy => ?_⟩
          obtain ⟨hk9, hv9⟩ := k2 v H9 hyy
          obtain ⟨R9, L9⟩ := R8.same hk9
          have R9w : RelP X.K G (ps1 ++ [some D]) ⟨wipeA (sl' xi) vs1, S1.cs ++ [.lst ((rs j).map .dat)]⟩ (wipe σ5 vs1) H9 := R9.wipe vs1
          refine ⟨xi, yj, .lst ((rs j).map .dat), ps1 ++ [some D], R9w, hv9, fun σa Ha psa Ra La hwa => ⟨?_, ?_⟩⟩
          · have e := hwa vs1 fun _ z => z
            rw [e]
            exact lc_any.wipe_wipe
          · have ea := La.eq (ln Ra rfl)
            subst ea
            refine ⟨xi, yj, .lst ((rs j).map .dat), hm, hp, hmy, _, Ra, fun Hb psb Rb Lb => ?_⟩
            have eb := Lb.eq (ln Rb rfl)
            subst eb
            have L9b := L9.trans (La.trans Lb)
            have hin : in_ (j + 1) = in_ j ++ (if p1 xi yj = true then [f xi yj] else []) := by
              show (((ys xi).take (j + 1)).filter (p1 xi)).map (f xi) = _
              rw [filter_snoc hy2, List.map_append]
              congr 1
              split <;> rfl
            cases hp1 : p1 xi yj with
            | false =>
              refine iteF ⟨?_, L8.trans L9b⟩
              have : rs (j + 1) = rs j := by
                show (resT i ++ in_ (j + 1)).map Enc.enc = _
                rw [hin, hp1, if_neg (by decide), List.append_nil]
              rw [this]
              exact Rb.reslot (S := ⟨sl' xi, S1.cs⟩) (Paired.mp R8.slots fun _ _ z => z.mono L9b)
            | true =>
              refine iteT ⟨xi, yj, .lst ((rs j).map .dat), hm, hp, hmy, hp1, _, Rb, fun z Hc psc Rc Lc Ac => ?_⟩
              have ec := Lc.eq (ln Rc rfl)
              subst ec
              have L9c := L9b.trans Lc
              obtain ⟨qc, vsc, e8, h1, h2⟩ := Rc.cells S1.cs.length (some D) (.lst ((rs j).map .dat)) hcD (by show (S1.cs ++ [_])[S1.cs.length]? = _; rw [List.getElem?_append_right (Nat.le_refl _)]; simp)
              cases e8
              have al := all_of h2
              have hlen : vsc.length ≤ 100000 := by
                rw [al.length]
                show ((resT i ++ in_ j).map Enc.enc).length ≤ _
                rw [List.length_map, List.length_append]
                have hq : (in_ j).length ≤ (ys xi).length := by
                  show ((((ys xi).take j).filter (p1 xi)).map (f xi)).length ≤ _
                  rw [List.length_map]
                  have := List.length_filter_le (p1 xi) ((ys xi).take j)
                  rw [List.length_take] at this
                  omega
                omega
              refine ⟨vsc, h1, Nat.lt_of_le_of_lt hlen (by decide), ?_⟩
              have Rc' := Rc.reslot (S := ⟨sl' xi, S1.cs⟩) (σ := σ5) (Paired.mp R8.slots fun _ _ z => z.mono L9c)
              have er : rs (j + 1) = rs j ++ [Enc.enc (f xi yj)] := by
                show (resT i ++ in_ (j + 1)).map Enc.enc = _
                rw [hin, hp1, if_pos rfl, ← List.append_assoc, List.map_append]
                rfl
              obtain ⟨Rd, Ld⟩ := Rc'.write (o := .lst (vsc ++ [z])) (c := .lst ((rs (j + 1)).map .dat)) hcD fun x => ⟨D, vsc ++ [z], rfl, upd_same, by
                rw [er, List.map_append]
                exact Paired.app (Paired.mp h2 fun _ _ z => z.mono x) (.cons (Ac.mono x) .nil)⟩
              refine ⟨?_, L8.trans (L9c.trans Ld)⟩
              have Rd' : RelP X.K G (ps1 ++ [some D]) ⟨sl' xi, (S1.cs ++ [C.lst ((rs j).map .dat)]).set S1.cs.length (C.lst ((rs (j + 1)).map .dat))⟩ σ5 (upd Hc D (.lst (vsc ++ [z]))) := Rd
              rw [set_last] at Rd'
              exact Rd'
        · left
          have e : j = (ys xi).length := by omega
          subst e
          have L48 := L47.trans L8
          refine ⟨by rw [List.length_map] at v1; exact v1, ?_, L3.trans L48⟩
          have : res (i + 1) = rs (ys xi).length := by
            show (resT (i + 1)).map Enc.enc = (resT i ++ in_ (ys xi).length).map Enc.enc
            rw [hsn, hp, if_pos rfl]
            show _ = (resT i ++ (((ys xi).take (ys xi).length).filter (p1 xi)).map (f xi)).map Enc.enc
            rw [List.take_length]
          rw [this]
          exact R8.reslot (S := S1) (Paired.mp R3.slots fun _ _ z => z.mono L48)
  · left
    have e : i = xs.length := by omega
    subst e
    refine ⟨by rw [List.length_map] at w1; exact w1, ?_⟩
    obtain ⟨R5, A5⟩ := R3.pop (ds := res xs.length) R1.bs lo
    refine q _ H3 ps1 R5 (L1.trans (L2.trans L3).cutD) ?_
    have : res xs.length = ((xs.filter p).flatMap row).map Enc.enc := by
      show (((xs.take xs.length).filter p).flatMap row).map Enc.enc = _
      rw [List.take_length]
    rw [this] at A5
    exact A5
end
end Ab
set_option Elab.async false
set_option linter.all false
set_option maxRecDepth 100000
/-! set(a list of ints); sorted of it. (The road of set_of_ints is HandS.SetFor's, for a list in the place of a tuple.) -/
namespace Ab
open PySem PySem.Spec PyProof.Rows L2
abbrev noSet (w : World) : Obj := { cls := .type "set", dict := none, data := .set #[] 0 (.fresh 0 0 (!w.params.followText "set-order")) }
abbrev withSet (w : World) (s : Shared) : Heap := s.heap.push (noSet w)
section
variable {P : Program} {w : World} {A : Around} {E : Value → Shared → Prop} {s : Shared}
set_option maxRecDepth 100000 in
set_option maxHeartbeats 3200000 in
theorem set_of_ints {l : Addr} {items : Array Value} (ns : List Int) {Q : Value → Shared → Prop} (hh : A.handled = none) (hl : s.heap.IsList l items) (hit : IntsAre items.toList ns) (hb : ns.length + 1 < scanBound)
    (h : ∀ (h' : Heap) (tk c : Nat), SetR w h' s.heap.objs.size (fun j => decide (j ∈ ns)) c → c ≤ ns.length → (∀ b o, s.heap.get? b = some o → h'.get? b = some o) → Q (.ref s.heap.objs.size) { s with heap := h', toks := tk }) :
    wpAny (model P w) A (call (.type "set") [.ref l]) Q E s := by
  have hisz : items.size = ns.length := by
    have q := IntsAre.length hit
    rw [Array.length_toList] at q
    exact q
  obtain ⟨c, tl, hmro⟩ := F.called_set.mro
  have hmade := F.called_set.made
  have hsub := F.called_set.sub
  refine wpAny_call (codeAny_of_tree ?_)
  show wpAny _ _ (callAny (.type "set") _) _ _ _
  refine wpAny_pure ⟨Code.quiet_builtin _ (by decide +kernel), codeAny_builtin F.entry_type_call ?_⟩
  rw [Around.under_plain (weight_type_call_type "set" [.ref l] []) rfl]
  have h1 := F.called_set.notType
  have h2 := F.called_set.canCreate
  have hct := F.typeCall_set_1 (.ref l)
  repeat (any_goals (first | assumption | wp_step))

  refine codeAny_mono (code_set_led1 (.ref l) (E := E) (Q₁ := fun obj s₁ => obj = .ref s.heap.objs.size ∧ s₁ = { s with heap := withSet w s }) ⟨rfl, rfl⟩) fun r s₁ hr => ?_
  cases r with
  | error e => exact hr
  | ok fl =>
    cases fl with
    | ret obj =>
      obtain ⟨rfl, rfl⟩ := hr
      have hS : (withSet w s).get? s.heap.objs.size = some (noSet w) := Heap.get?_push_size _ rfl
      have hT : Shared.TypeIs { s with heap := withSet w s } (.ref s.heap.objs.size) "set" := ⟨_, hS, rfl⟩
      have hli := F.called_set.init.lookup
      have hbi := F.called_set.init.bind (.ref s.heap.objs.size)
      repeat (any_goals (first | assumption | wp_step))

      refine codeAny_mono (codeAny_call_builtin (R := wants (fun r s₂ => r = .none ∧ ∃ h' tk c, s₂ = { s with heap := h', toks := tk } ∧ SetR w h' s.heap.objs.size (fun j => decide (j ∈ ns)) c ∧ c ≤ ns.length ∧
          (∀ b o, s.heap.get? b = some o → h'.get? b = some o)) E) F.called_set.init.plain F.entry_set_init (check_set_init_1 hT ?_)) fun r₂ s₂ hr₂ => ?_
      · obtain ⟨ol, hol, hcl, nl, hdl⟩ := hl
        obtain ⟨ocls, odict, odata, oslots⟩ := ol
        simp only at hcl hdl
        subst hcl; subst hdl
        have hol' : (withSet w s).get? l = some { cls := .type "list", dict := odict, data := .seq items nl, slots := oslots } := Heap.get?_push_of_some _ hol
        have hsls := F.sub_list_set
        have hslf := F.sub_list_frozenset
        have hne : (Value.type "list" == Value.type "dict") = false := by decide
        have hl1 : (withSet w s).IsList l items := ⟨_, hol', rfl, nl, rfl⟩
        unfold Builtin.«set.__init__» noKeywords Builtin.Frozenset.updateFrom
        generalize hPI : pyIter = PI
        wp_walk
        subst hPI

        refine wpAny_pyIter_list hl1 ?_
        refine wpAny_bind (wpAny_runValue ?_)
        have hlS : l < s.heap.objs.size := Heap.lt_size hol
        have hh3 : A.in1.in1.in1.handled = none := by simp [hh]
        have hz1 : (withSet w s).objs.size = s.heap.objs.size + 1 := Heap.size_push ..
        have hneI : l ≠ (withSet w s).objs.size := by
          rw [Heap.size_push]; exact Nat.ne_of_lt (Nat.lt_succ_of_lt hlS)
        have hSf : s.heap.objs.size ∉ [(withSet w s).objs.size, l] := by
          rw [Heap.size_push]; simp only [List.mem_cons, List.mem_singleton, List.not_mem_nil, or_false, not_or]
          exact ⟨Nat.ne_of_lt (Nat.lt_succ_self _), Nat.ne_of_gt hlS⟩
        have hval : ∀ (i : Nat) (v : Value), items[i]? = some v → ∃ k t, ns[i]? = some k ∧ v = .int k t := fun i v hv => by
          have hi : i < ns.length := by rw [← hisz]; exact (Array.getElem?_eq_some_iff.mp hv).1
          obtain ⟨t, e⟩ := PyProof.Rows.IntsAre.int_at hit i v (by rw [Array.getElem?_toList]; exact hv)
          refine ⟨ns[i], t, List.getElem?_eq_getElem hi, ?_⟩
          rw [e, List.getD_eq_getElem?_getD, List.getElem?_eq_getElem hi] <;> rfl
        refine set_update_ints ((Walks.list hh3 _ l hneI items).toS) s.heap.objs.size
          hSf ns hisz hb hval (items.size - 0) 0 _ (by omega) (Nat.zero_le _)
          ⟨⟨_, Heap.get?_push_size _ rfl, rfl, rfl⟩, (hl1.push _)⟩ ?hS0 ?hR
        case hS0 =>
          have hget : ((withSet w s).push { cls := .type "list_iterator", data := .fields #[.ref l, .int 0 0] }).get? s.heap.objs.size
              = some (noSet w) := Heap.get?_push_of_some _ hS
          exact ⟨0, Nat.le_refl 0, setR_new_at hget⟩
        case hR =>
          intro s' c' hm hc' hS'
          obtain ⟨h', g2, d', tk', os'⟩ := s'
          have eg : g2 = s.gens := hm.gens
          have ed : d' = s.drawn := hm.drawn
          have eo : os' = s.os := hm.os
          subst eg; subst ed; subst eo
          show wpAny _ _ _ _ _ _
          refine wpAny_pure ?_
          show wpAny _ _ (ret Value.none) _ _ _
          rw [hisz] at hc'
          refine wpAny_pure ⟨rfl, h', tk', c', rfl, hS', hc', fun b o e => ?_⟩
          have hb0 : b < s.heap.objs.size := Heap.lt_size e
          have hb1 : b ≠ s.heap.objs.size := Nat.ne_of_lt hb0
          have hb2 : b ≠ (withSet w s).objs.size := by
            rw [Heap.size_push]; exact Nat.ne_of_lt (Nat.lt_succ_of_lt hb0)
          exact hm.heap b o (by simp only [List.mem_cons, List.mem_singleton, List.not_mem_nil, or_false, not_or]; exact ⟨hb1, hb2⟩) (Heap.get?_push_of_some _ (Heap.get?_push_of_some _ e))

      · cases r₂ with
        | error e => exact hr₂
        | ok fl₂ =>
          cases fl₂ with
          | ret r =>
            obtain ⟨rfl, h', tk, c', rfl, hS', hc', hk'⟩ := hr₂
            repeat (any_goals (first | assumption | wp_step))
            exact h _ _ _ hS' hc' hk'
          | _ => exact hr₂.elim
    | _ => exact hr.elim

end
end Ab
set_option Elab.async false
set_option linter.all false
set_option maxRecDepth 100000
/-! Sets of ints, sorted; dicts. -/
namespace Ab
open PySem PySem.Spec PyProof.Rows L2
section
variable {X : Cx} {K : PySem.W.Frag} {G : Gh} {S S1 S2 S3 : Ms} {a b c e : Expr} {es : List Expr} {x y z : A} {as : List A} {pos p2 p3 apos pos' : Pos} {ps ps' ps0 : Ps} {σ : L2.St} {H H' H0 : Hp} {v : V} {ds : List Dt} {n : Str} {k : Nat}

/-! ### sorted(set([..])) -/
theorem cr_setL (hc : X.calm = true) : CallR X (.type "set") (fun xs H Q => ∃ (l : Addr) (ns : List Int), xs = [.ref l] ∧ SqL X.K H l (ns.map V.int) ∧ ns.length ≤ 1000 ∧
    ∀ (p : Addr) (c : Nat), H p = none → c ≤ ns.length → Q (.ref p) (upd H p (SetO X.w p (fun k => decide (k ∈ ns)) c))) := by
  intro pins s σ H vs us Q I r h
  obtain ⟨l, ns, rfl, hs, hl, q⟩ := h
  obtain ⟨its, rv, pl, hz⟩ := I.list hs
  rw [Vals.ref1 r]
  refine set_of_ints ns (I.ok.hd hc) pl.isList (by simpa using rv.ints) (Nat.lt_of_le_of_lt (Nat.succ_le_succ hl) (by decide)) fun h' tk c hS hle hk => ?_
  exact ⟨.ref _, _, I.laid (t' := tk) hk (Nat.le_refl _) (setO_new hS), rfl, q _ c (I.hok.fresh (Nat.le_refl _)) hle⟩
def dedup : List Int → List Int
  | [] => []
  | x :: xs => if x ∈ xs then dedup xs else x :: dedup xs
theorem mem_dedup {k : Int} : ∀ {xs : List Int}, k ∈ dedup xs ↔ k ∈ xs
  | [] => by simp [dedup]
  | x :: xs => by
    unfold dedup
    have ih := mem_dedup (k := k) (xs := xs)
    split
    · rename_i h
      rw [ih, List.mem_cons]
      exact ⟨.inr, fun z => z.elim (fun e => e ▸ h) id⟩
    · rw [List.mem_cons, List.mem_cons, ih]
theorem nodup_dedup : ∀ xs : List Int, (dedup xs).Nodup
  | [] => List.nodup_nil
  | x :: xs => by
    unfold dedup
    split
    · exact nodup_dedup xs
    · rename_i h
      exact List.nodup_cons.mpr ⟨fun z => h (mem_dedup.mp z), nodup_dedup xs⟩
/-- the members, ascending -/
def setI (xs : List Int) : List Int := sortI (dedup xs)
theorem mem_setI {xs : List Int} {k : Int} : k ∈ setI xs ↔ k ∈ xs := by
  unfold setI
  rw [(sortI_perm _).mem_iff]
  exact mem_dedup
theorem setI_sorted (xs : List Int) : (setI xs).Pairwise (· < ·) := by
  have h1 := sortI_sorted (dedup xs)
  have h2 : (sortI (dedup xs)).Nodup := (sortI_perm _).nodup_iff.mpr (nodup_dedup xs)
  exact (h1.and h2).imp fun ⟨h, n⟩ => by omega
theorem setI_uniq {xs ys : List Int} (h1 : xs.Pairwise (· < ·)) (h2 : ∀ k, k ∈ xs ↔ k ∈ ys) : xs = setI ys := by
  have n1 : xs.Nodup := h1.imp fun h => by omega
  have n2 : (setI ys).Nodup := (setI_sorted ys).imp fun h => by omega
  have hp : xs.Perm (setI ys) := (List.perm_ext_iff_of_nodup n1 n2).mpr fun k => by rw [h2, mem_setI]
  exact sort_uniq hp (h1.imp fun h => by omega) ((setI_sorted ys).imp fun h => by omega)
theorem ev_sortSet {is : List Int} (hc : X.calm = true) (hm : X.mg "sorted" = none) (hm2 : X.mg "set" = none) (h : EV X G S a x S1) (r : RdL S1 x (is.map Enc.enc)) (hl : is.length < 64) (hg : Gl X "sorted" := by rfl) (hg2 : Gl X "set" := by rfl)
    (he : starEach [a] X.env = (false, eval a X.env) :: starEach [] X.env := by rfl) (hpl : (backTo pos' (starEach [] X.env)).any (·.1) = false := by rfl)
    (he2 : starEach [.Call (.Name "set" p3) [a] [] pos'] X.env = (false, eval (.Call (.Name "set" p3) [a] [] pos') X.env) :: starEach [] X.env := by rfl) (hpl2 : (backTo pos (starEach [] X.env)).any (·.1) = false := by rfl) :
    EV X G S (.Call (.Name "sorted" p2) [.Call (.Name "set" p3) [a] [] pos'] [] pos) (En (setI is)) S1 :=
  PE.imp (pe_callB (cr_sortedSet hc) hg hm (by decide +kernel) (pa_cons (pe_callTy (cr_setL hc) hg2 hm2 (by decide +kernel) (ea_cons h ea_nil he) (by decide) (by decide) he hpl) pa_nil he2) (by decide) (by decide) he2 hpl2) fun σ H Q ⟨ps, R, q⟩ => ⟨ps, R, fun vs H1 ps1 R1 L1 A1 => by
    obtain ⟨v, rfl, h1⟩ := p1 A1
    obtain ⟨q0, ys, rfl, h2, h3⟩ := R1.rdl h1 r
    rw [ints_of h3] at h2
    refine ⟨q0, is, rfl, h2, by omega, fun p c hp hle => ⟨p, _, c, rfl, upd_same, by omega, fun ns p' k1 k2 k3 hp' => ?_⟩⟩
    obtain ⟨R2, L2, n2⟩ := new_dat (o := SetO X.w p (fun k => decide (k ∈ is)) c) R1 hp
    obtain ⟨R3, L3, n3⟩ := new_dat (o := .lst (ns.map V.int)) R2 hp'
    have e : ns = setI is := setI_uniq k1 fun k => by rw [k2]; simp
    refine q _ _ ps1 R3 ((L1.trans L2).trans L3) ?_
    rw [← e]
    exact .lst upd_same n3 all_ints⟩

/-! ### dicts -/
section
variable {α : Type} [Enc α] {d : List (Int × α)} {i : Int} {u : α}
def dput {α : Type} (d : List (Int × α)) (k : Int) (v : α) : List (Int × α) := if (d.any fun p => decide (p.1 = k)) = true then d.map (fun p => if p.1 = k then (p.1, v) else p) else d ++ [(k, v)]
def dgetO {α : Type} (d : List (Int × α)) (k : Int) : Option α := (d.find? fun p => decide (p.1 = k)).map (·.2)
def ddel {α : Type} (d : List (Int × α)) (k : Int) : List (Int × α) := d.filter fun p => decide (p.1 ≠ k)
def kD {α : Type} [Enc α] (d : List (Int × α)) : List (Key × Dt) := d.map fun p => ((Sum.inl p.1 : Key), Enc.enc p.2)
abbrev Ck {α : Type} [Enc α] (d : List (Int × α)) : C := .dk (kD d)
theorem kv_len {O : Ex} : ∀ {vs : List (Key × V)} {d : List (Int × α)}, IsKV K H O vs (kD d) → vs.length = d.length
  | [], [], _ => rfl
  | _ :: vs, _ :: d, .cons _ t => by simp [kv_len t]
  | [], _ :: _, h => nomatch h
  | _ :: _, [], h => nomatch h
theorem kv_keys {O : Ex} : ∀ {vs : List (Key × V)} {d : List (Int × α)}, IsKV K H O vs (kD d) → vs.map (·.1) = (d.map (·.1)).map Sum.inl
  | [], [], _ => rfl
  | (_, _) :: vs, (_, _) :: d, h => by
    cases h with
    | cons _ t => simp [kv_keys t]
  | [], _ :: _, h => nomatch h
  | _ :: _, [], h => nomatch h
theorem kv_any {O : Ex} {k : Int} : ∀ {vs : List (Key × V)} {d : List (Int × α)}, IsKV K H O vs (kD d) → (vs.any fun kv => decide (kv.1 = (Sum.inl k : Key))) = d.any fun p => decide (p.1 = k)
  | [], [], _ => rfl
  | (_, _) :: vs, (j, _) :: d, h => by
    cases h with
    | cons _ t =>
      rw [List.any_cons, List.any_cons, kv_any t]
      congr 1
      by_cases e : j = k
      · subst e; simp
      · have : ¬ (Sum.inl j : Key) = Sum.inl k := fun z => e (Sum.inl.inj z)
        rw [decide_eq_false this, decide_eq_false e]
  | [], _ :: _, h => nomatch h
  | _ :: _, [], h => nomatch h
theorem kv_app {O : Ex} : ∀ {vs ws : List (Key × V)} {d f : List (Key × Dt)}, IsKV K H O vs d → IsKV K H O ws f → IsKV K H O (vs ++ ws) (d ++ f)
  | _, _, _, _, .nil, h => h
  | _, _, _, _, .cons h1 t, h => .cons h1 (kv_app t h)
theorem kv_put {O : Ex} {vs : List (Key × V)} {w : V} (h : IsKV K H O vs (kD d)) (hw : Is K H O w (Enc.enc u)) : IsKV K H O (putK vs (Sum.inl i) w) (kD (dput d i u)) := by
  unfold putK dput
  rw [kv_any h]
  by_cases e : (d.any fun p => decide (p.1 = i)) = true
  · rw [if_pos e, if_pos e]
    clear e
    have go : ∀ {vs : List (Key × V)} {d : List (Int × α)}, IsKV K H O vs (kD d) → IsKV K H O (vs.map fun kv => if kv.1 = (Sum.inl i : Key) then (kv.1, w) else kv) (kD (d.map fun p => if p.1 = i then (p.1, u) else p)) := by
      intro vs d h
      induction d generalizing vs with
      | nil => cases h; exact .nil
      | cons p d ih =>
        obtain ⟨j, y⟩ := p
        cases h with
        | cons h1 t =>
          by_cases e : j = i
          · subst e
            simp only [List.map_cons, if_pos]
            exact .cons hw (ih t)
          · have e' : ¬ (Sum.inl j : Key) = Sum.inl i := fun z => e (Sum.inl.inj z)
            simp only [List.map_cons, if_neg e, if_neg e']
            exact .cons h1 (ih t)
    exact go h
  · rw [if_neg e, if_neg e]
    unfold kD
    rw [List.map_append]
    exact kv_app h (.cons hw .nil)
theorem kv_get {O : Ex} : ∀ {vs : List (Key × V)} {d : List (Int × α)}, IsKV K H O vs (kD d) → dgetO d i = some u → ∃ w, valV vs (Sum.inl i) = some w ∧ Is K H O w (Enc.enc u)
  | [], [], _, e => by simp [dgetO] at e
  | (_, w) :: vs, (j, y) :: d, h, e => by
    cases h with
    | cons h1 t =>
      by_cases q : j = i
      · subst q
        have : dgetO ((j, y) :: d) j = some y := by simp [dgetO]
        rw [this] at e
        cases e
        exact ⟨w, valV_pos rfl, h1⟩
      · have e1 : dgetO ((j, y) :: d) i = dgetO d i := by simp [dgetO, List.find?_cons, q]
        rw [e1] at e
        obtain ⟨w', k1, k2⟩ := kv_get t e
        exact ⟨w', by rw [valV_neg fun z => q (Sum.inl.inj z)]; exact k1, k2⟩
  | [], _ :: _, h, _ => nomatch h
  | _ :: _, [], h, _ => nomatch h
theorem kv_del {O : Ex} : ∀ {vs : List (Key × V)} {d : List (Int × α)}, IsKV K H O vs (kD d) → IsKV K H O (dropK vs (Sum.inl i)) (kD (ddel d i))
  | [], [], _ => .nil
  | (_, w) :: vs, (j, y) :: d, h => by
    cases h with
    | cons h1 t =>
      have ih := kv_del t
      unfold dropK ddel at ih ⊢
      by_cases q : j = i
      · subst q
        simpa [List.filter_cons] using ih
      · have e' : ¬ (Sum.inl j : Key) = Sum.inl i := fun z => q (Sum.inl.inj z)
        rw [List.filter_cons, List.filter_cons, if_pos (by simpa using e'), if_pos (by simpa using q)]
        exact .cons h1 ih
  | [], _ :: _, h => nomatch h
  | _ :: _, [], h => nomatch h
/-- a dict of one's own, empty -/
theorem ev_dnewC : EV X G S (.Dict [] [] pos) (.cell S.cs.length) ⟨S.sl, S.cs ++ [.dk []]⟩ :=
  PE.imp pe_dnewK fun σ H Q ⟨ps, R, q⟩ => fun p hp => by
    obtain ⟨R2, L2⟩ := R.cell (o := .dK []) (c := .dk []) hp fun x => ⟨p, [], rfl, upd_same, .nil⟩
    exact q _ _ _ R2 L2 ⟨p, by rw [← R.clen, List.getElem?_append_right (Nat.le_refl _)]; simp, rfl⟩
theorem cellD_of (R : RelP K G ps S σ H) (h : AIs K G ps H v (.cell k)) {kd : List (Key × Dt)} (hk : S.cs[k]? = some (.dk kd)) : ∃ p vs, v = .ref p ∧ ps[k]? = some (some p) ∧ H p = some (.dK vs) ∧ IsKV K H (Out G ps) vs kd := by
  obtain ⟨p, e1, rfl⟩ := h
  obtain ⟨q, vs, e2, h1, h2⟩ := R.cells k _ _ e1 hk
  cases e2
  exact ⟨p, vs, rfl, e1, h1, h2⟩
/-- d[i] = e, a dict of one's own -/
theorem sn_dput (hu : X.A.units + 1 < cLine) (h : EV X G S e (En u) S1) (ho : EV X G S1 a (.cell k) S1) (hi : EV X G S1 b (En i) S2) (hk : S2.cs[k]? = some (Ck d)) (hz : d.length < 100000) (hs : swapsWith e (some (.Subscript a b pos')) pos.line X.env = pure false := by rfl) :
    SN X G S (.Assign [.Subscript a b pos'] e pos) ⟨S2.sl, S2.cs.set k (Ck (dput d i u))⟩ :=
  PS.imp (ps_dput hu ho hi h hs) fun D σ H ⟨ps, R, q⟩ => ⟨ps, R, fun v H1 ps1 R1 L1 A1 => ⟨ps1, R1, fun o H2 ps2 R2 L2 A2 => ⟨ps2, R2, fun iv H3 ps3 R3 L3 A3 => by
    obtain ⟨p, vs, rfl, e1, h1, h2⟩ := cellD_of R3 (A2.mono L3) hk
    cases is_at A3
    have A1' : Is X.K H3 (Out G ps3) v (Enc.enc u) := (A1.mono L2).mono L3
    obtain ⟨R4, L4⟩ := R3.write (o := .dK (putK vs (Sum.inl i) v)) (c := Ck (dput d i u)) e1 fun x => ⟨p, _, rfl, upd_same, IsKV.mono x.out _ (kv_put h2 A1')⟩
    exact ⟨p, _, rfl, DPut.k (k := Sum.inl i) h1 (by rw [kv_len h2]; exact sz_lt hz), q _ _ ps3 R4 (((L1.trans L2).trans L3).trans L4).out⟩⟩⟩⟩
/-- d.pop(i), a dict of one's own -/
theorem ev_dpop (ho : EV X G S a (.cell k) S) (hi : EV X G S e (En i) S1) (hk : S1.cs[k]? = some (Ck d)) (hk0 : ∃ kd, S.cs[k]? = some (.dk kd)) (hv : dgetO d i = some u) (m : M1 X a "pop" apos e pos := by exact ⟨rfl, rfl, rfl, rfl⟩) :
    EV X G S (.Call (.Attribute a "pop" apos) [e] [] pos) (En u) ⟨S1.sl, S1.cs.set k (Ck (ddel d i))⟩ :=
  PE.imp (pe_dpop1 ho hi m) fun σ H Q ⟨ps, R, q⟩ => ⟨ps, R, fun v H1 ps1 R1 L1 A1 => by
    obtain ⟨kd, hkd⟩ := hk0
    obtain ⟨p, vs, rfl, e1, h1, h2⟩ := cellD_of R1 A1 hkd
    refine ⟨p, rfl, .inl ⟨vs, .inl h1⟩, ps1, R1, fun iv H2 ps2 R2 L2 A2 => ?_⟩
    obtain ⟨p', vs', e3, e4, h3, h4⟩ := cellD_of R2 (A1.mono L2) hk
    cases e3
    cases is_at A2
    obtain ⟨w, k1, k2⟩ := kv_get h4 hv
    obtain ⟨R3, L3⟩ := R2.write (o := .dK (dropK vs' (Sum.inl i))) (c := Ck (ddel d i)) e4 fun x => ⟨p, _, rfl, upd_same, IsKV.mono x.out _ (kv_del h4)⟩
    exact ⟨vs', Sum.inl i, w, h3, rfl, k1, q _ _ ps2 R3 ((L1.trans L2).trans L3) (AIs.mono L3 (a := En u) k2)⟩⟩
/-- d[i], data -/
theorem ev_dget [Inhabited α] (hu : X.A.units + 1 < cLine) (ho : EV X G S a (En (α := Dc α) d) S1) (hi : EV X G S1 b (En i) S2) (hv : (dgetO d i).isSome = true) (hs : NoSl b := by intro _ _; rfl) : EV X G S (.Subscript a b pos) (En ((dgetO d i).getD default)) S2 :=
  PE.imp (pe_dget hu ho hi hs) fun σ H Q ⟨ps, R, q⟩ => ⟨ps, R, fun v H1 ps1 R1 L1 A1 => ⟨ps1, R1, fun iv H2 ps2 R2 L2 A2 => by
    have A1' := A1.mono L2
    cases A1' with
    | dct h1 h2 h3 =>
      obtain ⟨u, eu⟩ := Option.isSome_iff_exists.mp hv
      obtain ⟨w, k1, k2⟩ := kv_get (d := d) h3 eu
      cases is_at A2
      rw [eu] at q
      refine ⟨_, w, rfl, ?_, q _ H2 ps2 R2 (L1.trans L2) k2⟩
      rw [← k1]
      exact DGet.k (k := Sum.inl i) h1⟩⟩
/-- sorted(d): its keys -/
theorem ev_sortK (hc : X.calm = true) (hm : X.mg "sorted" = none) (h : EV X G S a (En (α := Dc α) d) S1) (hl : d.length < 64) (hg : Gl X "sorted" := by rfl) (he : starEach [a] X.env = (false, eval a X.env) :: starEach [] X.env := by rfl) (hpl : (backTo pos (starEach [] X.env)).any (·.1) = false := by rfl) :
    EV X G S (.Call (.Name "sorted" p2) [a] [] pos) (En (sortI (d.map (·.1)))) S1 :=
  ev_cb (call_sortedDI hc) hm (by decide +kernel) (ea_cons h ea_nil he) (fun vs ps σ H Q R A1 q => by
    obtain ⟨v, rfl, h1⟩ := p1 A1
    cases h1 with
    | dct k1 k2 k3 =>
      refine ⟨_, _, d.map (·.1), rfl, .inl k1, kv_keys (d := d) k3, by rw [List.length_map]; exact hl, fun ys p g1 g2 hp => ?_⟩
      have e : ys = sortI (d.map (·.1)) := sort_uniq (g1.trans (sortI_perm _).symm) g2 (sortI_sorted _)
      rw [e]
      obtain ⟨R2, L2, n⟩ := new_dat (o := .lst ((sortI (d.map (·.1))).map V.int)) R hp
      exact q _ _ ps R2 L2 (.lst upd_same n all_ints)) hg (by decide) (by decide) he hpl
end
end
end Ab
set_option Elab.async false
set_option linter.all false
set_option maxRecDepth 100000
/-! What the printed walks use: states that forget, ifs by their truth value, loops by their turns, defs by name. -/
namespace Ab
open PySem PySem.Spec PyProof.Rows L2

/-- S' knows no more than S -/
structure Fg (S S' : Ms) : Prop where
  cs : S.cs = S'.cs
  len : S.sl.length = S'.sl.length
  sl : ∀ (i : Nat) (a : A), S'.sl[i]? = some (some a) → S.sl[i]? = some (some a)
def fgB : List (Option A) → List (Option A) → Prop
  | [], [] => True
  | a :: as, b :: bs => (b = none ∨ a = b) ∧ fgB as bs
  | _, _ => False
theorem fg_sl : ∀ {xs ys : List (Option A)}, fgB xs ys → xs.length = ys.length ∧ ∀ (i : Nat) (a : A), ys[i]? = some (some a) → xs[i]? = some (some a)
  | [], [], _ => ⟨rfl, fun i a h => by simp at h⟩
  | x :: xs, y :: ys, ⟨h, t⟩ => by
    obtain ⟨h1, h2⟩ := fg_sl t
    refine ⟨by simp [h1], fun i a e => ?_⟩
    cases i with
    | zero =>
      simp at e
      rcases h with h | h
      · rw [h] at e; cases e
      · rw [h, e]; rfl
    | succ i => exact h2 i a (by simpa using e)
  | [], _ :: _, h => h.elim
  | _ :: _, [], h => h.elim
theorem Fg.refl (S : Ms) : Fg S S := ⟨rfl, rfl, fun _ _ h => h⟩
theorem fg_of {sl sl' : List (Option A)} {cs : List C} (h : fgB sl sl') : Fg ⟨sl, cs⟩ ⟨sl', cs⟩ := ⟨rfl, (fg_sl h).1, (fg_sl h).2⟩

section
variable {X : Cx} {K : PySem.W.Frag} {G : Gh} {S S' S1 S2 S3 : Ms} {a b c e : Expr} {es : List Expr} {x y z : A} {as : List A} {pos p2 p3 apos pos' : Pos} {ps ps' ps0 : Ps} {σ : L2.St} {H H' H0 : Hp} {v : V} {ds : List Dt} {n : Str} {k : Nat} {tg iter : Expr} {st : Stmt} {rest body A' B' sts : List Stmt} {E : En4} {vs : List Nat}
theorem paired_of {α β : Type} {F F' : α → β → Prop} : ∀ {xs : List α} {ys zs : List β}, Paired F xs ys → ys.length = zs.length → (∀ (i : Nat) x z, xs[i]? = some x → zs[i]? = some z → F' x z) → Paired F' xs zs
  | [], [], [], _, _, _ => .nil
  | x :: xs, y :: ys, z :: zs, .cons _ t, hl, f => .cons (f 0 x z rfl rfl) (paired_of t (by simpa using hl) fun i x z h1 h2 => f (i + 1) x z (by simpa using h1) (by simpa using h2))
  | [], _ :: _, _, h, _, _ => nomatch h
  | _ :: _, [], _, h, _, _ => nomatch h
  | [], [], _ :: _, _, hl, _ => by simp at hl
  | _ :: _, _ :: _, [], _, hl, _ => by simp at hl
theorem RelP.fg (R : RelP K G ps S σ H) (h : Fg S S') : RelP K G ps S' σ H := by
  refine ⟨R.nd, R.bs, R.new, R.keep, R.zd, h.cs ▸ R.clen, fun k q c h1 h2 => R.cells k q c h1 (h.cs ▸ h2), paired_of R.slots h.len fun i o s h1 h2 => ?_⟩
  cases s with
  | none => unfold SlOk; cases o <;> trivial
  | some a =>
    obtain ⟨v, e, ok⟩ := R.slot (h.sl i a h2)
    rw [h1] at e
    cases e
    exact ok
theorem wss_fg (h : Fg S S') (k : WSs X G S' sts E) : WSs X G S sts E := PSs.imp k fun D σ H ⟨ps, R, d⟩ => ⟨ps, R.fg h, d⟩
theorem EG.fg (h : Fg S S') (g : EG X G S' tg x S1 vs) : EG X G S tg x S1 vs := PG.imp g fun v σ H Q ⟨ps, R, ok, q⟩ => ⟨ps, R.fg h, ok, q⟩

/-! ### ifs by their truth value -/
theorem wss_ifB {p : Bool} (E : Bool → En4) (S2 : Bool → Ms) (hc : ET X G S c p (S2 p)) (h1 : p = true → WSs X G (S2 true) A' { E true with nx := fun S' => WSs X G S' rest (E true) }) (h2 : p = false → WSs X G (S2 false) B' { E false with nx := fun S' => WSs X G S' rest (E false) }) : WSs X G S (.If c A' B' pos :: rest) (E p) := by
  cases p with
  | true => exact wss_if hc (fun _ => h1 rfl) (fun h => nomatch h)
  | false => exact wss_if hc (fun h => nomatch h) (fun _ => h2 rfl)
/-- a block that never goes on -/
theorem wss_end {E' : Ms → Prop} (h : WSs X G S sts { E with nx := fun _ => False }) : WSs X G S sts { E with nx := E' } := h.mono (fun _ h => h.elim) (fun _ _ h => h) (fun _ h => h) (fun _ h => h)
/-- both ways go on to T of the truth value -/
theorem wss_ifJ {p : Bool} (T S2 : Bool → Ms) (hc : ET X G S c p (S2 p)) (h1 : p = true → WSs X G (S2 true) A' { E with nx := fun S' => Fg S' (T true) }) (h2 : p = false → WSs X G (S2 false) B' { E with nx := fun S' => Fg S' (T false) }) (k : WSs X G (T p) rest E) : WSs X G S (.If c A' B' pos :: rest) E := by
  cases p with
  | true => exact wss_if hc (fun _ => (h1 rfl).mono (fun _ h => wss_fg h k) (fun _ _ h => h) (fun _ h => h) (fun _ h => h)) (fun h => nomatch h)
  | false => exact wss_if hc (fun h => nomatch h) (fun _ => (h2 rfl).mono (fun _ h => wss_fg h k) (fun _ _ h => h) (fun _ h => h) (fun _ h => h))

/-! ### loops -/
theorem wss_forF {α : Type} [Enc α] {xs : List α} (T : Nat → Ms) (hp : PassesOwn (model X.prog X.w) X.A X.env X.xe) (hc : X.calm = true) (hi : ES X G S tg iter (xs.map Enc.enc) S1) (h0 : Fg S1 (T 0))
    (hs : ∀ (i : Nat) (x : α), xs[i]? = some x → ∃ S'' vs, EG X G (T i) tg (En x) S'' vs ∧ WSs X G S'' body { nx := fun S => Fg S (T (i + 1)), rt := E.rt, bk := fun S3 => WSs X G S3 rest E, ct := fun S => Fg S (T (i + 1)) })
    (hd : WSs X G (T xs.length) rest E) (hf : ∀ x, foldedSetIterable iter X.env x = pure x := by intro _; rfl) : WSs X G S (.For tg iter body [] pos :: rest) E :=
  wss_for (fun i S => Fg S (T i)) hp hc hi h0 (fun i x S' hx hS => let ⟨S'', vs, g, w⟩ := hs i x hx; ⟨S'', vs, g.fg hS, w⟩) (fun S' hS => wss_fg hS hd) hf
/-- what a turn leads to: the next one, the def's end -/
inductive Flow' (ρ σ : Type) where
  | next (s : σ)
  | ret (r : ρ)
  | brk (s : σ)
def loopF {α ρ σ : Type} (f : σ → α → Flow' ρ σ) : List α → σ → Flow' ρ σ
  | [], s => .next s
  | x :: xs, s => match f s x with
    | .next s' => loopF f xs s'
    | .ret r => .ret r
    | .brk s' => .brk s'
theorem loopF_snoc {α ρ σ : Type} {f : σ → α → Flow' ρ σ} {x : α} : ∀ {xs : List α} {s s1 : σ}, loopF f xs s = .next s1 → loopF f (xs ++ [x]) s = f s1 x
  | [], s, s1, h => by
    cases h
    show loopF f [x] s = _
    unfold loopF
    cases f s x <;> rfl
  | y :: xs, s, s1, h => by
    show loopF f (y :: (xs ++ [x])) s = _
    unfold loopF at h ⊢
    cases e : f s y with
    | next s' =>
      rw [e] at h
      exact loopF_snoc (xs := xs) h
    | ret r => rw [e] at h; cases h
    | brk s' => rw [e] at h; cases h
theorem loopF_app {α ρ σ : Type} {f : σ → α → Flow' ρ σ} : ∀ {xs ys : List α} {s s1 : σ}, loopF f xs s = .next s1 → loopF f (xs ++ ys) s = loopF f ys s1
  | [], ys, s, s1, h => by cases h; rfl
  | y :: xs, ys, s, s1, h => by
    show loopF f (y :: (xs ++ ys)) s = _
    unfold loopF at h
    conv => lhs; unfold loopF
    cases e : f s y with
    | next s' =>
      rw [e] at h
      exact loopF_app (xs := xs) h
    | ret r => rw [e] at h; cases h
    | brk s' => rw [e] at h; cases h
theorem loopF_end {α ρ σ : Type} {f : σ → α → Flow' ρ σ} {xs : List α} {s s1 : σ} {i : Nat} {x : α} {o : Flow' ρ σ} (hx : xs[i]? = some x) (h : loopF f (xs.take i) s = .next s1) (ho : f s1 x = o) (hn : ∀ s', o ≠ .next s') : loopF f xs s = o := by
  obtain ⟨hl, rfl⟩ := List.getElem?_eq_some_iff.mp hx
  have e : xs = xs.take i ++ xs[i] :: xs.drop (i + 1) := by rw [← List.drop_eq_getElem_cons hl, List.take_append_drop]
  rw [e, loopF_app h]
  unfold loopF
  rw [ho]
  cases o with
  | next s' => exact absurd rfl (hn s')
  | ret r => rfl
  | brk s' => rfl
/-- what must hold at each turn that comes -/
def loopP {α σ : Type} (f : σ → α → σ) (P : σ → α → Prop) (xs : List α) (s : σ) : Prop := ∀ (i : Nat) (x : α), xs[i]? = some x → P ((xs.take i).foldl f s) x
def loopFP {α ρ σ : Type} (f : σ → α → Flow' ρ σ) (P : σ → α → Prop) (xs : List α) (s : σ) : Prop := ∀ (i : Nat) (x : α) (s1 : σ), xs[i]? = some x → loopF f (xs.take i) s = .next s1 → P s1 x
theorem foldl_take {α σ : Type} {f : σ → α → σ} {xs : List α} {s : σ} {i : Nat} {x : α} (h : xs[i]? = some x) : (xs.take (i + 1)).foldl f s = f ((xs.take i).foldl f s) x := by
  rw [List.take_add_one, h, List.foldl_append]
  rfl
/-- a loop whose turns go on -/
theorem wss_forS {α σ : Type} [Enc α] {xs : List α} (f : σ → α → σ) (s0 : σ) (T : σ → Ms) (hp : PassesOwn (model X.prog X.w) X.A X.env X.xe) (hc : X.calm = true) (hi : ES X G S tg iter (xs.map Enc.enc) S1) (h0 : Fg S1 (T s0))
    (hs : ∀ (i : Nat) (x : α), xs[i]? = some x → ∃ S'' vs, EG X G (T ((xs.take i).foldl f s0)) tg (En x) S'' vs ∧ WSs X G S'' body { nx := fun S => Fg S (T (f ((xs.take i).foldl f s0) x)), rt := fun _ _ => False })
    (hd : WSs X G (T (xs.foldl f s0)) rest E) (hf : ∀ x, foldedSetIterable iter X.env x = pure x := by intro _; rfl) : WSs X G S (.For tg iter body [] pos :: rest) E :=
  wss_forF (fun i => T ((xs.take i).foldl f s0)) hp hc hi h0 (fun i x hx => by
    obtain ⟨S'', vs, g, w⟩ := hs i x hx
    refine ⟨S'', vs, g, w.mono (fun S h => ?_) (fun _ _ h => h.elim) (fun _ h => h.elim) (fun _ h => h.elim)⟩
    rw [foldl_take hx]
    exact h) (by rw [List.take_length]; exact hd) hf
/-- a loop that may end the def -/
theorem wss_forR {α ρ σ : Type} [Enc α] {xs : List α} (f : σ → α → Flow' ρ σ) (s0 : σ) (T : σ → Ms) (Rt : ρ → A → Ms → Prop) (hp : PassesOwn (model X.prog X.w) X.A X.env X.xe) (hc : X.calm = true) (hi : ES X G S tg iter (xs.map Enc.enc) S1) (h0 : Fg S1 (T s0))
    (hs : ∀ (i : Nat) (x : α) (s : σ), xs[i]? = some x → loopF f (xs.take i) s0 = .next s → ∃ S'' vs, EG X G (T s) tg (En x) S'' vs ∧ WSs X G S'' body { nx := fun S => ∃ s', f s x = .next s' ∧ Fg S (T s'), rt := fun a S => ∃ r, f s x = .ret r ∧ Rt r a S, bk := fun S => ∃ s', f s x = .brk s' ∧ Fg S (T s'), ct := fun S => ∃ s', f s x = .next s' ∧ Fg S (T s') })
    (hr : ∀ r, loopF f xs s0 = .ret r → ∀ a S, Rt r a S → E.rt a S) (hd : ∀ s, loopF f xs s0 = .next s ∨ loopF f xs s0 = .brk s → WSs X G (T s) rest E) (hf : ∀ x, foldedSetIterable iter X.env x = pure x := by intro _; rfl) : WSs X G S (.For tg iter body [] pos :: rest) E :=
  wss_for (fun i S => ∃ s, loopF f (xs.take i) s0 = .next s ∧ Fg S (T s)) hp hc hi ⟨s0, rfl, h0⟩ (fun i x S' hx ⟨s, e, hS⟩ => by
    obtain ⟨S'', vs, g, w⟩ := hs i x s hx e
    have nx : ∀ S, (∃ s', f s x = .next s' ∧ Fg S (T s')) → ∃ s, loopF f (xs.take (i + 1)) s0 = .next s ∧ Fg S (T s) := fun S ⟨s', e', h⟩ => ⟨s', by rw [List.take_add_one, hx]; exact (loopF_snoc e).trans e', h⟩
    refine ⟨S'', vs, g.fg hS, w.mono nx (fun a S ⟨r, e', h⟩ => hr r (loopF_end hx e e' fun _ z => nomatch z) a S h) (fun S ⟨s', e', h⟩ => ?_) nx⟩
    exact wss_fg h (hd s' (.inr (loopF_end hx e e' fun _ z => nomatch z)))) (fun S' ⟨s, e, hS⟩ => wss_fg hS (hd s (.inl (by rw [List.take_length] at e; exact e)))) hf

/-! ### walks over one's own lists, typed -/
theorem ei_cl {α : Type} [Enc α] {xs : List α} (h : EV X G S a (.cell k) S1) (hk : S1.cs[k]? = some (Cl xs)) : EI X G S tg a (xs.map Enc.enc) (fun S' => S'.cs[k]? = some (Cl xs)) S1 := by
  have e : (fun S' : Ms => S'.cs[k]? = some (Cl xs)) = fun S' : Ms => S'.cs[k]? = some (.lst ((xs.map Enc.enc).map .dat)) := by rw [List.map_map]; rfl
  rw [e]
  exact ei_cell h (by rw [List.map_map]; exact hk)

/-! ### defs by name -/
structure Df (P : Program) (w : World) (K : PySem.W.Frag) (mg : Str → Option Value) (base : Heap) (CX : CXT) (k : Nat) (n : Str) (ps : List Str) (φ : Ct) : Prop where
  ex : ∃ f fd, FnOk P w K mg base CX k f fd ps (SpA K φ) ∧ mg n = some (.ref f) ∧ PySem.W.keepIn K (.ref f) = true ∧ Binds K fd ps [] ∧ ∃ o d sl, K.lookup f = some ⟨o, d, .func fd, sl⟩
/-- a def of the top -/
structure Top (K : PySem.W.Frag) (mg : Str → Option Value) (n : Str) (st : Stmt) (ps : List Str) : Prop where
  ex : ∃ f fd, Fun K n n st f fd ∧ mg n = some (.ref f) ∧ Binds K fd ps []
theorem Df.mk' {P : Program} {w : World} {mg : Str → Option Value} {base : Heap} {st : Stmt} {N ps : List Str} {k : Nat} {φ : Ct} (T : Top K mg n st ps) (sc : FnScope N ps (defScope st)) (hlen : ∀ args cs r cs', φ args cs r cs' → args.length = ps.length ∧ cs.length ≤ cs'.length)
    (hbody : ∀ (f : Addr) (cdv : Value) (Ar : Around) (outer : List Env) (s : Shared) (H : Hp) (E : XK) (G : Gh) (args : List A) (cs : List C) (r : A) (cs' : List C), Room k (Ar.deeper (PyProof.Rows.envOfC n (defScope st) s.heap.objs.size f cdv)) → φ args cs r cs' → G.B.length = cs.length →
      WSs (cxOf CX0 P w K mg base N n (defScope st) f cdv Ar outer s H E).nox G ⟨args.map some ++ List.replicate (N.length - args.length) none, cs⟩ (defBody st) { nx := fun S => RetOk (En ()) S r cs', rt := fun a S => RetOk a S r cs' }) : Df P w K mg base CX0 (k + 1) n ps φ := by
  obtain ⟨f, fd, F, m, b⟩ := T.ex
  exact ⟨f, fd, fn_ok F sc hlen (hbody f), m, F.kp, b, by
    obtain ⟨oc, od, _, _, _, _, _, _, osl, _, lk, _⟩ := F.ex
    exact ⟨oc, od, osl, lk⟩⟩
theorem Df.imp {P : Program} {w : World} {mg : Str → Option Value} {base : Heap} {ps : List Str} {φ φ' : Ct} {CX : CXT} (D : Df P w K mg base CX k n ps φ) (h : ∀ args cs r cs', φ' args cs r cs' → φ args cs r cs') : Df P w K mg base CX k n ps φ' := by
  obtain ⟨f, fd, F, m, kp, b, lk⟩ := D.ex
  exact ⟨f, fd, F.imp fun vs H Q E ⟨G, args, cs, r, cs', h1, h2, h3, R, q⟩ => ⟨G, args, cs, r, cs', h1, h2, h _ _ _ _ h3, R, q⟩, m, kp, b, lk⟩
theorem ev_cf {CX : CXT} {pn : List Str} {φ : Ct} (D : Df X.prog X.w X.K X.mg X.base CX k n pn φ) (hr : Room k X.A) (hx : Passes CX X E0) {r : Dt}
    (ha : EA X G S (e :: es) (ds.map .dat) S1) (hφ : φ (ds.map .dat) [] (.dat r) []) (hg : Gl X n := by rfl)
    (hdb : (n == ("__debug__" : Str)) = false := by decide) (he : starEach (e :: es) X.env = (false, eval e X.env) :: starEach es X.env := by rfl) (hpl : (backTo pos (starEach es X.env)).any (·.1) = false := by rfl) :
    EV X G S (.Call (.Name n p2) (e :: es) [] pos) (.dat r) S1 := by
  obtain ⟨f, fd, F, m, kp, b, lk⟩ := D.ex
  exact ev_call F hr m kp b hx ha hφ hg hdb he hpl
/-- the def changes the caller's list j: the lists as typed -/
theorem ev_cf1 {CX : CXT} {pn : List Str} {φ : Ct} {j : Nat} {args : List A} {α : Type} [Enc α] {xs ys : List α} (D : Df X.prog X.w X.K X.mg X.base CX k n pn φ) (hr : Room k X.A) (hx : Passes CX X E0) {r : Dt}
    (ha : EA X G S (e :: es) (args.map (up1 j)) S1) (hφ : φ args [Cl xs] (.dat r) [Cl ys]) (hl : ∀ k, A.cell (k + 1) ∉ args) (hj : S1.cs[j]? = some (Cl xs)) (hg : Gl X n := by rfl)
    (hdb : (n == ("__debug__" : Str)) = false := by decide) (he : starEach (e :: es) X.env = (false, eval e X.env) :: starEach es X.env := by rfl) (hpl : (backTo pos (starEach es X.env)).any (·.1) = false := by rfl) :
    EV X G S (.Call (.Name n p2) (e :: es) [] pos) (.dat r) ⟨S1.sl, S1.cs.set j (Cl ys)⟩ := by
  obtain ⟨f, fd, F, m, kp, b, lk⟩ := D.ex
  have e1 : ∀ zs : List α, Cl zs = C.lst ((zs.map Enc.enc).map .dat) := fun zs => by rw [List.map_map]; rfl
  rw [e1 ys]
  rw [e1 xs] at hφ hj
  rw [e1 ys] at hφ
  exact ev_call1 F hr m kp b hx ha hl hj hφ hg hdb he hpl
theorem ev_cfN {CX : CXT} {pn : List Str} {φ : Ct} {α : Type} [Enc α] {ys : List α} (D : Df X.prog X.w X.K X.mg X.base CX k n pn φ) (hr : Room k X.A) (hx : Passes CX X E0)
    (ha : EA X G S (e :: es) (ds.map .dat) S1) (hφ : φ (ds.map .dat) [] (.cell 0) [Cl ys]) (hg : Gl X n := by rfl)
    (hdb : (n == ("__debug__" : Str)) = false := by decide) (he : starEach (e :: es) X.env = (false, eval e X.env) :: starEach es X.env := by rfl) (hpl : (backTo pos (starEach es X.env)).any (·.1) = false := by rfl) :
    EV X G S (.Call (.Name n p2) (e :: es) [] pos) (.cell S1.cs.length) ⟨S1.sl, S1.cs ++ [Cl ys]⟩ := by
  obtain ⟨f, fd, F, m, kp, b, lk⟩ := D.ex
  have e1 : ∀ zs : List α, Cl zs = C.lst ((zs.map Enc.enc).map .dat) := fun zs => by rw [List.map_map]; rfl
  rw [e1 ys] at hφ ⊢
  exact ev_callN F hr m kp b hx ha hφ hg hdb he hpl
end
end Ab
set_option Elab.async false
set_option linter.all false
set_option maxRecDepth 100000
/-! Ends of blocks by what a block comes to; the rules the printed walks are made of. -/
namespace Ab
open PySem PySem.Spec PyProof.Rows L2
variable {X : Cx} {K : PySem.W.Frag} {G : Gh} {S S' S1 S2 S3 : Ms} {a b c e : Expr} {es : List Expr} {x y z : A} {as : List A} {pos p2 p3 apos pos' : Pos} {ps ps' ps0 : Ps} {σ : L2.St} {H H' H0 : Hp} {v : V} {ds : List Dt} {n : Str} {k : Nat} {tg iter elt tg1 iter1 : Expr} {st : Stmt} {rest body A' B' sts : List Stmt} {E : En4} {vs : List Nat}

/-! ### ends -/
def Thn (X : Cx) (G : Gh) (rest : List Stmt) {τ : Type} (F : τ → En4) : τ → En4 := fun m => { F m with nx := fun S' => WSs X G S' rest (F m) }
/-- a def's end: by what it answers -/
def EndR {ρ : Type} (R : ρ → A → Ms → Prop) : ρ → En4 := fun r => { nx := fun S => R r (En ()) S, rt := fun a S => R r a S }
/-- a turn that goes on -/
def EndN {σ : Type} (T : σ → Ms) : σ → En4 := fun s => { nx := fun S => Fg S (T s), rt := fun _ _ => False, ct := fun S => Fg S (T s) }
def EndL {ρ σ : Type} (T : σ → Ms) (Rt : ρ → A → Ms → Prop) : Flow' ρ σ → En4 := fun m =>
  { nx := fun S => ∃ s', m = .next s' ∧ Fg S (T s'), rt := fun a S => ∃ r, m = .ret r ∧ Rt r a S, bk := fun S => ∃ s', m = .brk s' ∧ Fg S (T s'), ct := fun S => ∃ s', m = .next s' ∧ Fg S (T s') }
def Flow'.fin {ρ σ τ : Type} (onr : ρ → τ) (on : σ → τ) : Flow' ρ σ → τ
  | .next s => on s
  | .ret r => onr r
  | .brk s => on s
theorem end_thn {τ : Type} {F : τ → En4} {m : τ} (h : Fg S S') (k : WSs X G S' rest (F m)) : WSs X G S [] (Thn X G rest F m) := wss_nil (wss_fg h k)
theorem end_nx {E : En4} (h : E.nx S) : WSs X G S [] E := wss_nil h
theorem wss_ifM {τ : Type} (F : τ → En4) {p : Bool} {m m1 m2 : τ} (hm : m = cond p m1 m2) (hc : ET X G S c p S1) (h1 : p = true → WSs X G S1 A' (Thn X G rest F m1)) (h2 : p = false → WSs X G S1 B' (Thn X G rest F m2)) : WSs X G S (.If c A' B' pos :: rest) (F m) := by
  subst hm
  cases p with
  | true => exact wss_if hc (fun _ => h1 rfl) (fun h => nomatch h)
  | false => exact wss_if hc (fun h => nomatch h) (fun _ => h2 rfl)
theorem wss_forN {τ α σ : Type} [Enc α] {xs : List α} (F : τ → En4) {m : τ} (f : σ → α → σ) (s0 : σ) (T : σ → Ms) (on : σ → τ) (hm : m = on (xs.foldl f s0)) (hp : PassesOwn (model X.prog X.w) X.A X.env X.xe) (hc : X.calm = true) (hi : ES X G S tg iter (xs.map Enc.enc) S1) (h0 : Fg S1 (T s0))
    (hs : ∀ (i : Nat) (x : α), xs[i]? = some x → ∃ S'' vs, EG X G (T ((xs.take i).foldl f s0)) tg (En x) S'' vs ∧ WSs X G S'' body (EndN T (f ((xs.take i).foldl f s0) x)))
    (hd : WSs X G (T (xs.foldl f s0)) rest (F (on (xs.foldl f s0)))) (hf : ∀ x, foldedSetIterable iter X.env x = pure x := by intro _; rfl) : WSs X G S (.For tg iter body [] pos :: rest) (F m) := by
  subst hm
  refine wss_forF (fun i => T ((xs.take i).foldl f s0)) hp hc hi h0 (fun i x hx => ?_) (by rw [List.take_length]; exact hd) hf
  obtain ⟨S'', vs, g, w⟩ := hs i x hx
  have e : ∀ S, Fg S (T (f ((xs.take i).foldl f s0) x)) → Fg S (T ((xs.take (i + 1)).foldl f s0)) := fun S h => by
    rw [foldl_take hx]
    exact h
  exact ⟨S'', vs, g, w.mono e (fun _ _ h => h.elim) (fun _ h => h.elim) e⟩
theorem wss_forM {τ α ρ σ : Type} [Enc α] {xs : List α} (F : τ → En4) {m : τ} (f : σ → α → Flow' ρ σ) (s0 : σ) (T : σ → Ms) (Rt : ρ → A → Ms → Prop) (onr : ρ → τ) (on : σ → τ) (hm : m = (loopF f xs s0).fin onr on) (hp : PassesOwn (model X.prog X.w) X.A X.env X.xe) (hc : X.calm = true) (hi : ES X G S tg iter (xs.map Enc.enc) S1) (h0 : Fg S1 (T s0))
    (hs : ∀ (i : Nat) (x : α) (s : σ), xs[i]? = some x → loopF f (xs.take i) s0 = .next s → ∃ S'' vs, EG X G (T s) tg (En x) S'' vs ∧ WSs X G S'' body (EndL T Rt (f s x)))
    (hr : ∀ r a S, Rt r a S → (F (onr r)).rt a S) (hd : ∀ s, (loopF f xs s0 = .next s ∨ loopF f xs s0 = .brk s) → WSs X G (T s) rest (F (on s))) (hf : ∀ x, foldedSetIterable iter X.env x = pure x := by intro _; rfl) : WSs X G S (.For tg iter body [] pos :: rest) (F m) := by
  subst hm
  refine wss_forR f s0 T Rt hp hc hi h0 hs (fun r e a S h => ?_) (fun s e => ?_) hf
  · rw [e]
    exact hr r a S h
  · have : (loopF f xs s0).fin onr on = on s := by
      rcases e with e | e <;> rw [e] <;> rfl
    rw [this]
    exact hd s e

/-! ### and, or that change lists -/
section
variable {p q : Bool} {rest : List Expr}
theorem ew_andB (T : Bool → Ms) (h1 : ET X G S a p S1) (h2 : p = true → EW X G S1 (.BoolOp .And (b :: rest) pos) q (T true)) (h3 : p = false → S1 = T false) : EW X G S (.BoolOp .And (a :: b :: rest) pos) (p && q) (T p) := by
  cases p with
  | true => exact ew_and h1 (fun _ => h2 rfl) (fun h => nomatch h)
  | false =>
    refine ew_and h1 (fun h => nomatch h) (fun _ => h3 rfl)
theorem ew_orB (T : Bool → Ms) (h1 : ET X G S a p S1) (h2 : p = false → EW X G S1 (.BoolOp .Or (b :: rest) pos) q (T false)) (h3 : p = true → S1 = T true) : EW X G S (.BoolOp .Or (a :: b :: rest) pos) (p || q) (T p) := by
  cases p with
  | false => exact ew_or h1 (fun _ => h2 rfl) (fun h => nomatch h)
  | true => exact ew_or h1 (fun h => nomatch h) (fun _ => h3 rfl)
end

/-! ### assignments to tuples -/
/-- two names at once, stored from the right -/
theorem sn_par2 {i j : Nat} {u w : Str} {px py pt : Pos} {kt k2 pt2} (hc : X.calm = true) (hN : X.N.Nodup) (ha : EA X G S [a, b] [x, y] S1) (hi : X.N[i]? = some u := by rfl) (hj : X.N[j]? = some w := by rfl) (hij : i ≠ j := by decide)
    (hx : X.env.scope.names.lookup u = some .local := by rfl) (hy : X.env.scope.names.lookup w = some .local := by rfl)
    (hw : swappedStores [.Tuple [.Name u px, .Name w py] kt pt] (.Tuple [a, b] k2 pt2) X.env = pure (some [u, w]) := by rfl)
    (hs : swapsWithSole [.Tuple [.Name u px, .Name w py] kt pt] (.Tuple [a, b] k2 pt2) pos.line X.env = pure false := by rfl) :
    SN X G S (.Assign [.Tuple [.Name u px, .Name w py] kt pt] (.Tuple [a, b] k2 pt2) pos) ⟨(S1.sl.set i (some x)).set j (some y), S1.cs⟩ :=
  PS.imp (ps_par hc hN hi hj hij hx hy ha hw hs) fun D σ H ⟨ps, R, d⟩ => ⟨ps, R, fun vs H1 ps1 R1 L1 A1 => by
    obtain ⟨v, w, rfl, h1, h2⟩ := p2' A1
    exact ⟨v, w, rfl, d _ H1 ps1 ((R1.store i h1).store j h2) L1.out⟩⟩
theorem p3' {F : V → A → Prop} {vs : List V} (h : Paired F vs [x, y, z]) : ∃ u v w, vs = [u, v, w] ∧ F u x ∧ F v y ∧ F w z := by
  cases h with
  | cons h t =>
    obtain ⟨v, w, rfl, h2, h3⟩ := p2' t
    exact ⟨_, _, _, rfl, h, h2, h3⟩
theorem sn_par3 {i j l : Nat} {u w t : Str} {px py pz pt : Pos} {kt k2 pt2} (hc : X.calm = true) (hN : X.N.Nodup) (ha : EA X G S [a, b, c] [x, y, z] S1) (hi : X.N[i]? = some u := by rfl) (hj : X.N[j]? = some w := by rfl) (hl : X.N[l]? = some t := by rfl) (hij : i ≠ j := by decide) (hil : i ≠ l := by decide) (hjl : j ≠ l := by decide)
    (hx : X.env.scope.names.lookup u = some .local := by rfl) (hy : X.env.scope.names.lookup w = some .local := by rfl) (hz : X.env.scope.names.lookup t = some .local := by rfl)
    (hw : swappedStores [.Tuple [.Name u px, .Name w py, .Name t pz] kt pt] (.Tuple [a, b, c] k2 pt2) X.env = pure (some [u, w, t]) := by rfl)
    (hs : swapsWithSole [.Tuple [.Name u px, .Name w py, .Name t pz] kt pt] (.Tuple [a, b, c] k2 pt2) pos.line X.env = pure false := by rfl) :
    SN X G S (.Assign [.Tuple [.Name u px, .Name w py, .Name t pz] kt pt] (.Tuple [a, b, c] k2 pt2) pos) ⟨((S1.sl.set i (some x)).set j (some y)).set l (some z), S1.cs⟩ :=
  PS.imp (ps_par3 hc hN hi hj hl hij hil hjl hx hy hz ha hw hs) fun D σ H ⟨ps, R, d⟩ => ⟨ps, R, fun vs H1 ps1 R1 L1 A1 => by
    obtain ⟨u, v, w, rfl, h1, h2, h3⟩ := p3' A1
    exact ⟨u, v, w, rfl, d _ H1 ps1 (((R1.store i h1).store j h2).store l h3) L1.out⟩⟩
/-- some names at once, by a tuple (of lists of one's own too) -/
theorem sn_tupC {tgs : List Expr} {k1 k2 : Nat} {pt pt2 : Pos} {ws : List Nat} (hc : X.calm = true) (ha : EA X G S es as S1) (g : EGs X G S1 tgs as S2 ws) (hl : tgs.length = as.length := by rfl) (hz : as.length ≤ 100000 := by exact Nat.le_of_ble_eq_true rfl) (hn : (assignEach tgs X.env).length = tgs.length := by rfl) (hst : (assignEach tgs X.env).findIdx? (·.1) = none := by rfl)
    (hs : swapsWithSole [.Tuple tgs k1 pt] (.Tuple es k2 pt2) pos.line X.env = pure false := by rfl) (hw : swappedStores [.Tuple tgs k1 pt] (.Tuple es k2 pt2) X.env = pure none := by rfl) (h1 : (assignEach [.Tuple tgs k1 pt] X.env).map (·.2) = [assign (.Tuple tgs k1 pt) X.env] := by rfl) :
    SN X G S (.Assign [.Tuple tgs k1 pt] (.Tuple es k2 pt2) pos) S2 :=
  PS.imp (ps_asg (pe_tup ha) (pg_tup hc g hn hst) hs hw h1) fun D σ H ⟨ps, R, d⟩ => ⟨ps, R, fun vs H1 ps1 R1 L1 A1 => ⟨by rw [Paired.len A1]; exact sz_of hz, fun p hp => by
    obtain ⟨R2, L2, n⟩ := new_dat (o := .tup vs) R1 hp
    exact ⟨p, vs, rfl, .inl (.inl upd_same), by rw [Paired.len A1, hl], ps1, R2, Paired.mp A1 fun _ _ z => z.mono L2, fun σ' H' ps' R' L' _ => d σ' H' ps' R' ((L1.trans L2).trans L').out⟩⟩⟩
/-- a name is given a comprehension's list -/
theorem sn_of_lc {i : Nat} (h : PS X st (tAsg (tEV X.K G S x S1) (gName i))) : SN X G S st ⟨S1.sl.set i (some x), S1.cs⟩ :=
  PS.imp h fun D σ H ⟨ps, R, d⟩ => ⟨ps, R, fun v H1 ps1 R1 L1 A1 => d _ H1 ps1 (R1.store i A1) L1.out⟩
/-- .. and keeps it as a list of its own -/
theorem EV.be (x : A) (h : EV X G S a x S1) : EV X G S a x S1 := h
theorem EV.to1 {S1' : Ms} (h : EV X G S a x S1) (e : S1 = S1') : EV X G S a x S1' := e ▸ h
theorem ET.to1 {p : Bool} {S1' : Ms} (h : ET X G S a p S1) (e : S1 = S1') : ET X G S a p S1' := e ▸ h
end Ab
set_option Elab.async false
set_option linter.all false
set_option maxRecDepth 100000
/-! Further rules for the printed walks. -/
namespace Ab
open PySem PySem.Spec PyProof.Rows L2
abbrev passS : Stmt := .Pass ⟨0, 0, 0, 0⟩
def ifA : Stmt → List Stmt
  | .If _ a _ _ => a
  | _ => []
def ifB : Stmt → List Stmt
  | .If _ _ b _ => b
  | _ => []
def forB : Stmt → List Stmt
  | .For _ _ b _ _ => b
  | _ => []
theorem _root_.L2.Room.u1 {k : Nat} {A : Around} (r : Room k A) : A.units + 1 < cLine := by have := r.units; omega
variable {X : Cx} {K : PySem.W.Frag} {G : Gh} {S S' S1 S2 S3 : Ms} {a b c e : Expr} {es : List Expr} {x y z : A} {as : List A} {pos p2 p3 apos pos' : Pos} {ps ps' ps0 : Ps} {σ : L2.St} {H H' H0 : Hp} {v : V} {ds : List Dt} {n : Str} {k : Nat} {tg iter elt tg1 iter1 : Expr} {st : Stmt} {rest body A' B' sts : List Stmt} {E : En4} {vs : List Nat}
theorem EG.more {ws : List Nat} (h : EG X G S tg x S1 vs) (hs : ∀ i ∈ vs, i ∈ ws) : EG X G S tg x S1 ws :=
  PG.imp h fun v σ H Q ⟨ps, R, ok, q⟩ => ⟨ps, R, ok, fun σ' H' ps' R' L' hw => q σ' H' ps' R' L' fun us hu => hw us fun i hi => hu i (hs i hi)⟩
/-- [elt for tg in iter] -/
theorem lc_all {M : TE → Prop} {α β : Type} [Enc α] [Enc β] {xs : List α} {f : α → β} {I : Ms → Prop} {sl' : α → List (Option A)} {scope : Scope} (own : List (Str × Nat)) (hM : LcM X tg iter elt [] scope own M)
    (hi : EI X G S tg iter (xs.map Enc.enc) I S1) (hI : ∀ sl c, I ⟨sl, S1.cs ++ [c]⟩) (hz : xs.length ≤ 100000)
    (hg : ∀ (s : Shared) (H : Hp) (Ca : Addr) (cl : List (Str × Addr)) (fp : List Addr) (x : α) (c : C), EG (X.blk s H scope (compEnvC scope cl Ca X.env) fp) G ⟨wipeA S1.sl (own.map (·.2)), S1.cs ++ [c]⟩ tg (En x) ⟨sl' x, S1.cs ++ [c]⟩ (own.map (·.2)))
    (he : ∀ (s : Shared) (H : Hp) (Ca : Addr) (cl : List (Str × Addr)) (fp : List Addr) (x : α) (c : C), x ∈ xs → EV (X.blk s H scope (compEnvC scope cl Ca X.env) fp) G ⟨sl' x, S1.cs ++ [c]⟩ elt (En (f x)) ⟨sl' x, S1.cs ++ [c]⟩) : M (tEV X.K G S (En (xs.map f)) S1) := by
  have h := lc_any (p := fun _ : α => true) (f := f) own hM hi hI hz hg (fun _ _ _ _ _ _ _ _ => ets_nil) (fun s H Ca cl fp x c hx _ => he s H Ca cl fp x c hx)
  rwa [show xs.filter (fun _ => true) = xs from List.filter_eq_self.mpr fun _ _ => rfl] at h
/-- xs.index(e) of ints -/
theorem eqV_int {i j : Int} : eqV (.int i) (.int j) = decide (i = j) := by
  show (i == j) = _
  by_cases h : i = j
  · subst h; simp
  · simp [h]
theorem ev_index {is : List Int} {i : Int} (ho : EV X G S a x S1) (ha : EV X G S1 e (En i) S1) (r : RdL S1 x (is.map Enc.enc)) (hi : i ∈ is)
    (hbase : attributeBase a "index" X.env (eval a X.env) = eval a X.env := by rfl)
    (hfew : ((backTo pos (starEach [e] X.env)).all (fun x => !x.1) && (backToKw pos (keywordEach [] X.env)).all (fun x => x.1.isSome)
      && decide (([e] : List Expr).length + ([] : List Keyword).length + (if ([] : List Keyword).isEmpty then 0 else 1) < 30)) = true := by rfl)
    (hline : (apos.endLine == pos.line) = true := by rfl) (hs : starEach [e] X.env = (false, eval e X.env) :: starEach [] X.env := by rfl) (hplain : (backTo pos (starEach [] X.env)).any (·.1) = false := by rfl) :
    EV X G S (.Call (.Attribute a "index" apos) [e] [] pos) (En (is.idxOf i : Int)) S1 :=
  PE.imp (pe_bm PySem.F.plainAttrs_list PySem.F.slot_list_index PySem.F.type_list_index mt_index ho (ea_cons ha ea_nil hs) hbase hfew hline hs hplain) fun σ H Q ⟨ps, R, q⟩ => ⟨ps, R, fun v H1 ps1 R1 L1 A1 => by
    obtain ⟨p, xs, rfl, h1, h2⟩ := R1.rdl A1 r
    refine ⟨.inl ⟨rfl, xs, h1⟩, ps1, R1, fun us H2 ps2 R2 L2 A2 => ?_⟩
    obtain ⟨u, rfl, hu⟩ := p1 A2
    cases is_at hu
    obtain ⟨p', xs', e', h3, h4⟩ := R2.rdl (A1.mono L2) r
    cases e'
    rw [ints_of h4] at h3
    have hlt : is.idxOf i < is.length := List.idxOf_lt_length_iff.mpr hi
    have hget : is[is.idxOf i] = i := by simp
    refine ⟨p, is.map V.int, .int i, is.idxOf i, .int i, rfl, rfl, h3, rfl, flat_ints, ?_, ?_, fun m z' hm hz => ?_, q _ H2 ps2 R2 (L1.trans L2) (.at _)⟩
    · rw [List.getElem?_map, List.getElem?_eq_getElem hlt, hget]
      rfl
    · rw [eqV_int]; simp
    · rw [List.getElem?_map] at hz
      have hm2 : m < is.length := Nat.lt_trans hm hlt
      rw [List.getElem?_eq_getElem hm2] at hz
      cases hz
      rw [eqV_int]
      have := List.not_of_lt_findIdx (p := (· == i)) (xs := is) (i := m) hm
      simpa using this⟩
/-! ### None or a value -/
class NotNone (α : Type) [Enc α] : Prop where
  nn : ∀ x : α, (Enc.enc x) ≠ .at .non
end Ab
set_option Elab.async false
set_option linter.all false
set_option maxRecDepth 100000
/-! Ranges as values, dict comprehensions, a list that is let go into a list, the least of some pairs. -/
namespace Ab
open PySem PySem.Spec PyProof.Rows L2
variable {X : Cx} {K : PySem.W.Frag} {G : Gh} {S S' S1 S2 S3 : Ms} {a b c e : Expr} {es : List Expr} {x y z : A} {as : List A} {pos p2 p3 apos pos' : Pos} {ps ps' ps0 : Ps} {σ : L2.St} {H H' H0 : Hp} {v : V} {ds : List Dt} {n : Str} {k : Nat} {tg iter elt tg1 iter1 : Expr} {st : Stmt} {rest body A' B' sts : List Stmt} {E : En4} {vs : List Nat}

/-! ### ranges as values -/
theorem cr_range1 : CallR X (.type "range") (fun vs H Q => ∃ j, vs = [V.int j] ∧ ∀ p, H p = none → Q (.ref p) (upd H p (.rng 0 j))) := by
  intro pins s σ H vs us Q I r h
  obtain ⟨j, rfl, q⟩ := h
  obtain ⟨u1, rfl, ri⟩ := vals1 r
  obtain ⟨t, rfl⟩ := ri
  refine call_range_1 ⟨.ref s.heap.objs.size, upd H s.heap.objs.size (.rng 0 j), I.laid (t' := s.toks + 1 + 1) (fun b o e => Heap.get?_push_of_some _ e) (Nat.le_refl _) ?_, rfl, q _ (I.hok.fresh (Nat.le_refl _))⟩
  exact ⟨s.toks, t, s.toks + 1, Heap.get?_push_size _ rfl⟩
theorem ev_rng1 {j : Int} (hm : X.mg "range" = none) (h : EV X G S a (En j) S1) (hg : Gl X "range" := by rfl) (he : starEach [a] X.env = (false, eval a X.env) :: starEach [] X.env := by rfl) (hpl : (backTo pos (starEach [] X.env)).any (·.1) = false := by rfl) :
    EV X G S (.Call (.Name "range" p2) [a] [] pos) (.dat (.rng 0 j)) S1 :=
  ev_ct cr_range1 hm (by decide +kernel) (ea_cons h ea_nil he) (fun us ps σ H Q R hA q => by
    obtain ⟨u, rfl, hu⟩ := p1 hA
    cases is_at hu
    refine ⟨j, rfl, fun p hp => ?_⟩
    obtain ⟨R2, L2, n⟩ := new_dat (o := .rng 0 j) R hp
    exact q _ _ ps R2 L2 (.rng upd_same n)) hg (by decide) (by decide) he hpl
theorem ev_rng2 {i j : Int} (hm : X.mg "range" = none) (h : EV X G S a (En i) S1) (h' : EV X G S1 b (En j) S2) (hg : Gl X "range" := by rfl) (he : starEach [a, b] X.env = (false, eval a X.env) :: starEach [b] X.env := by rfl) (he2 : starEach [b] X.env = (false, eval b X.env) :: starEach [] X.env := by rfl) (hpl : (backTo pos (starEach [b] X.env)).any (·.1) = false := by rfl) :
    EV X G S (.Call (.Name "range" p2) [a, b] [] pos) (.dat (.rng i j)) S2 :=
  ev_ct cr_range2 hm (by decide +kernel) (ea_cons h (ea_cons h' ea_nil he2) he) (fun us ps σ H Q R hA q => by
    obtain ⟨u, w, rfl, hu, hw⟩ := p2' hA
    cases is_at hu
    cases is_at hw
    refine ⟨i, j, rfl, fun p hp => ?_⟩
    obtain ⟨R2, L2, n⟩ := new_dat (o := .rng i j) R hp
    exact q _ _ ps R2 L2 (.rng upd_same n)) hg (by decide) (by decide) he hpl
/-- a range that stands in a name, walked -/
def iRngV (te : TE) : TI := fun σ H R => te σ H fun v H1 => ∃ (a : Addr) (lo hi : Int), v = .ref a ∧ H1 a = some (.rng lo hi) ∧ (-(2 ^ 62) ≤ lo ∧ lo < 2 ^ 62) ∧ (-(2 ^ 62) ≤ hi ∧ hi < 2 ^ 62) ∧ R (Itr lo (hi - lo).toNat) H1
theorem pi_rngV {l : Expr} {tl : TE} (hl : PE X l tl) : PI X tg l (iRngV tl) := by
  refine ⟨fun pins s σ H R I h => ?_⟩
  refine thn (hl.run pins s σ H _ I h) fun v s1 ⟨x, H1, I1, r1, q1⟩ => ?_
  obtain ⟨a, lo, hi, e, ha, ⟨h1, h2⟩, ⟨h3, h4⟩, q⟩ := q1
  subst e
  cases r1
  obtain ⟨t, u, w, ho⟩ := I1.hok a _ ha
  refine wpAny_pyIter_range (show IsRange s1.heap a lo hi 1 t u w from ho) (small_one h1 h2 h3 h4) ?_
  refine ⟨s1.heap.objs.size, [s1.heap.objs.size], _, _, H1, rfl, I1.kept (t' := s1.toks) fun b o e => Heap.get?_push_of_some _ e, turn_range _ lo (hi - lo).toNat, ?_, fun b hb => ?_, q⟩
  · have e1 : lo + ((0 : Nat) : Int) * 1 = lo := by simp
    have e2 : (((hi - lo).toNat : Nat) : Int) - ((0 : Nat) : Int) = Builtin.Range.rangeSize lo hi 1 := by rw [rangeSize_one]; split <;> omega
    show IsRangeIter _ _ (lo + ((0 : Nat) : Int) * 1) ((((hi - lo).toNat : Nat) : Int) - ((0 : Nat) : Int)) 1
    rw [e1, e2]
    exact Heap.get?_push_size _ rfl
  · have e : b = s1.heap.objs.size := by simpa using hb
    subst e
    exact I1.fpOk (Nat.le_refl _) (I1.hok.fresh (Nat.le_refl _))
theorem es_rngV {lo hi : Int} (h : EV X G S a (.dat (.rng lo hi)) S1) (h1 : RgOk lo) (h2 : RgOk hi) : ES X G S tg a ((rngL lo (hi - lo).toNat).map Enc.enc) S1 :=
  PI.imp (pi_rngV h) fun σ H R ⟨ps, r, q⟩ => ⟨ps, r, fun v H1 ps1 R1 L1 A1 => by
    cases A1 with
    | rng k1 k2 => exact ⟨_, lo, hi, rfl, k1, h1, h2, q _ H1 ps1 R1 L1 wk_rng⟩⟩

/-! ### the last list (dict) is let go: it is data from now on -/
theorem RelP.popK {D : Addr} {sl : List (Option A)} {cs : List C} {ds : List (Key × Dt)} (R : RelP K G (ps ++ [some D]) ⟨sl, cs ++ [.dk ds]⟩ σ H) (hb : ∃ r, ps = G.B.map some ++ r) (lo : Low ps.length ⟨sl, cs⟩) :
    RelP K G ps ⟨sl, cs⟩ σ H ∧ AIs K G ps H (.ref D) (.dat (.dct ds)) := by
  have hl : ps.length = cs.length := by
    have := R.clen
    simp at this
    exact this
  have kp : Keeps H (Out G (ps ++ [some D])) H (Out G ps) := fun a o e n => ⟨e, fun z => n (z.imp (fun z => List.mem_append_left _ z) id)⟩
  have nD : ¬ Out G ps D := fun z => by
    rcases z with z | z
    · obtain ⟨k, hk⟩ := List.mem_iff_getElem?.mp z
      have hk1 := (List.getElem?_eq_some_iff.mp hk).1
      have e1 : (ps ++ [some D])[k]? = some (some D) := by rw [List.getElem?_append_left hk1]; exact hk
      have e2 : (ps ++ [some D])[ps.length]? = some (some D) := by rw [List.getElem?_append_right (Nat.le_refl _)]; simp
      have := R.nd _ _ _ e1 e2
      omega
    · obtain ⟨n, nb⟩ := R.zd D z
      rcases R.new D (by simp) with h | h
      · exact nb h
      · exact n h
  obtain ⟨p, vs, e, h1, h2⟩ := R.cells cs.length (some D) (.dk ds) (by rw [← hl, List.getElem?_append_right (Nat.le_refl _)]; simp) (by show (cs ++ [_])[cs.length]? = _; rw [List.getElem?_append_right (Nat.le_refl _)]; simp)
  cases e
  refine ⟨⟨fun i j p hi hj => ?_, hb, fun p m => R.new p (List.mem_append_left _ m), R.keep, R.zd, hl, fun k q c' e1 e2 => ?_, ?_⟩, .dct h1 nD (IsKV.mono kp _ h2)⟩
  · have up : ∀ {k : Nat}, ps[k]? = some (some p) → (ps ++ [some D])[k]? = some (some p) := fun {k} h => by rw [List.getElem?_append_left (List.getElem?_eq_some_iff.mp h).1]; exact h
    exact R.nd i j p (up hi) (up hj)
  · have h := R.cells k q c' (by rw [List.getElem?_append_left (List.getElem?_eq_some_iff.mp e1).1]; exact e1) (by show (cs ++ [_])[k]? = _; rw [List.getElem?_append_left (List.getElem?_eq_some_iff.mp e2).1]; exact e2)
    cases c' with
    | gone => exact h
    | tab n =>
      obtain ⟨p, tb, e, h1, h2, h3⟩ := h
      refine ⟨p, tb, e, h1, h2, fun pos cv hc => ?_⟩
      obtain ⟨c, a, b, n⟩ := h3 pos cv hc
      exact ⟨c, a, (kp _ _ b n).1, (kp _ _ b n).2⟩
    | lst as =>
      obtain ⟨p, vs, e, h1, h2⟩ := h
      refine ⟨p, vs, e, h1, RelP.pop.Paired.mpm2 h2 fun v x m z => z.cut fun k' e' => lo.2 k as k' e2 (e' ▸ m)⟩
    | dk kvs =>
      obtain ⟨p, vs, e, h1, h2⟩ := h
      exact ⟨p, vs, e, h1, IsKV.mono kp _ h2⟩
  · refine RelP.pop.Paired.mpi R.slots fun i o s e1 e2 z => ?_
    cases s with
    | none => unfold SlOk; cases o <;> trivial
    | some x =>
      cases o with
      | none => exact z
      | some v => exact AIs.cut z fun k e => lo.1 i k (e ▸ e2)

/-! ### the least of some pairs -/
instance pdInt : PySem.W.Datum Int := inferInstance
theorem pd_pair (p : Int × Int) : EqE.pd p = PySem.W.Datum.toD p := rfl
def minP : List (Int × Int) → Int × Int
  | [] => default
  | x :: xs => PySem.W.minOf x xs
theorem pds (is : List (Int × Int)) : is.map EqE.pd = is.map PySem.W.Datum.toD := rfl
theorem readsAll_ix {h : Heap} : ∀ {us : List Value} {ds : List PyData} {as : List Addr}, ReadsAll h us ds as → ∀ {i : Nat} {v : Value}, us[i]? = some v → ∃ d bs, ds[i]? = some d ∧ Reads h v d bs
  | [], _, _, _, i, v, e => by simp at e
  | u :: us, _, _, h, i, v, e => by
    cases h with
    | cons h1 h2 =>
      cases i with
      | zero =>
        simp at e
        subst e
        exact ⟨_, _, rfl, h1⟩
      | succ i =>
        obtain ⟨d, bs, e1, e2⟩ := readsAll_ix h2 (i := i) (v := v) (by simpa using e)
        exact ⟨d, bs, by simpa using e1, e2⟩
theorem toD_inj {a b : Int × Int} (h : PySem.W.Datum.toD a = PySem.W.Datum.toD b) : a = b := by
  have h1 := PySem.W.Datum.eqv a b
  rw [← h, PySem.W.Datum.eqv a a] at h1
  simpa using h1
theorem cr_minP (hc : X.calm = true) (hu : X.A.units + 64 < cLine) : CallR X (.builtin "min") (fun us H Q => ∃ (a : Addr) (xs : List V) (is : List (Int × Int)), us = [.ref a] ∧ SqL X.K H a xs ∧ DpAll X.K H xs (is.map EqE.pd) ∧ is ≠ [] ∧
    ∀ (i : Nat) (v : V), xs[i]? = some v → is[i]? = some (minP is) → Q v H) := by
  intro pins s σ H vs us Q I r h
  obtain ⟨a, xs, is, rfl, hs, hd, hne, q⟩ := h
  obtain ⟨its, rv, hl, _⟩ := I.list hs
  rw [Vals.ref1 r]
  cases is with
  | nil => exact absurd rfl hne
  | cons x is =>
    obtain ⟨as2, hra⟩ := Dp.readsAll I _ _ _ hd rv
    rw [pds] at hra
    refine PySem.W.min_list_datum (I.ok.hd hc) hl.isList (show PySem.W.HoldAll s.heap its.toArray.toList (x :: is) from ⟨as2, by simpa using hra⟩) (by show X.A.units + 1 + 1 < cLine; omega) fun i v h' tk hv hh hk => ?_
    have hv' : its[i]? = some v := by simpa using hv
    obtain ⟨w, hw, rw'⟩ := Paired.at rv hv'
    refine ⟨w, H, I.kept hk, rw', q i w hw ?_⟩
    obtain ⟨as1, ra1⟩ := hh
    obtain ⟨d, bs, e1, e2⟩ := readsAll_ix hra hv'
    rw [List.getElem?_map] at e1
    cases e3 : (x :: is)[i]? with
    | none => rw [e3] at e1; cases e1
    | some p =>
      rw [e3] at e1
      cases e1
      have e4 := (Reads.unique (PyProof.Rows.Reads.keeps hk e2) _ _ ra1).1
      rw [toD_inj e4]
      rfl
theorem ev_minP {is : List (Int × Int)} (hu : X.A.units + 64 < cLine) (hc : X.calm = true) (hm : X.mg "min" = none) (h : EV X G S a x S1) (r : RdL S1 x (is.map Enc.enc)) (h0 : is ≠ []) (hg : Gl X "min" := by rfl) (he : starEach [a] X.env = (false, eval a X.env) :: starEach [] X.env := by rfl) (hpl : (backTo pos (starEach [] X.env)).any (·.1) = false := by rfl) :
    EV X G S (.Call (.Name "min" p2) [a] [] pos) (En (minP is)) S1 :=
  ev_cb (cr_minP hc hu) hm (by decide +kernel) (ea_cons h ea_nil he) (fun us ps σ H Q R hA q => by
    obtain ⟨u, rfl, hu⟩ := p1 hA
    obtain ⟨p, xs, rfl, h1, h2⟩ := R.rdl hu r
    refine ⟨p, xs, is, rfl, h1, dp_all h2, h0, fun i v hv hi => ?_⟩
    obtain ⟨d, e1, e2⟩ := IsAll.get' h2 hv
    rw [List.getElem?_map, hi] at e1
    cases e1
    exact q v H ps R Le.refl e2) hg (by decide) (by decide) he hpl

/-! ### sorted(d.values()), whole numbers -/
def vwOb (d : Addr) : Obj := { cls := .type "dict_values", data := .fields #[.ref d] }
/-- at p: the view of d's values -/
def vwO (p d : Addr) : HO := .ext fun h => h.get? p = some (vwOb d)
theorem vwO_ok {P : Program} {w : World} {H : Hp} {h : Heap} {p d : Addr} (e : h.get? p = some (vwOb d)) : ObjOk P w H h p (vwO p d) := ⟨e, ⟨_, e⟩, fun h1 h2 q k => k _ q⟩
def tVals (td : TE) : TE := fun σ H Q => td σ H fun x H1 => ∃ d kvs, x = .ref d ∧ H1 d = some (.dK kvs) ∧ ∀ p, H1 p = none → Q (.ref p) (upd H1 p (vwO p d))
theorem pe_vals {td : TE} {cpos : Pos} (he : PE X e td) (hbase : attributeBase e "values" X.env (eval e X.env) = eval e X.env := by rfl) (hline : (apos.endLine == cpos.line) = true := by rfl) : PE X (.Call (.Attribute e "values" apos) [] [] cpos) (tVals td) := by
  refine ⟨fun pins s σ H Q I h => ?_⟩
  refine wpAny_Call_method (T := "dict") (id := "dict.values") hbase rfl hline F.plainAttrs_dict F.slot_dict_values F.type_dict_values (thn (he.run pins s σ H _ I h) fun u s1 ⟨x, H1, I1, rx, d, kvs, ex, hd, q⟩ => ?_)
  subst ex
  obtain rfl : u = Value.ref d := rx
  obtain ⟨z, hs, vs, rel, dd⟩ := dk_of I1.hok hd
  refine ⟨dd.typeIs, dd.mapOf.noDict, ?_⟩
  show wpAny _ _ (callWith cpos (.builtin "dict.values") [.ref d] [] []) _ X.xe s1
  exact method_meetsIn F.slot_dict_values F.entry_dict_values rfl (PySem.evalArgs_none ⟨rfl, dd.typeIs, F.args_dict_values_1 _, _, meets_dict_values (mixKind X.prog X.w) d hs, ⟨vs, dd⟩,
    ⟨.ref s1.heap.objs.size, _, I1.laid (t' := s1.toks) (fun b o q => Heap.get?_push_of_some _ q) (Nat.le_refl _) (vwO_ok (Heap.get?_push_size _ rfl)), rfl, q _ (I1.hok.fresh (Nat.le_refl _))⟩⟩)
theorem kv_vals : ∀ {kvs : List (Key × V)} {vs : List (Key × Value)} {ks : List Int}, KV kvs vs → kvs.map (·.2) = ks.map V.int → ∀ {j : Nat} {k : Key} {v : Value}, vs[j]? = some (k, v) → ∃ y t, ks[j]? = some y ∧ v = .int y t
  | [], [], _, _, _, j, k, v, e => by simp at e
  | (k0, x) :: kvs, (k1, u) :: vs, [], _, h, _, _, _, _ => by simp at h
  | (k0, x) :: kvs, (k1, u) :: vs, y :: ks, .cons r t, h, j, k, v, e => by
    simp only [List.map_cons, List.cons.injEq] at h
    cases j with
    | zero =>
      simp at e
      obtain ⟨rfl, rfl⟩ := e
      have r2 := r.2
      rw [h.1] at r2
      obtain ⟨t, rfl⟩ := r2
      exact ⟨y, t, rfl, rfl⟩
    | succ j =>
      obtain ⟨y', t', e1, e2⟩ := kv_vals t h.2 (j := j) (k := k) (v := v) (by simpa using e)
      exact ⟨y', t', by simpa using e1, e2⟩
theorem call_sortedV (hcalm : X.calm = true) : CallR X (.builtin "sorted") (fun xs H Q => ∃ (p0 a : Addr) (kvs : List (Key × V)) (ks : List Int), xs = [.ref p0] ∧ H p0 = some (vwO p0 a) ∧ H a = some (.dK kvs) ∧ kvs.map (·.2) = ks.map V.int ∧ ks.length < 64 ∧
    ∀ (ys : List Int) (p : Addr), ys.Perm ks → ys.Pairwise (· ≤ ·) → H p = none → Q (.ref p) (upd H p (.lst (ys.map V.int)))) := by
  intro pins s σ H xs us Q I r q
  obtain ⟨p0, a, kvs, ks, ex, hp0, hd, hks, h64, q⟩ := q
  subst ex
  obtain ⟨u, eu, rx⟩ := vals1 r
  subst eu
  cases rx
  have hv : s.heap.get? p0 = some (vwOb a) := (show ObjOk X.prog X.w H s.heap p0 (vwO p0 a) from I.hok p0 _ hp0).1
  obtain ⟨z, lo, vs, rel, dd⟩ := dk_of I.hok hd
  obtain ⟨ep, hat⟩ := dd.dictAt
  have hl : vs.length = ks.length := by
    rw [← rel.length]
    have e := congrArg List.length hks
    rw [List.length_map, List.length_map] at e
    exact e
  have h16 : vs.length ≤ sizeLine := by rw [hl, sizeLine_eq]; omega
  refine Calls.call_function_entry PyProof.Rows.kind_sorted PyProof.Rows.plain_sorted PyProof.Rows.entry_sorted (PyProof.Rows.args_sorted1 _) ?_
  unfold Builtin.«sorted»
  refine wpAny_bind (m := checkCount "sorted" 1 1 _) (wpAny_pure ?_)
  refine wpAny_bind (PySem.W.kdu_collect (A := X.A.in1) (PySem.W.kdl_values (r := p0) (d := a) (knd := mixKind X.prog X.w) (kvs := vs) (ep := ep)) (I.ok.hd hcalm) ⟨⟨_, hv, rfl, rfl⟩, hat⟩ h16 fun h' tk acc hk hacc => ?_)
  have hal : acc.toList.length = ks.length := by rw [Array.length_toList, hacc.1, hl]
  have hS : IntsAre acc.toList ks := ints_each hal fun j v e => by
    obtain ⟨k, e1⟩ := hacc.2 j v (by rw [← Array.getElem?_toList]; exact e)
    obtain ⟨y, t, e2, e3⟩ := kv_vals rel hks e1
    exact ⟨y, t, e2, e3⟩
  have I1 : Inv X pins σ H { s with heap := h', toks := tk } := I.kept hk
  refine wpAny_bind (wpAny_newList ?_ (by rw [hal, sizeLine_eq]; omega))
  have hoL : (h'.push (seqObj "list" acc.toList.toArray 0)).get? h'.objs.size = some (seqObj "list" acc.toList.toArray 0) := Heap.get?_push_size _ rfl
  show wpAny _ _ _ _ _ { s with heap := h'.push (seqObj "list" acc.toList.toArray 0), toks := tk }
  refine wpAny_bind (wpAny_holding (wpAny_call_entry PyProof.Rows.slot_list_sort ⟨_, hoL, rfl⟩ PyProof.Rows.entry_list_sort
    (PyProof.Rows.list_sort_tree (s := { s with heap := h'.push (seqObj "list" acc.toList.toArray 0), toks := tk }) hoL hS (by rw [hal]; exact h64) fun out ys g1 g2 g3 => ⟨_, rfl, ?_⟩) (PyProof.Rows.args_list_sort _)))
  obtain ⟨e', he'⟩ := PyProof.Rows.sortedHeap_at (vs := acc.toList) (out := out) hoL
  have hlen : (ys.map V.int).length ≤ sizeLine := by
    rw [List.length_map, g2.length_eq]
    exact Nat.le_trans (Nat.le_of_lt h64) (by decide)
  refine wpAny_pure ⟨_, rfl, .ref h'.objs.size, upd H h'.objs.size (.lst (ys.map V.int)), I1.laid (t' := tk) (fun b u e => ?_) (Nat.le_refl _)
    (show ObjOk X.prog X.w _ _ _ (.lst (ys.map V.int)) from ⟨hlen, out.toList, e', vals_of_ints g1, by rw [Array.toArray_toList]; exact he'⟩), rfl, q ys _ g2 g3 (I1.hok.fresh (Nat.le_refl _))⟩
  have hb : b < h'.objs.size := Heap.lt_size e
  rw [PyProof.Rows.sortedHeap_old (Nat.ne_of_lt hb) (by rw [size_push']; exact Nat.lt_succ_of_lt hb)]
  exact Heap.get?_push_of_some _ e
theorem kD_vals {O : Ex} : ∀ {vs : List (Key × V)} {d : List (Int × Int)}, IsKV K H O vs (kD d) → vs.map (·.2) = (d.map (·.2)).map V.int
  | [], [], _ => rfl
  | (_, _) :: vs, (_, _) :: d, h => by
    cases h with
    | cons h1 t =>
      cases h1
      simp [kD_vals t]
  | [], _ :: _, h => nomatch h
  | _ :: _, [], h => nomatch h
theorem ev_sortV {d : List (Int × Int)} {cpos : Pos} (hc : X.calm = true) (hm : X.mg "sorted" = none) (h : EV X G S a (En (α := Dc Int) d) S1) (hl : d.length < 64) (hbase : attributeBase a "values" X.env (eval a X.env) = eval a X.env := by rfl) (hline : (apos.endLine == cpos.line) = true := by rfl)
    (hg : Gl X "sorted" := by rfl) (he : starEach [.Call (.Attribute a "values" apos) [] [] cpos] X.env = (false, eval (.Call (.Attribute a "values" apos) [] [] cpos) X.env) :: starEach [] X.env := by rfl) (hpl : (backTo pos (starEach [] X.env)).any (·.1) = false := by rfl) :
    EV X G S (.Call (.Name "sorted" p2) [.Call (.Attribute a "values" apos) [] [] cpos] [] pos) (En (sortI (d.map (·.2)))) S1 :=
  PE.imp (pe_callB (call_sortedV hc) hg hm (by decide +kernel) (pa_cons (pe_vals h hbase hline) pa_nil he) (by decide) (by decide) he hpl) fun σ H Q ⟨ps, R, q⟩ => ⟨ps, R, fun v H1 ps1 R1 L1 A1 => by
    cases A1 with
    | dct k1 k2 k3 =>
      rename_i ad xs
      refine ⟨ad, xs, rfl, k1, fun p hp => ?_⟩
      obtain ⟨R2, L2, n2⟩ := new_dat (o := vwO p ad) R1 hp
      refine ⟨p, ad, xs, d.map (·.2), rfl, upd_same, by rw [upd_ne (ne_of_none k1 hp)]; exact k1, kD_vals k3, by rw [List.length_map]; exact hl, fun ys p' g1 g2 hp' => ?_⟩
      have e : ys = sortI (d.map (·.2)) := sort_uniq (g1.trans (sortI_perm _).symm) g2 (sortI_sorted _)
      rw [e]
      obtain ⟨R3, L3, n3⟩ := new_dat (o := .lst ((sortI (d.map (·.2))).map V.int)) R2 hp'
      exact q _ _ ps1 R3 ((L1.trans L2).trans L3) (.lst upd_same n3 all_ints)⟩
end Ab
set_option Elab.async false
set_option linter.all false
set_option maxRecDepth 100000
/-! The last list that is let go everywhere; dict comprehensions. -/
namespace Ab
open PySem PySem.Spec PyProof.Rows L2
variable {X : Cx} {K : PySem.W.Frag} {G : Gh} {S S' S1 S2 S3 : Ms} {a b c e : Expr} {es : List Expr} {x y z : A} {as : List A} {pos p2 p3 apos pos' : Pos} {ps ps' ps0 : Ps} {σ : L2.St} {H H' H0 : Hp} {v : V} {ds : List Dt} {n : Str} {k : Nat} {tg iter elt tg1 iter1 : Expr} {st : Stmt} {rest body A' B' sts : List Stmt} {E : En4} {vs : List Nat}

def subA (j : Nat) (d : Dt) : A → A
  | .dat x => .dat x
  | .cell k => if k = j then .dat d else .cell k
def subC (j : Nat) (d : Dt) : C → C
  | .lst as => .lst (as.map (subA j d))
  | .dk kvs => .dk kvs
  | .gone => .gone
  | .tab n => .tab n
/-- what a cell's content is as data -/
def AsD (c : C) (d : Dt) : Prop := (∃ ds : List Dt, c = .lst (ds.map .dat) ∧ d = .lst ds) ∨ (∃ kvs, c = .dk kvs ∧ d = .dct kvs)
theorem asd_l {α : Type} [Enc α] {xs : List α} : AsD (Cl xs) (Enc.enc xs) := .inl ⟨xs.map Enc.enc, by rw [List.map_map]; rfl, rfl⟩
theorem asd_k {α : Type} [Enc α] {d : List (Int × α)} : AsD (Ck d) (Enc.enc (α := Dc α) d) := .inr ⟨kD d, rfl, rfl⟩
theorem Paired.mapR {α β : Type} {F F' : α → β → Prop} {f : β → β} : ∀ {xs : List α} {ys : List β}, Paired F xs ys → (∀ x y, y ∈ ys → F x y → F' x (f y)) → Paired F' xs (ys.map f)
  | _, _, .nil, _ => .nil
  | _, _, .cons r t, g => .cons (g _ _ List.mem_cons_self r) (Paired.mapR t fun x y m => g x y (List.mem_cons_of_mem _ m))
theorem RelP.thaw {D : Addr} {sl : List (Option A)} {cs : List C} {c : C} {d : Dt} (R : RelP K G (ps ++ [some D]) ⟨sl, cs ++ [c]⟩ σ H) (hb : ∃ r, ps = G.B.map some ++ r) (hc : AsD c d) :
    RelP K G ps ⟨sl.map (Option.map (subA cs.length d)), cs.map (subC cs.length d)⟩ σ H := by
  have hl : ps.length = cs.length := by
    have := R.clen
    simp at this
    exact this
  have kp : Keeps H (Out G (ps ++ [some D])) H (Out G ps) := fun a o e n => ⟨e, fun z => n (z.imp (fun z => List.mem_append_left _ z) id)⟩
  have nD : ¬ Out G ps D := fun z => by
    rcases z with z | z
    · obtain ⟨k, hk⟩ := List.mem_iff_getElem?.mp z
      have hk1 := (List.getElem?_eq_some_iff.mp hk).1
      have e1 : (ps ++ [some D])[k]? = some (some D) := by rw [List.getElem?_append_left hk1]; exact hk
      have e2 : (ps ++ [some D])[ps.length]? = some (some D) := by rw [List.getElem?_append_right (Nat.le_refl _)]; simp
      have := R.nd _ _ _ e1 e2
      omega
    · obtain ⟨n, nb⟩ := R.zd D z
      rcases R.new D (by simp) with h | h
      · exact nb h
      · exact n h
  have hD : Is K H (Out G ps) (.ref D) d := by
    have cell := R.cells cs.length (some D) c (by rw [← hl, List.getElem?_append_right (Nat.le_refl _)]; simp) (by show (cs ++ [_])[cs.length]? = _; rw [List.getElem?_append_right (Nat.le_refl _)]; simp)
    rcases hc with ⟨ds, rfl, rfl⟩ | ⟨kvs, rfl, rfl⟩
    · obtain ⟨p, vs, e, h1, h2⟩ := cell
      cases e
      exact .lst h1 nD (IsAll.mono kp _ (all_of h2))
    · obtain ⟨p, vs, e, h1, h2⟩ := cell
      cases e
      exact .dct h1 nD (IsKV.mono kp _ h2)
  have sub : ∀ {v : V} {x : A}, AIs K G (ps ++ [some D]) H v x → AIs K G ps H v (subA cs.length d x) := fun {v x} h => by
    cases x with
    | dat y => exact Is.mono kp y h
    | cell k =>
      obtain ⟨p, e, rfl⟩ := h
      show AIs K G ps H (.ref p) (if k = cs.length then .dat d else .cell k)
      by_cases hk : k = cs.length
      · subst hk
        rw [if_pos rfl]
        rw [← hl, List.getElem?_append_right (Nat.le_refl _)] at e
        simp at e
        subst e
        exact hD
      · rw [if_neg hk]
        have lt : k < ps.length := by
          have := (List.getElem?_eq_some_iff.mp e).1
          simp at this
          omega
        rw [List.getElem?_append_left lt] at e
        exact ⟨p, e, rfl⟩
  refine ⟨fun i j p hi hj => ?_, hb, fun p m => R.new p (List.mem_append_left _ m), R.keep, R.zd, by rw [List.length_map]; exact hl, fun k q c' e1 e2 => ?_, ?_⟩
  · have up : ∀ {k : Nat}, ps[k]? = some (some p) → (ps ++ [some D])[k]? = some (some p) := fun {k} h => by rw [List.getElem?_append_left (List.getElem?_eq_some_iff.mp h).1]; exact h
    exact R.nd i j p (up hi) (up hj)
  · rw [List.getElem?_map] at e2
    cases e3 : cs[k]? with
    | none => rw [e3] at e2; cases e2
    | some c0 =>
      rw [e3] at e2
      cases e2
      have h := R.cells k q c0 (by rw [List.getElem?_append_left (List.getElem?_eq_some_iff.mp e1).1]; exact e1) (by show (cs ++ [_])[k]? = _; rw [List.getElem?_append_left (List.getElem?_eq_some_iff.mp e3).1]; exact e3)
      cases c0 with
      | gone => exact h
      | tab n =>
        obtain ⟨p, tb, e, h1, h2, h3⟩ := h
        refine ⟨p, tb, e, h1, h2, fun pos cv hc => ?_⟩
        obtain ⟨c, a, b, n⟩ := h3 pos cv hc
        exact ⟨c, a, (kp _ _ b n).1, (kp _ _ b n).2⟩
      | lst as =>
        obtain ⟨p, vs, e, h1, h2⟩ := h
        exact ⟨p, vs, e, h1, Paired.mapR h2 fun v x m z => sub z⟩
      | dk kvs =>
        obtain ⟨p, vs, e, h1, h2⟩ := h
        exact ⟨p, vs, e, h1, IsKV.mono kp _ h2⟩
  · refine Paired.mapR R.slots fun o s _ z => ?_
    cases s with
    | none => unfold SlOk; cases o <;> trivial
    | some x =>
      cases o with
      | none => exact z
      | some v => exact sub (x := x) z
def Thw (j : Nat) (d : Dt) (c c' : C) : Prop := subC j d c = c'
theorem thw_l {j : Nat} {d : Dt} {α : Type} [Enc α] {xs : List α} : Thw j d (Cl xs) (Cl xs) := by
  show C.lst _ = _
  rw [List.map_map]
  rfl
theorem thw_k {j : Nat} {d : Dt} {α : Type} [Enc α] {xs : List (Int × α)} : Thw j d (Ck xs) (Ck xs) := rfl
theorem thw_t {j : Nat} {d : Dt} {n : Str} : Thw j d (.tab n) (.tab n) := rfl
theorem thw_g {j : Nat} {d : Dt} : Thw j d .gone .gone := rfl
theorem thw_a {j : Nat} {d : Dt} {α : Type} [Enc α] {xs : List α} {u : α} (h : Enc.enc u = d) : Thw j d (.lst ((xs.map fun x => A.dat (Enc.enc x)) ++ [.cell j])) (Cl (xs ++ [u])) := by
  show C.lst _ = _
  rw [List.map_append, List.map_map]
  have : [A.cell j].map (subA j d) = [A.dat d] := by simp [subA]
  rw [this, ← h]
  unfold Cl
  rw [List.map_append]
  rfl
theorem thws {j : Nat} {d : Dt} : ∀ {cs cs' : List C}, Paired (Thw j d) cs cs' → cs.map (subC j d) = cs'
  | _, _, .nil => rfl
  | _, _, .cons h t => by rw [List.map_cons, thws t, show subC j d _ = _ from h]
/-- the last list is let go: data from now on, wherever it is seen; none of the lists handed in -/
theorem wss_thaw {j : Nat} {sl sl' : List (Option A)} {cs cs' : List C} {c : C} {d : Dt} (hB : G.B.length ≤ j) (hj : cs.length = j) (hc : AsD c d) (h1 : sl.map (Option.map (subA j d)) = sl') (h2 : Paired (Thw j d) cs cs') (k : WSs X G ⟨sl', cs'⟩ sts E) : WSs X G ⟨sl, cs ++ [c]⟩ sts E :=
  PSs.imp k fun D σ H ⟨ps, R, dn⟩ => by
    have hlen := R.clen
    have hlen' : ps.length = cs.length + 1 := by simpa using hlen
    obtain ⟨q, hq⟩ : ∃ q, ps = ps.take cs.length ++ [q] := by
      have h1 : cs.length < ps.length := by omega
      refine ⟨ps[cs.length], ?_⟩
      rw [← List.take_succ_eq_append_getElem h1, List.take_of_length_le (by omega)]
    have hb : ∃ r, ps.take cs.length = G.B.map some ++ r := by
      obtain ⟨r, e⟩ := R.bs
      refine ⟨r.take (cs.length - G.B.length), ?_⟩
      rw [e, List.take_append, List.length_map, List.take_of_length_le (by rw [List.length_map]; omega)]
    have hq2 : ∃ D, q = some D := by
      have hk : ps[cs.length]? = some q := by
        rw [hq, List.getElem?_append_right (by rw [List.length_take]; omega), List.length_take, Nat.min_eq_left (by omega)]
        simp
      have ok := R.cells cs.length q c hk (by show (cs ++ [c])[cs.length]? = _; rw [List.getElem?_append_right (Nat.le_refl _)]; simp)
      rcases hc with ⟨ds, rfl, rfl⟩ | ⟨kvs, rfl, rfl⟩
      · obtain ⟨p, _, e, _⟩ := ok
        exact ⟨p, e⟩
      · obtain ⟨p, _, e, _⟩ := ok
        exact ⟨p, e⟩
    obtain ⟨D', rfl⟩ := hq2
    rw [hq] at R
    have R2 := R.thaw hb hc
    rw [hj, h1, thws h2] at R2
    refine ⟨_, R2, dn.le fun a o e n => ⟨e, fun z => n (z.imp (fun z => ?_) id)⟩⟩
    exact List.mem_of_mem_take z
/-- xs.append(ys), ys a list (a dict) of one's own -/
theorem ev_appC {j : Nat} {α : Type} [Enc α] {xs : List α} (ho : EV X G S a (.cell k) S) (ha : EV X G S e (.cell j) S) (hk : S.cs[k]? = some (Cl xs)) (hz : xs.length < 100000) (hbase : attributeBase a "append" X.env (eval a X.env) = eval a X.env := by rfl)
    (hfew : ((backTo pos (starEach [e] X.env)).all (fun x => !x.1) && (backToKw pos (keywordEach [] X.env)).all (fun x => x.1.isSome)
      && decide (([e] : List Expr).length + ([] : List Keyword).length + (if ([] : List Keyword).isEmpty then 0 else 1) < 30)) = true := by rfl)
    (hline : (apos.endLine == pos.line) = true := by rfl) (hs : starEach [e] X.env = (false, eval e X.env) :: starEach [] X.env := by rfl) (hplain : (backTo pos (starEach [] X.env)).any (·.1) = false := by rfl) :
    EV X G S (.Call (.Attribute a "append" apos) [e] [] pos) (En ()) ⟨S.sl, S.cs.set k (.lst ((xs.map fun x => A.dat (Enc.enc x)) ++ [.cell j]))⟩ :=
  ev_m1 PySem.F.slot_list_append PySem.F.type_list_append mt_append ho hk ha (fun vx vy ps σ H Q R hx hy q => by
    obtain ⟨p, vs, rfl, e1, h1, h2⟩ := cell_of R hx hk
    have hl := Paired.len h2
    rw [List.length_map] at hl
    obtain ⟨R2, L2⟩ := R.write (o := .lst (vs ++ [vy])) (c := .lst ((xs.map fun x => A.dat (Enc.enc x)) ++ [.cell j])) e1 fun x => ⟨p, vs ++ [vy], rfl, upd_same, Paired.app (Paired.mp h2 fun _ _ z => z.mono x) (.cons (hy.mono x) .nil)⟩
    exact ⟨p, vs, vy, rfl, rfl, h1, by rw [hl]; exact sz_lt hz, q _ _ ps R2 L2 (.at _)⟩) hbase hfew hline hs hplain

/-! ### {k: v for x in xs if ..} -/
section
variable {α β : Type} [Enc α] [Enc β]
def dcV (p : α → Bool) (kf : α → Int) (vf : α → β) (xs : List α) : List (Int × β) := (xs.filter p).foldl (fun d x => dput d (kf x) (vf x)) []
theorem dput_len {d : List (Int × β)} {i : Int} {u : β} : (dput d i u).length ≤ d.length + 1 := by
  unfold dput
  split <;> simp
theorem dfold_len {kf : α → Int} {vf : α → β} : ∀ (xs : List α) (d : List (Int × β)), (xs.foldl (fun d x => dput d (kf x) (vf x)) d).length ≤ d.length + xs.length
  | [], d => by simp
  | x :: xs, d => by
    have h1 := dfold_len (kf := kf) (vf := vf) xs (dput d (kf x) (vf x))
    have h2 := dput_len (d := d) (i := kf x) (u := vf x)
    simp only [List.foldl_cons, List.length_cons]
    omega
theorem Low.appK {n : Nat} {sl : List (Option A)} {cs : List C} {kd : List (Key × Dt)} (h : Low n ⟨sl, cs⟩) : Low n ⟨sl, cs ++ [.dk kd]⟩ := by
  refine ⟨h.1, fun j as k e m => ?_⟩
  rcases getElem?_snoc e with ⟨_, e⟩ | ⟨_, e⟩
  · exact h.2 j as k e m
  · cases e
theorem ev_dc {kx vx : Expr} {xs : List α} {p : α → Bool} {kf : α → Int} {vf : α → β} {I : Ms → Prop} {sl' : α → List (Option A)} {ifs : List Expr} {scope : Scope} (own : List (Str × Nat)) (hc : X.calm = true) (hN : X.N.Nodup) (ok : BlkOk X.N X.env.scope scope own)
    (hi : EI X G S tg iter (xs.map Enc.enc) I S1) (hI : ∀ sl c, I ⟨sl, S1.cs ++ [c]⟩) (hz : xs.length ≤ 100000)
    (hg : ∀ (s : Shared) (H : Hp) (Ca : Addr) (cl : List (Str × Addr)) (fp : List Addr) (x : α) (c : C), EG (X.blk s H scope (compEnvC scope cl Ca X.env) fp) G ⟨wipeA S1.sl (own.map (·.2)), S1.cs ++ [c]⟩ tg (En x) ⟨sl' x, S1.cs ++ [c]⟩ (own.map (·.2)))
    (ht : ∀ (s : Shared) (H : Hp) (Ca : Addr) (cl : List (Str × Addr)) (fp : List Addr) (x : α) (c : C), x ∈ xs → ETs (X.blk s H scope (compEnvC scope cl Ca X.env) fp) G ⟨sl' x, S1.cs ++ [c]⟩ ifs (p x) ⟨sl' x, S1.cs ++ [c]⟩)
    (hk : ∀ (s : Shared) (H : Hp) (Ca : Addr) (cl : List (Str × Addr)) (fp : List Addr) (x : α) (c : C), x ∈ xs → p x = true → EV (X.blk s H scope (compEnvC scope cl Ca X.env) fp) G ⟨sl' x, S1.cs ++ [c]⟩ kx (En (kf x)) ⟨sl' x, S1.cs ++ [c]⟩)
    (he : ∀ (s : Shared) (H : Hp) (Ca : Addr) (cl : List (Str × Addr)) (fp : List Addr) (x : α) (c : C), x ∈ xs → p x = true → EV (X.blk s H scope (compEnvC scope cl Ca X.env) fp) G ⟨sl' x, S1.cs ++ [c]⟩ vx (En (vf x)) ⟨sl' x, S1.cs ++ [c]⟩)
    (hs : ∀ x, foldedSetIterable iter X.env x = pure x := by intro _; rfl) : EV X G S (.DictComp kx vx [⟨tg, iter, ifs, 0⟩] scope pos) (En (α := Dc β) (dcV p kf vf xs)) S1 := by
  have hg' : ∀ (s : Shared) (H : Hp) (Ca : Addr) (cl : List (Str × Addr)) (fp : List Addr), PG (X.blk s H scope (compEnvC scope cl Ca X.env) fp) tg (fun v σ H Q => ∃ (x : α) (c : C), tEG X.K G ⟨wipeA S1.sl (own.map (·.2)), S1.cs ++ [c]⟩ (En x) ⟨sl' x, S1.cs ++ [c]⟩ (own.map (·.2)) v σ H Q) := fun s H Ca cl fp =>
    ⟨fun pins s2 σ H2 v u Q I r ⟨x, c, q⟩ => (hg s H Ca cl fp x c).run pins s2 σ H2 v u Q I r q⟩
  have ht' : ∀ (s : Shared) (H : Hp) (Ca : Addr) (cl : List (Str × Addr)) (fp : List Addr), PTs (X.blk s H scope (compEnvC scope cl Ca X.env) fp) ifs (fun σ H Q => ∃ (x : α) (c : C), x ∈ xs ∧ tET X.K G ⟨sl' x, S1.cs ++ [c]⟩ (p x) ⟨sl' x, S1.cs ++ [c]⟩ σ H Q) := fun s H Ca cl fp =>
    ⟨fun pins s2 σ H2 Q I ⟨x, c, m, q⟩ => (ht s H Ca cl fp x c m).run pins s2 σ H2 Q I q⟩
  have hk' : ∀ (s : Shared) (H : Hp) (Ca : Addr) (cl : List (Str × Addr)) (fp : List Addr), PE (X.blk s H scope (compEnvC scope cl Ca X.env) fp) kx (fun σ H Q => ∃ (x : α) (c : C), x ∈ xs ∧ p x = true ∧ tEV X.K G ⟨sl' x, S1.cs ++ [c]⟩ (En (kf x)) ⟨sl' x, S1.cs ++ [c]⟩ σ H Q) := fun s H Ca cl fp =>
    ⟨fun pins s2 σ H2 Q I ⟨x, c, m, hp, q⟩ => (hk s H Ca cl fp x c m hp).run pins s2 σ H2 Q I q⟩
  have he' : ∀ (s : Shared) (H : Hp) (Ca : Addr) (cl : List (Str × Addr)) (fp : List Addr), PE (X.blk s H scope (compEnvC scope cl Ca X.env) fp) vx (fun σ H Q => ∃ (x : α) (c : C), x ∈ xs ∧ p x = true ∧ tEV X.K G ⟨sl' x, S1.cs ++ [c]⟩ (En (vf x)) ⟨sl' x, S1.cs ++ [c]⟩ σ H Q) := fun s H Ca cl fp =>
    ⟨fun pins s2 σ H2 Q I ⟨x, c, m, hp, q⟩ => (he s H Ca cl fp x c m hp).run pins s2 σ H2 Q I q⟩
  refine PE.imp (pe_dc hc hN hi ok hg' ht' hk' he' hs) fun σ H Q ⟨ps, R, q⟩ => ⟨ps, R, fun J H1 ps1 R1 L1 wk D hD => ?_⟩
  let res : Nat → List (Int × β) := fun i => dcV p kf vf (xs.take i)
  have R2 := R1.cell (o := .dK []) (c := Ck (res 0)) hD fun x => ⟨D, [], rfl, upd_same, .nil⟩
  obtain ⟨R2, L2⟩ := R2
  have lo : Low ps1.length S1 := R1.low
  refine ⟨fun i m H3 => m = xs.length - i ∧ i ≤ xs.length ∧ RelP X.K G (ps1 ++ [some D]) ⟨S1.sl, S1.cs ++ [Ck (res i)]⟩ σ H3 ∧ Le G (ps1 ++ [some D]) (upd H1 D (.dK [])) (ps1 ++ [some D]) H3, ⟨xs.length, by omega, Nat.zero_le _, R2, Le.refl⟩, ?_⟩
  rintro i m H3 ⟨rfl, hi', R3, L3⟩
  obtain ⟨w1, w2⟩ := wk _ _ _ _ R3 (L2.trans L3) (hI _ _)
  by_cases hlt : i < xs.length
  · right
    have hx : xs[i]? = some xs[i] := List.getElem?_eq_getElem hlt
    have hm : xs[i] ∈ xs := List.getElem_mem hlt
    obtain ⟨g1, g2⟩ := w2 i (Enc.enc xs[i]) (by rw [List.getElem?_map, hx]; rfl)
    refine ⟨g1, fun H4 => RelP X.K G (ps1 ++ [some D]) ⟨S1.sl, S1.cs ++ [Ck (res (i + 1))]⟩ σ H4 ∧ Le G (ps1 ++ [some D]) (upd H1 D (.dK [])) (ps1 ++ [some D]) H4, fun H4 ⟨n1, n2⟩ => ⟨xs.length - (i + 1), by omega, rfl, hlt, n1, n2⟩, fun v H4 hy => ?_⟩
    obtain ⟨hk, hv⟩ := g2 v H4 hy
    obtain ⟨R4, L4⟩ := R3.same hk
    refine ⟨xs[i], Ck (res i), ps1 ++ [some D], R4.wipe _, hv, fun σ5 H5 ps5 R5 L5 hw => ⟨?_, ?_⟩⟩
    · have e := hw (own.map (·.2)) fun _ z => z
      rw [e]
      exact lc_any.wipe_wipe
    · have e5 := L5.eq (by rw [R5.clen, ← R4.clen])
      subst e5
      refine ⟨xs[i], Ck (res i), hm, _, R5, fun H6 ps6 R6 L6 => ?_⟩
      have e6 := L6.eq (by rw [R6.clen, ← R5.clen])
      subst e6
      have L46 := L4.trans (L5.trans L6)
      cases hp : p xs[i] with
      | false =>
        refine iteF ⟨?_, L3.trans L46⟩
        have : res (i + 1) = res i := by
          show dcV p kf vf _ = dcV p kf vf _
          unfold dcV
          rw [filter_snoc hx, hp, if_neg (by decide), List.append_nil]
        rw [this]
        exact R6.reslot (S := S1) (Paired.mp R3.slots fun _ _ z => z.mono L46)
      | true =>
        refine iteT ⟨xs[i], Ck (res i), hm, hp, _, R6, fun y H7 ps7 R7 L7 A7 => ?_⟩
        have e7 := L7.eq (by rw [R7.clen, ← R6.clen])
        subst e7
        refine ⟨xs[i], Ck (res i), hm, hp, _, R7, fun z H8 ps8 R8 L8 A8 => ?_⟩
        have e8 := L8.eq (by rw [R8.clen, ← R7.clen])
        subst e8
        have L48 := L46.trans (L7.trans L8)
        have hc8 : (ps1 ++ [some D])[S1.cs.length]? = some (some D) := by
          rw [← R1.clen, List.getElem?_append_right (Nat.le_refl _)]
          simp
        obtain ⟨q8, vs, e9, h1, h2⟩ := R8.cells S1.cs.length (some D) (Ck (res i)) hc8 (by show (S1.cs ++ [_])[S1.cs.length]? = _; rw [List.getElem?_append_right (Nat.le_refl _)]; simp)
        cases e9
        cases is_at A7
        have hlen : vs.length ≤ 100000 := by
          rw [kv_len h2]
          have h5 : (res i).length ≤ _ := dfold_len (kf := kf) (vf := vf) ((xs.take i).filter p) []
          have := List.length_filter_le p (xs.take i)
          rw [List.length_take] at this
          simp only [List.length_nil] at h5
          omega
        refine ⟨vs, Sum.inl (kf xs[i]), rfl, h1, Nat.lt_of_le_of_lt hlen (by decide), ?_⟩
        have R8' := R8.reslot (S := S1) (σ := σ) (Paired.mp R3.slots fun _ _ z => z.mono L48)
        have er : res (i + 1) = dput (res i) (kf xs[i]) (vf xs[i]) := by
          show dcV p kf vf _ = _
          unfold dcV
          rw [filter_snoc hx, hp, if_pos rfl, List.foldl_append]
          rfl
        obtain ⟨R9, L9⟩ := R8'.write (o := .dK (putK vs (Sum.inl (kf xs[i])) z)) (c := Ck (res (i + 1))) hc8 fun x => ⟨D, _, rfl, upd_same, by
          rw [er]
          exact IsKV.mono x.out _ (kv_put h2 A8)⟩
        refine ⟨?_, L3.trans (L48.trans L9)⟩
        have es : (S1.cs ++ [Ck (res i)]).set S1.cs.length (Ck (res (i + 1))) = S1.cs ++ [Ck (res (i + 1))] := by
          rw [List.set_append_right _ _ (Nat.le_refl _)]
          simp
        have R9' : RelP X.K G (ps1 ++ [some D]) ⟨S1.sl, (S1.cs ++ [Ck (res i)]).set S1.cs.length (Ck (res (i + 1)))⟩ σ (upd H8 D (.dK (putK vs (Sum.inl (kf xs[i])) z))) := R9
        rw [es] at R9'
        exact R9'
  · left
    have e : i = xs.length := by omega
    subst e
    refine ⟨by rw [List.length_map] at w1; exact w1, ?_⟩
    obtain ⟨R5, A5⟩ := R3.popK R1.bs lo
    refine q _ H3 ps1 R5 (L1.trans (L2.trans L3).cutD) ?_
    have : res xs.length = dcV p kf vf xs := by
      show dcV p kf vf (xs.take xs.length) = _
      rw [List.take_length]
    rw [this] at A5
    exact A5
end
/-! ### a range as a value -/
def Rg := Int × Int
instance : Enc Rg := ⟨fun p => .rng p.1 p.2⟩
end Ab
set_option Elab.async false
set_option linter.all false
set_option maxRecDepth 100000
/-! A list of lists of one's own that are changed in place, beside a dict. -/
namespace Ab
open PySem PySem.Spec PyProof.Rows L2
variable {X : Cx} {K : PySem.W.Frag} {G : Gh} {S S' S1 S2 S3 : Ms} {a b c e : Expr} {es : List Expr} {x y z : A} {as : List A} {pos p2 p3 apos pos' : Pos} {ps ps' ps0 : Ps} {σ : L2.St} {H H' H0 : Hp} {v : V} {ds : List Dt} {n : Str} {k : Nat} {tg iter elt tg1 iter1 : Expr} {st : Stmt} {rest body A' B' sts : List Stmt} {E : En4} {vs : List Nat}
section
variable {α : Type} [Enc α] {xs : List α} {u : α}
/-- xs[i] = e, xs told by an expression that may change lists -/
theorem sn_setC3 {i : Int} (h : EV X G S e (En u) S1) (ho : EV X G S1 a (.cell k) S2) (hi : EV X G S2 b (En i) S3) (hk : S3.cs[k]? = some (Cl xs)) (hb : 0 ≤ i ∧ i < xs.length)
    (ha : ∀ v, assign (.Subscript a b p2) X.env v = (do
      let ov ← holding [v] (eval a X.env)
      let iv ← holding [v, ov] (eval b X.env)
      standAt p2
      holding [v, ov, iv] (setItem ov iv v)
      release [v, ov, iv] []) := by intro _; rfl) (hs : swapsWithSole [.Subscript a b p2] e pos.line X.env = pure false := by rfl) (hw : swappedStores [.Subscript a b p2] e X.env = pure none := by rfl) (h1 : (assignEach [.Subscript a b p2] X.env).map (·.2) = [assign (.Subscript a b p2) X.env] := by rfl) : SN X G S (.Assign [.Subscript a b p2] e pos) ⟨S3.sl, S3.cs.set k (Cl (xs.set i.toNat u))⟩ :=
  PS.imp (ps_asg h (pg_sub ho hi set_list ha) hs hw h1) fun D σ H ⟨ps, R, d⟩ => ⟨ps, R, fun v H1 ps1 R1 L1 A1 => ⟨ps1, R1, fun o H2 ps2 R2 L2 A2 => ⟨ps2, R2, fun iv H3 ps3 R3 L3 A3 => by
    obtain ⟨p, vs, rfl, e1, h1, h2⟩ := cell_of R3 (A2.mono L3) hk
    have hl := Paired.len h2
    rw [List.length_map] at hl
    cases is_at A3
    have A1' := (A1.mono L2).mono L3
    obtain ⟨R4, L4⟩ := R3.write (o := .lst (vs.set i.toNat v)) (c := Cl (xs.set i.toNat u)) e1 fun x => ⟨p, vs.set i.toNat v, rfl, upd_same, by
      rw [List.map_set]
      exact Paired.set (A1'.mono x) _ (Paired.mp h2 fun _ _ z => z.mono x)⟩
    refine ⟨p, vs, i, i.toNat, rfl, rfl, h1, ?_, d _ _ ps3 R4 (((L1.trans L2).trans L3).trans L4).out⟩
    rw [hl]
    unfold ixN
    rw [if_pos hb.1, if_pos hb.2]⟩⟩⟩
end
/-- as[i], as a list of one's own of whatever is told -/
theorem ev_ixA {i : Nat} (h1 : EV X G S a (.cell k) S1) (h2 : EV X G S1 b (En (i : Int)) S2) (hk : S2.cs[k]? = some (.lst as)) (hi : as[i]? = some x) (hp : PlainIx b := by intro _ _; rfl) : EV X G S (.Subscript a b pos) x S2 :=
  ev_op2 h1 h2 (fun vx vy ps σ H Q R hx hy q => by
    obtain ⟨p, vs, rfl, e1, g1, g2⟩ := cell_of R hx hk
    obtain ⟨v, ev, hv⟩ := Paired.at g2 hi
    have hl : i < vs.length := (List.getElem?_eq_some_iff.mp ev).1
    refine ⟨p, vs, (i : Int), v, rfl, is_at hy, .inl (.inl g1), ?_, q _ H ps R Le.refl hv⟩
    unfold atI ixN
    rw [if_pos (by omega), if_pos (by omega)]
    simpa using ev) fun _ _ k1 k2 => pe_ix ix_list k1 k2 hp
/-! ### the state: found (its rows are lists of one's own), opened (a dict), the rows -/
def refs (b n : Nat) : List A := (List.range n).map fun i => .cell (b + i)
abbrev rowsC (rows : List (List Int)) : List C := rows.map fun r => Cl r
abbrev Trow (sl : List (Option A)) (rows : List (List Int)) (d : List (Int × Int)) : Ms := ⟨sl, [.lst (refs 2 rows.length), Ck d] ++ rowsC rows⟩
theorem refs_succ {b n : Nat} : refs b (n + 1) = refs b n ++ [.cell (b + n)] := by
  unfold refs
  rw [List.range_succ, List.map_append]
  rfl
theorem refs_len {b n : Nat} : (refs b n).length = n := by
  unfold refs
  simp
theorem refs_at {b n i : Nat} (h : i < n) : (refs b n)[i]? = some (.cell (b + i)) := by
  unfold refs
  rw [List.getElem?_map, List.getElem?_range h]
  rfl
section
variable {sl sl2 : List (Option A)} {rows : List (List Int)} {d : List (Int × Int)} {r : List Int}
theorem trow_0 : (Trow sl rows d).cs[0]? = some (.lst (refs 2 rows.length)) := rfl
theorem trow_1 : (Trow sl rows d).cs[1]? = some (Ck d) := rfl
theorem trow_at {i : Nat} (h : rows[i]? = some r) : (Trow sl rows d).cs[2 + i]? = some (Cl r) := by
  show ([_, _] ++ rowsC rows)[2 + i]? = _
  rw [List.getElem?_append_right (by simp)]
  show (rows.map _)[2 + i - 2]? = _
  rw [Nat.add_sub_cancel_left, List.getElem?_map, h]
  rfl
/-- found.append([a, b, c]) -/
theorem sn_addRow {spos lpos : Pos} (ho : EV X G (Trow sl rows d) a (.cell 0) (Trow sl rows d)) (ha : EA X G (Trow sl rows d) es (r.map fun x => En x) (Trow sl rows d)) (hr : r.length ≤ 100000) (hz : rows.length < 100000) (hbase : attributeBase a "append" X.env (eval a X.env) = eval a X.env := by rfl)
    (hfew : ((backTo pos (starEach [.List es lpos] X.env)).all (fun x => !x.1) && (backToKw pos (keywordEach [] X.env)).all (fun x => x.1.isSome)
      && decide (([.List es lpos] : List Expr).length + ([] : List Keyword).length + (if ([] : List Keyword).isEmpty then 0 else 1) < 30)) = true := by rfl)
    (hline : (apos.endLine == pos.line) = true := by rfl) (hs : starEach [.List es lpos] X.env = (false, eval (.List es lpos) X.env) :: starEach [] X.env := by rfl) (hplain : (backTo pos (starEach [.List es lpos] X.env)).any (·.1) = false := by rfl)
    (hsw : swapsWith (.Call (.Attribute a "append" apos) [.List es lpos] [] pos) none spos.line X.env = pure false := by rfl) :
    SN X G (Trow sl rows d) (.Expr (.Call (.Attribute a "append" apos) [.List es lpos] [] pos) spos) (Trow sl (rows ++ [r]) d) := by
  have h1 : EV X G (Trow sl rows d) (.List es lpos) (.cell (2 + rows.length)) ⟨sl, (Trow sl rows d).cs ++ [Cl r]⟩ := by
    have := ev_lstC (pos := lpos) (as := r.map fun x => En x) ha (by rw [List.length_map]; exact hr)
    have e : (Trow sl rows d).cs.length = 2 + rows.length := by
      simp
      omega
    rw [e] at this
    exact this
  have h2 : EV X G (Trow sl rows d) (.Call (.Attribute a "append" apos) [.List es lpos] [] pos) (En ()) (Trow sl (rows ++ [r]) d) := by
    refine ev_m1 PySem.F.slot_list_append PySem.F.type_list_append mt_append ho trow_0 h1 (fun vx vy ps σ H Q R hx hy q => ?_) hbase hfew hline hs hplain
    obtain ⟨p, vs, rfl, e1, g1, g2⟩ := cell_of (as := refs 2 rows.length) R hx rfl
    have hl := Paired.len g2
    rw [refs_len] at hl
    obtain ⟨R2, L2⟩ := R.write (o := .lst (vs ++ [vy])) (c := .lst (refs 2 (rows ++ [r]).length)) e1 fun x => ⟨p, vs ++ [vy], rfl, upd_same, by
      rw [List.length_append, List.length_singleton, refs_succ]
      exact Paired.app (Paired.mp g2 fun _ _ z => z.mono x) (.cons (hy.mono x) .nil)⟩
    refine ⟨p, vs, vy, rfl, rfl, g1, by rw [hl]; exact sz_lt hz, q _ _ ps ?_ L2 (.at _)⟩
    have e : ((Trow sl rows d).cs ++ [Cl r]).set 0 (.lst (refs 2 (rows ++ [r]).length)) = (Trow sl (rows ++ [r]) d).cs := by
      show C.lst _ :: _ = _
      simp
    rw [e] at R2
    exact R2
  exact sn_expr h2 hsw
/-- found[opened.pop(lock)][2] = e -/
theorem sn_setRow {f : Expr} {m : Expr} {i : Nat} {u : Int} {j : Int} {k1 : Nat} {c1 : Pos} {ipos : Pos} (h : EV X G (Trow sl rows d) e (En u) (Trow sl rows d)) (hf : EV X G (Trow sl rows d) f (.cell 0) (Trow sl rows d)) (hm : EV X G (Trow sl rows d) m (En (i : Int)) (Trow sl rows (ddel d j))) (hi : rows[i]? = some r) (hr : 2 < r.length)
    (hp : PlainIx m := by intro _ _; rfl)
    (ha : ∀ v, assign (.Subscript (.Subscript f m ipos) (.Constant (.int 2) k1 c1) p2) X.env v = (do
      let ov ← holding [v] (eval (.Subscript f m ipos) X.env)
      let iv ← holding [v, ov] (eval (.Constant (.int 2) k1 c1) X.env)
      standAt p2
      holding [v, ov, iv] (setItem ov iv v)
      release [v, ov, iv] []) := by intro _; rfl) (hs : swapsWithSole [.Subscript (.Subscript f m ipos) (.Constant (.int 2) k1 c1) p2] e pos.line X.env = pure false := by rfl) (hw : swappedStores [.Subscript (.Subscript f m ipos) (.Constant (.int 2) k1 c1) p2] e X.env = pure none := by rfl) (h1 : (assignEach [.Subscript (.Subscript f m ipos) (.Constant (.int 2) k1 c1) p2] X.env).map (·.2) = [assign (.Subscript (.Subscript f m ipos) (.Constant (.int 2) k1 c1) p2) X.env] := by rfl) :
    SN X G (Trow sl rows d) (.Assign [.Subscript (.Subscript f m ipos) (.Constant (.int 2) k1 c1) p2] e pos) (Trow sl (rows.set i (r.set 2 u)) (ddel d j)) := by
  have hil : i < rows.length := (List.getElem?_eq_some_iff.mp hi).1
  have ho : EV X G (Trow sl rows d) (.Subscript f m ipos) (.cell (2 + i)) (Trow sl rows (ddel d j)) := ev_ixA hf hm trow_0 (refs_at hil) hp
  have := sn_setC3 (pos := pos) (p2 := p2) (S3 := Trow sl rows (ddel d j)) h ho ev_int (trow_at hi) ⟨by decide, by omega⟩ ha hs hw h1
  have e : (⟨(Trow sl rows (ddel d j)).sl, (Trow sl rows (ddel d j)).cs.set (2 + i) (Cl (r.set (2 : Int).toNat u))⟩ : Ms) = Trow sl (rows.set i (r.set 2 u)) (ddel d j) := by
    have e1 : (Trow sl rows (ddel d j)).cs.set (2 + i) (Cl (r.set (2 : Int).toNat u)) = (Trow sl (rows.set i (r.set 2 u)) (ddel d j)).cs := by
      show ([_, _] ++ rowsC rows).set (2 + i) _ = [_, _] ++ rowsC _
      rw [List.set_append_right _ _ (by simp)]
      rw [List.length_set]
      congr 1
      show (rows.map _).set (2 + i - 2) _ = (rows.set i _).map _
      rw [Nat.add_sub_cancel_left, List.map_set]
      rfl
    rw [e1]
  rw [e] at this
  exact this
/-- the dict's pop and put, within -/
theorem trow_set1 {d' : List (Int × Int)} : (⟨(Trow sl rows d).sl, (Trow sl rows d).cs.set 1 (Ck d')⟩ : Ms) = Trow sl rows d' := rfl
theorem snocInd {α : Type} {P : List α → Prop} (h0 : P []) (hs : ∀ (l : List α) (x : α), P l → P (l ++ [x])) (l : List α) : P l := by
  have h : ∀ l : List α, P l.reverse := fun l => by
    induction l with
    | nil => exact h0
    | cons x l ih =>
      rw [List.reverse_cons]
      exact hs _ _ ih
  have := h l.reverse
  rwa [List.reverse_reverse] at this
/-- all rows are let go -/
theorem wss_thawRows (hB : G.B.length ≤ 2) : ∀ (rows more : List (List Int)) (d : List (Int × Int)), (∀ (i k : Nat), sl[i]? = some (some (.cell k)) → k < 2) →
    WSs X G ⟨sl, [Cl (rows ++ more), Ck d]⟩ sts E → WSs X G ⟨sl, [.lst (refs 2 rows.length ++ more.map fun r => En r), Ck d] ++ rowsC rows⟩ sts E := by
  refine snocInd (P := fun rows => ∀ (more : List (List Int)) (d : List (Int × Int)), (∀ (i k : Nat), sl[i]? = some (some (.cell k)) → k < 2) → WSs X G ⟨sl, [Cl (rows ++ more), Ck d]⟩ sts E → WSs X G ⟨sl, [.lst (refs 2 rows.length ++ more.map fun r => En r), Ck d] ++ rowsC rows⟩ sts E) (fun more d _ k => k) fun rows r ih => ?_
  · intro more d hl k
    have e : [C.lst (refs 2 (rows ++ [r]).length ++ more.map fun r => En r), Ck d] ++ rowsC (rows ++ [r]) = ([C.lst (refs 2 (rows ++ [r]).length ++ more.map fun r => En r), Ck d] ++ rowsC rows) ++ [Cl r] := by
      simp
    rw [e]
    refine wss_thaw (j := 2 + rows.length) (sl' := sl) (cs' := [C.lst (refs 2 rows.length ++ (r :: more).map fun r => En r), Ck d] ++ rowsC rows) (by omega) (by simp; omega) asd_l ?_ ?_ ?_
    · apply List.ext_getElem?
      intro i
      rw [List.getElem?_map]
      cases q : sl[i]? with
      | none => rfl
      | some o =>
        cases o with
        | none => rfl
        | some x =>
          cases x with
          | dat y => rfl
          | cell m =>
            have := hl i m q
            show some (some (if m = 2 + rows.length then _ else _)) = _
            rw [if_neg (by omega)]
    · refine .cons ?_ (.cons thw_k ?_)
      · show C.lst _ = C.lst _
        congr 1
        rw [List.length_append, List.length_singleton, refs_succ, List.map_append, List.map_append, List.map_map]
        have e1 : (refs 2 rows.length).map (subA (2 + rows.length) (Enc.enc r)) = refs 2 rows.length := by
          apply List.ext_getElem?
          intro i
          rw [List.getElem?_map]
          by_cases h : i < rows.length
          · rw [refs_at h]
            show some (if 2 + i = 2 + rows.length then _ else _) = _
            rw [if_neg (by omega)]
          · rw [List.getElem?_eq_none (by rw [refs_len]; omega)]
            rfl
        have e2 : [A.cell (2 + rows.length)].map (subA (2 + rows.length) (Enc.enc r)) = [En r] := by
          show [if _ = _ then _ else _] = _
          rw [if_pos rfl]
        rw [e1, e2]
        simp [Function.comp_def, subA]
      · have : ∀ rs : List (List Int), Paired (Thw (2 + rows.length) (Enc.enc r)) (rowsC rs) (rowsC rs) := fun rs => by
          induction rs with
          | nil => exact .nil
          | cons _ _ ih => exact .cons thw_l ih
        exact this rows
    · refine ih (r :: more) d hl ?_
      rw [List.append_assoc] at k
      exact k
end
instance {α : Type} : Inhabited (Dc α) := ⟨([] : List (Int × α))⟩
/-! ### rows of three -/
abbrev toL (r : Int × Int × Int) : List Int := [r.1, r.2.1, r.2.2]
abbrev Trw (sl : List (Option A)) (s : List (Int × Int × Int) × List (Int × Int)) : Ms := Trow sl (s.1.map toL) s.2
theorem toL_mod (i : Nat) (u : Int) : ∀ (rows : List (Int × Int × Int)) {r : Int × Int × Int}, rows[i]? = some r → (rows.map toL).set i ((toL r).set 2 u) = (rows.modify i fun r => (r.1, r.2.1, u)).map toL := by
  induction i with
  | zero =>
    intro rows r h
    cases rows with
    | nil => simp at h
    | cons x xs =>
      simp at h
      subst h
      simp [List.modify_cons]
  | succ i ih =>
    intro rows r h
    cases rows with
    | nil => simp at h
    | cons x xs =>
      have := ih xs (r := r) (by simpa using h)
      show toL x :: (xs.map toL).set i ((toL r).set 2 u) = toL x :: (xs.modify i fun r => (r.1, r.2.1, u)).map toL
      rw [this]
theorem enc_toL (rows : List (Int × Int × Int)) : En (α := Tp (Tp Int)) (rows.map toL) = En (α := Tp (T3 Int Int Int)) rows := by
  have e : ∀ rows : List (Int × Int × Int), List.map (fun r : List Int => Enc.enc (α := Tp Int) r) (rows.map toL) = List.map (fun r => Enc.enc (α := T3 Int Int Int) r) rows := fun rows => by
    rw [List.map_map]
    rfl
  exact congrArg (fun z => A.dat (Dt.tup z)) (e rows)
/-- len of a list of one's own of whatever -/
theorem ev_lenA {m : Nat} (hm : X.mg "len" = none) (h : EV X G S a (.cell k) S1) (hk : S1.cs[k]? = some (.lst as)) (hl : as.length = m) (hg : Gl X "len" := by rfl) (he : starEach [a] X.env = (false, eval a X.env) :: starEach [] X.env := by rfl) (hpl : (backTo pos (starEach [] X.env)).any (·.1) = false := by rfl) :
    EV X G S (.Call (.Name "len" p2) [a] [] pos) (En (m : Int)) S1 :=
  ev_cb call_len_seq hm (by decide +kernel) (ea_cons h ea_nil he) (fun vs ps σ H Q R A1 q => by
    obtain ⟨v, rfl, h1⟩ := p1 A1
    obtain ⟨p, ys, rfl, e1, g1, g2⟩ := cell_of R h1 hk
    have e := Paired.len g2
    rw [hl] at e
    refine ⟨p, ys, rfl, .inl (.inl (.inl g1)), ?_⟩
    rw [e]
    exact q _ H ps R Le.refl (.at _)) hg (by decide) (by decide) he hpl
end Ab
set_option Elab.async false
set_option linter.all false
set_option maxRecDepth 100000
/-! isinstance; data taken apart without a type. -/
namespace Ab
open PySem PySem.Spec PyProof.Rows L2
variable {X : Cx} {K : PySem.W.Frag} {G : Gh} {S S' S1 S2 S3 : Ms} {a b c e : Expr} {es : List Expr} {x y z : A} {as : List A} {pos p2 p3 apos pos' : Pos} {ps ps' ps0 : Ps} {σ : L2.St} {H H' H0 : Hp} {v : V} {ds : List Dt} {n : Str} {k : Nat} {tg iter elt tg1 iter1 : Expr} {st : Stmt} {rest body A' B' sts : List Stmt} {E : En4} {vs : List Nat} {d : Dt}
def tyD : Dt → Option String
  | .at .non => some "NoneType"
  | .at (.bl _) => some "bool"
  | .at (.int _) => some "int"
  | .at (.str _) => some "str"
  | .tup _ => some "tuple"
  | .lst _ => some "list"
  | .dct _ => some "dict"
  | _ => none
theorem tyx_tup {a : Addr} {xs : List V} (s : SqT K H a xs) : TyX K H (.ref a) (.type "tuple") := by
  rcases s with (s | ⟨o, s⟩) | ⟨o, its, n, h1, h2, _⟩
  · exact .base (.tup s)
  · exact .fTuple s
  · exact .kTuple h1 h2
theorem tyx_of {O : Ex} {T : String} (h : Is K H O v d) (ht : tyD d = some T) : TyX K H v (.type T) := by
  cases h with
  | «at» v =>
    cases v with
    | non => cases ht; exact .base .non
    | bl b => cases ht; exact .base (.bl b)
    | int i => cases ht; exact .base (.int i)
    | str z => cases ht; exact .base (.str z)
    | _ => cases ht
  | tup s _ => cases ht; exact tyx_tup s.sq
  | lst s _ _ => cases ht; exact .base (.lst s)
  | ro _ _ => cases ht
  | dct s _ _ => cases ht; exact .base (.dK s)
  | rng _ _ => cases ht
/-- isinstance(a, C) of data whose kind is known -/
theorem ev_isi {T C : String} {cn : Str} {cpos : Pos} {r : Bool} (hm : X.mg "isinstance" = none) (hm2 : X.mg cn = none) (hv2 : bootBuiltins cn = some (.type C)) (h : EV X G S a (.dat d) S1) (ht : tyD d = some T) (hk : kitB T C = some r)
    (hg : Gl X "isinstance" := by rfl) (hg2 : Gl X cn := by rfl) (hn2 : cn ≠ "__name__" := by decide) (hd2 : (cn == ("__debug__" : Str)) = false := by decide) (he : starEach [a, .Name cn cpos] X.env = (false, eval a X.env) :: starEach [.Name cn cpos] X.env := by rfl)
    (he2 : starEach [.Name cn cpos] X.env = (false, eval (.Name cn cpos) X.env) :: starEach [] X.env := by rfl) (hpl : (backTo pos (starEach [.Name cn cpos] X.env)).any (·.1) = false := by rfl) :
    EV X G S (.Call (.Name "isinstance" p2) [a, .Name cn cpos] [] pos) (En r) S1 :=
  ev_cb call_isi hm (by decide +kernel) (ea_cons h (ea_cons (ev_at (v := .ty C) (pe_bltn hg2 hm2 hv2 rfl hn2 hd2)) ea_nil he2) he) (fun us ps σ H Q R hA q => by
    obtain ⟨u, w, rfl, hu, hw⟩ := p2' hA
    cases is_at hw
    exact ⟨u, .ty C, .type T, .type C, r, rfl, .ty C, tyx_of hu ht, kit_ty hk, q _ H ps R Le.refl (.at _)⟩) hg (by decide) (by decide) he hpl
/-! ### by items -/
theorem ev_lenD (hm : X.mg "len" = none) (h : EV X G S a x S1) (r : RdS S1 x ds) (hg : Gl X "len" := by rfl) (he : starEach [a] X.env = (false, eval a X.env) :: starEach [] X.env := by rfl) (hpl : (backTo pos (starEach [] X.env)).any (·.1) = false := by rfl) :
    EV X G S (.Call (.Name "len" p2) [a] [] pos) (En (ds.length : Int)) S1 :=
  ev_cb call_len_seq hm (by decide +kernel) (ea_cons h ea_nil he) (fun vs ps σ H Q R A1 q => by
    obtain ⟨v, rfl, h1⟩ := p1 A1
    obtain ⟨q0, ys, rfl, h2, h3⟩ := R.rds h1 r
    have e := h3.length
    refine ⟨q0, ys, rfl, h2, ?_⟩
    rw [e]
    exact q _ H ps R Le.refl (.at _)) hg (by decide) (by decide) he hpl
theorem ev_ixD {i : Nat} (h1 : EV X G S a (.dat (.tup ds)) S1) (h2 : EV X G S1 b (En (i : Int)) S2) (hi : ds[i]? = some d) (hp : PlainIx b := by intro _ _; rfl) : EV X G S (.Subscript a b pos) (.dat d) S2 :=
  ev_op2 h1 h2 (fun vx vy ps σ H Q R hx hy q => by
    obtain ⟨q0, ys, rfl, k1, k2⟩ := rd_t hx rfl
    have hlt : i < ds.length := (List.getElem?_eq_some_iff.mp hi).1
    obtain ⟨v, e, hv⟩ := at_all (i := (i : Int)) (d := d) k2 (by unfold atI ixN; rw [if_pos (by omega), if_pos (by omega)]; simpa using hi)
    exact ⟨q0, ys, (i : Int), v, rfl, is_at hy, k1, e, q _ H ps R Le.refl hv⟩) fun _ _ k1 k2 => pe_ix ix_tup k1 k2 hp
/-- plain data, nested at most n deep -/
def okD : Nat → Dt → Bool
  | _, .at .non => true
  | _, .at (.bl _) => true
  | _, .at (.int _) => true
  | _, .at (.str _) => true
  | n + 1, .tup ds => decide (ds.length ≤ 100000) && ds.all (okD n)
  | _, _ => false
theorem okD_tup {n : Nat} {ds : List Dt} : okD (n + 1) (.tup ds) = true ↔ ds.length ≤ 100000 ∧ ∀ x ∈ ds, okD n x = true := by
  simp [okD]
theorem okD_tp {n : Nat} {α : Type} [Enc α] {xs : List α} (hl : xs.length ≤ 100000) (h : ∀ x ∈ xs, okD n (Enc.enc x) = true) : okD (n + 1) (Enc.enc (α := Tp α) xs) = true := by
  refine okD_tup.mpr ⟨?_, fun d hd => ?_⟩
  · show (List.map _ xs).length ≤ _
    rw [List.length_map]
    exact hl
  · obtain ⟨x, hx, rfl⟩ := List.mem_map.mp hd
    exact h x hx
theorem okD_p2 {n : Nat} {α β : Type} [Enc α] [Enc β] {x : α × β} (h1 : okD n (Enc.enc x.1) = true) (h2 : okD n (Enc.enc x.2) = true) : okD (n + 1) (Enc.enc x) = true :=
  okD_tup.mpr ⟨Nat.le_of_ble_eq_true rfl, fun d hd => by
    rcases List.mem_cons.mp hd with h | hd
    · rw [h]; exact h1
    · rw [List.mem_singleton.mp hd]; exact h2⟩
theorem okD_p3 {n : Nat} {α β γ : Type} [Enc α] [Enc β] [Enc γ] {x : T3 α β γ} (h1 : okD n (Enc.enc x.1) = true) (h2 : okD n (Enc.enc x.2.1) = true) (h3 : okD n (Enc.enc x.2.2) = true) : okD (n + 1) (Enc.enc x) = true :=
  okD_tup.mpr ⟨Nat.le_of_ble_eq_true rfl, fun d hd => by
    rcases List.mem_cons.mp hd with h | hd
    · rw [h]; exact h1
    · rcases List.mem_cons.mp hd with h | hd
      · rw [h]; exact h2
      · rw [List.mem_singleton.mp hd]; exact h3⟩
theorem okD_i {n : Nat} {i : Int} : okD n (Enc.enc i) = true := by cases n <;> rfl
theorem okD_b {n : Nat} {i : Bool} : okD n (Enc.enc i) = true := by cases n <;> rfl
theorem okD_s {n : Nat} {i : Str} : okD n (Enc.enc i) = true := by cases n <;> rfl
theorem rngL_mem {n : Nat} {x : Int} (h : x ∈ rngL 0 n) : ∃ i : Nat, i < n ∧ x = (i : Int) := by
  unfold rngL at h
  obtain ⟨i, hi, rfl⟩ := List.mem_map.mp h
  exact ⟨i, List.mem_range.mp hi, by simp⟩
theorem et_isN {v : V} {j : Nat} (h : EV X G S a (.dat (.at v)) S1) : ET X G S (.Compare a [.Is] [.Constant .none j pos'] pos) (decide (v = .non)) S1 :=
  PT.imp (pt_cmp (pc_isN h)) fun σ H Q ⟨ps, R, k⟩ => ⟨ps, R, fun w H1 ps1 R1 L1 A1 => by
    cases is_at A1
    exact ⟨_, rfl, k H1 ps1 R1 L1⟩⟩
theorem ev_eqS {s t : Str} (hx : EV X G S a (En s) S1) (hy : EV X G S1 b (En t) S2) : EV X G S (.Compare a [.Eq] [b] pos) (En (decide (s = t))) S2 := (ev_cmp op_eq hx hy (r2_eq (v := .str s) (w := .str t) rfl) (nomark _)).to (by rw [dstr])
theorem ev_neS {s t : Str} (hx : EV X G S a (En s) S1) (hy : EV X G S1 b (En t) S2) : EV X G S (.Compare a [.NotEq] [b] pos) (En (!decide (s = t))) S2 := (ev_cmp op_ne hx hy (r2_ne (v := .str s) (w := .str t) rfl) (nomark _)).to (by rw [dstr])
theorem rgOk_nat {n : Nat} (h : n ≤ 100000) : RgOk (n : Int) := by
  have e : (2 ^ 62 : Int) = 4611686018427387904 := by decide
  unfold RgOk
  rw [e]
  constructor <;> omega
end Ab
set_option Elab.async false
set_option linter.all false
set_option maxRecDepth 100000
/-! Calls with keywords; further operators; comprehensions that change one of several lists. -/
namespace Ab
open PySem PySem.Spec PyProof.Rows L2
variable {X : Cx} {K : PySem.W.Frag} {G : Gh} {S S' S1 S2 S3 : Ms} {a b c e : Expr} {es : List Expr} {x y z : A} {as : List A} {pos p2 p3 apos pos' : Pos} {ps ps' ps0 : Ps} {σ : L2.St} {H H' H0 : Hp} {v : V} {ds : List Dt} {n : Str} {k : Nat} {tg iter elt tg1 iter1 : Expr} {st : Stmt} {rest body A' B' sts : List Stmt} {E : En4} {vs : List Nat} {d : Dt}
/-! ### keywords -/
def EK (X : Cx) (G : Gh) (S : Ms) (kws : List Keyword) (as : List A) (S' : Ms) : Prop := PK X kws (tEA X.K G S as S')
theorem PK.imp {kws : List Keyword} {t t' : TA} (h : PK X kws t) (f : ∀ σ H Q, t' σ H Q → t σ H Q) : PK X kws t' := ⟨fun ps pins s σ H Q I q => h.run ps pins s σ H Q I (f σ H Q q)⟩
theorem ek_nil : EK X G S [] [] S := PK.imp pk_nil fun σ H Q ⟨ps, R, k⟩ => k [] H ps R Le.refl .nil
theorem ek_cons {nm : Option Str} {kws : List Keyword} {kpos : Pos} (h : EV X G S a x S1) (t : EK X G S1 kws as S2) : EK X G S (⟨nm, a, kpos⟩ :: kws) (x :: as) S2 :=
  PK.imp (pk_cons h t) fun σ H Q ⟨ps, R, k⟩ => ⟨ps, R, fun v H1 ps1 R1 L1 A1 => ⟨ps1, R1, fun vs H2 ps2 R2 L2 A2 => k (v :: vs) H2 ps2 R2 (L1.trans L2) (.cons (A1.mono L2) A2)⟩⟩
/-- f(e, .., k = v, ..) with no keyword ahead of its place -/
def gA {α : Type} (m k : Nat) (us ws : List α) : List α := if us.length = m ∧ ws.length = k then us ++ ws else []
theorem gA_eq {α : Type} {m k : Nat} {us ws : List α} (h1 : us.length = m) (h2 : ws.length = k) : gA m k us ws = us ++ ws := if_pos ⟨h1, h2⟩
abbrev KBn (K : PySem.W.Frag) (fd : FuncData) (ps ks : List Str) : Prop := KBinds K fd ps ks (gA (ps.length - ks.length) ks.length) (gA (ps.length - ks.length) ks.length)
theorem kbn_by {K : PySem.W.Frag} {fd : FuncData} {ps ks : List Str} (hne : ps.length ≠ 0) (h : ∀ us ws : List Value, us.length = ps.length - ks.length → ws.length = ks.length → bindArgs fd ⟨us, ks.zip ws⟩ = pure (ps.zip (us ++ ws))) : KBn K fd ps ks :=
  ⟨fun s us ws _ hl => by
    by_cases c : us.length = ps.length - ks.length ∧ ws.length = ks.length
    · rw [gA_eq c.1 c.2]
      exact .of_eq (h us ws c.1 c.2)
    · have e0 : gA (ps.length - ks.length) ks.length us ws = [] := if_neg c
      rw [e0] at hl
      exact absurd hl.symm hne, fun {vs us zs ws} r1 r2 => by
    have e1 := r1.length
    have e2 := r2.length
    by_cases c : us.length = ps.length - ks.length ∧ ws.length = ks.length
    · rw [gA_eq c.1 c.2, gA_eq (e1.trans c.1) (e2.trans c.2)]
      exact vals_app r1 r2
    · have e3 : gA (ps.length - ks.length) ks.length us ws = [] := if_neg c
      have e4 : gA (ps.length - ks.length) ks.length vs zs = [] := if_neg (by rw [e1, e2]; exact c)
      rw [e3, e4]
      exact .nil⟩
where
  vals_app {vs : List V} {us : List Value} {zs : List V} {ws : List Value} (r1 : Vals vs us) (r2 : Vals zs ws) : Vals (vs ++ zs) (us ++ ws) := Paired.app r1 r2
structure DfK (P : Program) (w : World) (K : PySem.W.Frag) (mg : Str → Option Value) (base : Heap) (CX : CXT) (k : Nat) (n : Str) (ps ks : List Str) (φ : Ct) : Prop where
  ex : ∃ f fd, FnOk P w K mg base CX k f fd ps (SpA K φ) ∧ mg n = some (.ref f) ∧ PySem.W.keepIn K (.ref f) = true ∧ KBn K fd ps ks
structure TopK (K : PySem.W.Frag) (mg : Str → Option Value) (n : Str) (st : Stmt) (ps ks : List Str) : Prop where
  ex : ∃ f fd, Fun K n n st f fd ∧ mg n = some (.ref f) ∧ KBn K fd ps ks
theorem Df.toK {P : Program} {w : World} {mg : Str → Option Value} {base : Heap} {CX : CXT} {k : Nat} {ps ks : List Str} {φ : Ct} (D : Df P w K mg base CX k n ps φ) (T : TopK K mg n st ps ks) : DfK P w K mg base CX k n ps ks φ := by
  obtain ⟨f, fd, F, m, kp, b, o, d, sl, lk⟩ := D.ex
  obtain ⟨f', fd', F', m', kb⟩ := T.ex
  rw [m] at m'
  cases m'
  obtain ⟨oc, od, _, _, _, _, _, _, osl, _, lk', _⟩ := F'.ex
  rw [lk] at lk'
  cases lk'
  exact ⟨f, fd, F, m, kp, kb⟩
variable {CX : CXT} {f : Addr} {fd : FuncData} {pn ks : List Str} {φ : Ct} {kws : List Keyword}
theorem ev_callK (F : FnOk X.prog X.w X.K X.mg X.base CX k f fd pn (SpA X.K φ)) (hr : Room k X.A) (hm : X.mg n = some (.ref f)) (hk : PySem.W.keepIn X.K (.ref f) = true) (hb : KBn X.K fd pn ks) (hx : Passes CX X E0) {ds2 : List Dt} {r : Dt}
    (ha : EA X G S (e :: es) (ds.map .dat) S1) (ha2 : EK X G S1 kws (ds2.map .dat) S2) (hφ : φ ((ds ++ ds2).map .dat) [] (.dat r) []) (hl1 : ds.length = pn.length - ks.length := by rfl) (hl2 : ds2.length = ks.length := by rfl) (hg : Gl X n := by rfl) (hall : (backToKw pos (keywordEach kws X.env)).all (·.1.isSome) = true := by rfl) (hks : (backToKw pos (keywordEach kws X.env)).filterMap (·.1) = ks := by rfl)
    (hdb : (n == ("__debug__" : Str)) = false := by decide) (he : starEach (e :: es) X.env = (false, eval e X.env) :: starEach es X.env := by rfl) (hpl : ((backTo pos (starEach (e :: es) X.env)).any (·.1) || (backToKw pos (keywordEach kws X.env)).any (·.1.isNone)) = false := by rfl) :
    EV X G S (.Call (.Name n p2) (e :: es) kws pos) (.dat r) S2 :=
  PE.imp (pe_callK F hr hg hm hk hb hx ha ha2 hall hks hdb he hpl) fun σ H Q ⟨ps, R, q⟩ => ⟨ps, R, fun vs H1 ps1 R1 L1 A1 => ⟨ps1, R1, fun zs H2 ps2 R2 L2 A2 => by
    show SpA X.K φ (gA (pn.length - ks.length) ks.length vs zs) H2 Q E0
    rw [gA_eq ((all_of A1).length.trans hl1) ((all_of A2).length.trans hl2)]
    refine sp_pure (ds := ds ++ ds2) R2 ?_ hφ fun v H3 R3 L3 A3 => q v H3 ps2 R3 ((L1.trans L2).trans L3) A3
    have h1 := all_of (Paired.mp A1 fun _ _ z => z.mono L2)
    exact h1.append (all_of A2)⟩⟩
theorem ev_cfK (D : DfK X.prog X.w X.K X.mg X.base CX k n pn ks φ) (hr : Room k X.A) (hx : Passes CX X E0) {ds2 : List Dt} {r : Dt}
    (ha : EA X G S (e :: es) (ds.map .dat) S1) (ha2 : EK X G S1 kws (ds2.map .dat) S2) (hφ : φ ((ds ++ ds2).map .dat) [] (.dat r) []) (hl1 : ds.length = pn.length - ks.length := by rfl) (hl2 : ds2.length = ks.length := by rfl) (hg : Gl X n := by rfl) (hall : (backToKw pos (keywordEach kws X.env)).all (·.1.isSome) = true := by rfl) (hks : (backToKw pos (keywordEach kws X.env)).filterMap (·.1) = ks := by rfl)
    (hdb : (n == ("__debug__" : Str)) = false := by decide) (he : starEach (e :: es) X.env = (false, eval e X.env) :: starEach es X.env := by rfl) (hpl : ((backTo pos (starEach (e :: es) X.env)).any (·.1) || (backToKw pos (keywordEach kws X.env)).any (·.1.isNone)) = false := by rfl) :
    EV X G S (.Call (.Name n p2) (e :: es) kws pos) (.dat r) S2 := by
  obtain ⟨f, fd, F, m, kp, b⟩ := D.ex
  exact ev_callK F hr m kp b hx ha ha2 hφ hl1 hl2 hg hall hks hdb he hpl
/-- f(k = v, ..) -/
theorem pe_callK0 {sp : Sp} {g : List Value → List Value → List Value} {gV : List V → List V → List V} {E : XK} {tk : TA} (F : FnOk X.prog X.w X.K X.mg X.base CX k f fd pn sp) (hr : Room k X.A) (hg : Gl X n) (hm : X.mg n = some (.ref f)) (hk : PySem.W.keepIn X.K (.ref f) = true) (hb : KBinds X.K fd pn ks g gV) (hx : Passes CX X E)
    (hkw : PK X kws tk) (hall : (backToKw pos (keywordEach kws X.env)).all (·.1.isSome) = true := by rfl) (hks : (backToKw pos (keywordEach kws X.env)).filterMap (·.1) = ks := by rfl)
    (hdb : (n == ("__debug__" : Str)) = false := by decide) (hpl : ((backTo pos (starEach [] X.env)).any (·.1) || (backToKw pos (keywordEach kws X.env)).any (·.1.isNone)) = false := by rfl) :
    PE X (.Call (.Name n p2) [] kws pos) (tCallK sp gV E tNil tk) := by
  refine ⟨fun pins s σ H Q I h => ?_⟩
  refine wpAny_Call_Name_kw (ld_glob I hg hm ?_ hdb)
  refine PySem.W.callWith_KW0 (h₀ := X.base) I.ok.mod.kin hk hall (thn (hkw.run pos pins s σ H _ I h) fun ws s2 ⟨zs, H2, I2, rz, q2⟩ => ⟨I2.kIn, ?_⟩) hpl
  rw [hks]
  exact run_fnk F hr hb hx I2 .nil rz q2
theorem ev_cfK0 (D : DfK X.prog X.w X.K X.mg X.base CX k n pn ks φ) (hr : Room k X.A) (hx : Passes CX X E0) {r : Dt}
    (ha2 : EK X G S kws (ds.map .dat) S1) (hφ : φ (ds.map .dat) [] (.dat r) []) (hl1 : 0 = pn.length - ks.length := by rfl) (hl2 : ds.length = ks.length := by rfl) (hg : Gl X n := by rfl) (hall : (backToKw pos (keywordEach kws X.env)).all (·.1.isSome) = true := by rfl) (hks : (backToKw pos (keywordEach kws X.env)).filterMap (·.1) = ks := by rfl)
    (hdb : (n == ("__debug__" : Str)) = false := by decide) (hpl : ((backTo pos (starEach [] X.env)).any (·.1) || (backToKw pos (keywordEach kws X.env)).any (·.1.isNone)) = false := by rfl) :
    EV X G S (.Call (.Name n p2) [] kws pos) (.dat r) S1 := by
  obtain ⟨f, fd, F, m, kp, b⟩ := D.ex
  exact PE.imp (pe_callK0 F hr hg m kp b hx ha2 hall hks hdb hpl) fun σ H Q ⟨ps, R, q⟩ => ⟨ps, R, fun vs H1 ps1 R1 L1 A1 =>
    show SpA X.K φ (gA (pn.length - ks.length) ks.length [] vs) H1 Q E0 from by
    rw [gA_eq (us := ([] : List V)) hl1 ((all_of A1).length.trans hl2), List.nil_append]
    exact sp_pure (ds := ds) R1 (all_of A1) hφ fun v H3 R3 L3 A3 => q v H3 ps1 R3 (L1.trans L3) A3⟩
/-! ### lists compared, as values -/
section
variable {α : Type} [Enc α] [DecidableEq α] [EqE α] {xs ys : List α}
theorem r2_eqL (hd : EqE.dep (List α) ≤ 64) (r1 : RdL S x (xs.map Enc.enc)) (r2 : RdL S y (ys.map Enc.enc)) : R2A K (rEqD K) G S x y (En (decide (xs = ys))) S := fun vx vy ps σ H Q R hx hy q =>
  ⟨EqE.pd xs, EqE.pd ys, dp_rdl R hx r1, dp_rdl R hy r2, shaped_of hd, shaped_of hd, by
    rw [EqE.eqv]
    exact q _ H ps R Le.refl (.at _)⟩
theorem r2_neL (hd : EqE.dep (List α) ≤ 64) (r1 : RdL S x (xs.map Enc.enc)) (r2 : RdL S y (ys.map Enc.enc)) : R2A K (rNeD K) G S x y (En (!decide (xs = ys))) S := fun vx vy ps σ H Q R hx hy q =>
  ⟨EqE.pd xs, EqE.pd ys, dp_rdl R hx r1, dp_rdl R hy r2, shaped_of hd, shaped_of hd, by
    rw [EqE.eqv]
    exact q _ H ps R Le.refl (.at _)⟩
theorem ev_eqL (hu : X.A.units + 64 < cLine) (h1 : EV X G S a x S1) (h2 : EV X G S1 b y S2) (r1 : RdL S2 x (xs.map Enc.enc)) (r2 : RdL S2 y (ys.map Enc.enc)) (hd : EqE.dep (List α) ≤ 64 := by decide) : EV X G S (.Compare a [.Eq] [b] pos) (En (decide (xs = ys))) S2 := ev_cmp (op_eqD hu) h1 h2 (r2_eqL hd r1 r2) (nomark _)
theorem ev_neL (hu : X.A.units + 64 < cLine) (h1 : EV X G S a x S1) (h2 : EV X G S1 b y S2) (r1 : RdL S2 x (xs.map Enc.enc)) (r2 : RdL S2 y (ys.map Enc.enc)) (hd : EqE.dep (List α) ≤ 64 := by decide) : EV X G S (.Compare a [.NotEq] [b] pos) (En (!decide (xs = ys))) S2 := ev_cmp (op_neD hu) h1 h2 (r2_neL hd r1 r2) (nomark _)
end
/-! ### a tuple said over and over -/
theorem isall_flat {O : Ex} {α : Type} [Enc α] {us : List V} {xs : List α} (h : IsAll K H O us (xs.map Enc.enc)) : ∀ m : Nat, IsAll K H O (List.replicate m us).flatten ((List.replicate m xs).flatten.map Enc.enc)
  | 0 => .nil
  | m + 1 => by
    rw [List.replicate_succ, List.flatten_cons, List.replicate_succ, List.flatten_cons, List.map_append]
    exact IsAll.append h (isall_flat (xs := xs) h m)
theorem ev_repT {α : Type} [Enc α] {xs : List α} {i : Int} (h1 : EV X G S a (En (α := Tp α) xs) S1) (h2 : EV X G S1 b (En i) S2) (hne : xs ≠ []) (hi : 2 ≤ i ∧ i ≤ 1000) (hz : xs.length ≤ 1000) : EV X G S (.BinOp a .Mult b pos) (En (α := Tp α) (List.replicate i.toNat xs).flatten) S2 :=
  ev_bin op_repT h1 h2 (fun vx vy ps σ H Q R hx hy q => by
    obtain ⟨q0, us, rfl, k1, k2⟩ := rd_t hx (rdt (α := α) (xs := xs))
    have hl := k2.length
    rw [List.length_map] at hl
    refine ⟨q0, i, us, rfl, is_at hy, k1, fun z => ?_, hi.1, hi.2, by omega, fun p hp => ?_⟩
    · rw [z] at hl
      exact hne (List.eq_nil_of_length_eq_zero hl.symm)
    · obtain ⟨R2, L2, n⟩ := new_dat (o := .tup (List.replicate i.toNat us).flatten) R hp
      exact q _ _ ps R2 L2 (.tup (.inl ⟨.inl upd_same, n⟩) (IsAll.mono L2.out _ (isall_flat k2 _))))
/-! ### lists of data alone -/
inductive ClL : List C → List C → Prop
  | nil : ClL [] []
  | same {c : C} {cs cs' : List C} : ClL cs cs' → ClL (c :: cs) (c :: cs')
  | cl {α β : Type} [Enc α] [Enc β] {xs : List α} {ys : List β} {cs cs' : List C} : ClL cs cs' → ClL (Cl xs :: cs) (Cl ys :: cs')
theorem ClL.at {cs cs' : List C} (c : ClL cs cs') : ∀ {j : Nat} {as : List A}, cs'[j]? = some (.lst as) → cs[j]? = some (.lst as) ∨ ∀ k, A.cell k ∉ as := by
  induction c with
  | nil => intro j as h; simp at h
  | same _ ih =>
    intro j as h
    cases j with
    | zero => exact .inl h
    | succ j =>
      have := ih (j := j) (as := as) (by simpa using h)
      simpa using this
  | cl _ ih =>
    intro j as h
    cases j with
    | zero =>
      refine .inr fun k m => ?_
      cases h
      obtain ⟨d, _, e⟩ := List.mem_map.mp m
      cases e
    | succ j =>
      have := ih (j := j) (as := as) (by simpa using h)
      simpa using this
theorem ClL.low {n : Nat} {sl : List (Option A)} {cs cs' : List C} (c : ClL cs cs') (h : Low n ⟨sl, cs⟩) : Low n ⟨sl, cs'⟩ :=
  ⟨h.1, fun j as k e m => by
    rcases c.at e with e | e
    · exact h.2 j as k e m
    · exact absurd m (e k)⟩
end Ab
set_option Elab.async false
set_option linter.all false
set_option maxRecDepth 100000
set_option maxHeartbeats 2000000
/-! Refused: over DealsError over ValueError; its __init__ says super().__init__(at) and self.at = at. -/
namespace PySem
namespace RefX
open PySem.W PySem.Calls PyProof.Rows PySem.HandSPX
/-! ### ValueError's __init__, bound -/
def vwO (x : Addr) : Obj := { cls := .type "method-wrapper", data := .fields #[.builtin "ValueError.__init__", .ref x] }
theorem ty_vi : typeOf (.builtin "ValueError.__init__") = pure (.type "wrapper_descriptor") := by show builtinType _ = _; rw [builtinType_eq_fast]; kernel_rfl
theorem nm_vi : (kfb_private% "nameAndClass") (Value.builtin "ValueError.__init__") = (pure (("__init__" : Str), Value.type "ValueError") : Sem (Str × Value)) := by kernel_rfl
section
variable {prog : Program} {w : World} {M : Model} {A : Around} {E : Value → Shared → Prop} {h : Heap} {g : Array GenState} {d : Drawn} {t : Nat} {os : OsState}
theorem get_vi {x C : Addr} {P : Fin → Shared → Prop} (hi : Looks M h (isInstance (.ref x) (.type "ValueError")) true) (q : P (.done (.ret (.ref h.objs.size))) ⟨h.push (vwO x), g, d, t, os⟩) :
    wpAny M A (Builtin.«wrapper_descriptor.__get__» ⟨[.builtin "ValueError.__init__", .ref x, .ref C], []⟩) P E ⟨h, g, d, t, os⟩ := by
  unfold Builtin.«wrapper_descriptor.__get__»
  refine wpAny_bind (wpAny_of_eq (a := (.builtin "ValueError.__init__", some (.ref x), some (.ref C))) (by first | rfl | kernel_rfl) ?_)
  show wpAny M A ((kfb_private% "checkInstance") (.builtin "ValueError.__init__") (.ref x) >>= fun _ => newFields "method-wrapper" [.builtin "ValueError.__init__", .ref x] >>= fun r => ret r) P E _
  refine wpAny_bind ?_
  show wpAny M A ((kfb_private% "nameAndClass") (.builtin "ValueError.__init__") >>= _) _ E _
  refine wpAny_bind (wpAny_of_eq nm_vi ?_)
  show wpAny M A (isInstance (.ref x) (.type "ValueError") >>= _) _ E _
  refine wpAny_bind (hi.at (KFB.if_not rfl (wpAny_pure (wpAny_bind (wpAny_newObj_type (wpAny_pure q))))))
theorem sup_ga {so D x C : Addr} {l₀ l : List Value} {K : Frag} {name : Str} {tk : Tok} {Q : Fin → Shared → Prop}
    (hso : h.get? so = some (ks_superObj D x C)) (hno : Looks (model prog w) h (opaqueClassAbove (.ref C)) none) (hC : Looks (model prog w) h (mroOf (.ref C)) l₀) (hl : (l₀.dropWhile (· != .ref D)).drop 1 = l) (X : K.In h)
    (hf : alongIn K name l = some (some (.builtin "ValueError.__init__"))) (hxC : x ≠ C) (hn : (name == ("__class__" : Str)) = false) (hi : Looks (model prog w) h (isInstance (.ref x) (.type "ValueError")) true)
    (q : Q (.done (.ret (.ref h.objs.size))) ⟨h.push (vwO x), g, d, t, os⟩) : wpAny (model prog w) A (Builtin.«super.__getattribute__» ⟨[.ref so, .str name tk], []⟩) Q E ⟨h, g, d, t, os⟩ := by
  have lk := ESX.slot_wd.lookup
  have ne : (Value.ref x == Value.ref C) = false := by simp [hxC]
  have tf := ty_vi
  have ti : Shared.TypeIs ⟨h, g, d, t, os⟩ (.builtin "ValueError.__init__") "wrapper_descriptor" := ty_vi
  have dt : (ks_superObj D x C).data = .fields #[.ref D, .ref x, .ref C] := rfl
  have f0 : (#[.ref D, .ref x, .ref C] : Array Value)[0]? = some (.ref D) := rfl
  have f1 : (#[.ref D, .ref x, .ref C] : Array Value)[1]? = some (.ref x) := rfl
  have f2 : (#[.ref D, .ref x, .ref C] : Array Value)[2]? = some (.ref C) := rfl
  unfold Builtin.«super.__getattribute__»
  repeat (first
    | (with_reducible refine wpAny_field hso dt f0 ?_) | (with_reducible refine wpAny_field hso dt f1 ?_) | (with_reducible refine wpAny_field hso dt f2 ?_)
    | (with_reducible refine ks_wpAny_notOpaque hno ?_)
    | (with_reducible refine Looks.at hC ?_; rw [hl])
    | (refine ks_forIn_along X (fun _ _ => rfl) rfl ?_ hf)
    | (with_reducible refine wpAny_call_entry ESX.slot_wd ti ESX.entry_wd ?_ (ESX.args_wd _ _ _))
    | (with_reducible refine get_vi hi ?_)
    | (with_reducible refine ⟨_, rfl, ?_⟩)
    | (simp only [hn, ne, Bool.or_false, Bool.false_eq_true, if_false])
    | wp_step
    | dsimp only)
  all_goals exact q
theorem sup_get {so D x C : Addr} {l₀ l : List Value} {K : Frag} {name : Str} {pl : Sem Bool} {Q : Value × List Value → Shared → Prop}
    (hso : h.get? so = some (ks_superObj D x C)) (hno : Looks (model prog w) h (opaqueClassAbove (.ref C)) none) (hC : Looks (model prog w) h (mroOf (.ref C)) l₀) (hl : (l₀.dropWhile (· != .ref D)).drop 1 = l) (X : K.In h)
    (hf : alongIn K name l = some (some (.builtin "ValueError.__init__"))) (hxC : x ≠ C) (hn : (name == ("__class__" : Str)) = false) (hi : Looks (model prog w) h (isInstance (.ref x) (.type "ValueError")) true)
    (q : Q (.ref h.objs.size, []) ⟨h.push (vwO x), g, d, t + 1, os⟩) : wpAny (model prog w) A (getMethod (.ref so) name pl) Q E ⟨h, g, d, t, os⟩ := by
  have lk := F.ks_slot_super_ga.lookup
  have cn := F.ks_canon_super_ga
  have hT : ∀ t', (⟨h, g, d, t', os⟩ : Shared).TypeIs (.ref so) "super" := fun _ => ⟨_, hso, rfl⟩
  unfold getMethod
  refine wpAny_bind (wpAny_specialOf (hT _) lk ?_)
  show wpAny _ _ (if (Manifest.canonical "super.__getattribute__" != "object.__getattribute__") = true then _ else _) _ _ _
  rw [if_pos cn]
  unfold getAttr getAttrBy
  refine wpAny_bind (wpAny_bind (wpAny_mkText (wpAny_holding (wpAny_bind (wpAny_typeOf (hT _) (wpAny_bind (wpAny_of_eq lk ?_)))))))
  show wpAny _ _ (getAttrByItsOwn (.ref so) (.str name t) (.type "super") (.builtin "super.__getattribute__") true false) _ _ _
  unfold getAttrByItsOwn hookBefore callGetattribute boundAndCalled
  refine wpAny_bind (wpAny_of_eq (show (if onTheHeap (.type "super") then typeLookup (.type "super") "__getattr__" else pure none) = pure none from rfl) ?_)
  refine wpAny_bind (wpAny_attempt (wpAny_holding ?_))
  show wpAny _ _ (bindSpecial (.builtin "super.__getattribute__") (.ref so) >>= _) _ _ _
  refine wpAny_bind (wpAny_of_eq (F.ks_slot_super_ga.bind _) ?_)
  refine wpAny_mono (Q := fun v s' => v = .ref h.objs.size ∧ s' = ⟨h.push (vwO x), g, d, t + 1, os⟩) (E := fun _ _ => False)
    (wpAny_call_entry F.ks_slot_super_ga (hT _) F.ks_entry_super_ga (sup_ga hso hno hC hl X hf hxC hn hi ⟨_, rfl, rfl, rfl⟩) (F.ks_gaArgs_super _ _)) (fun v s' hv => ?_) fun _ _ z => z.elim
  obtain ⟨rfl, rfl⟩ := hv
  exact wpAny_pure (wpAny_pure q)
end
section
variable {M : Model} {A : Around} {E : Value → Shared → Prop} {s : Shared}
theorem cw_vi {pos : Pos} {u x : Addr} {first : List Value} {env : Env} {e : Expr} {rest : List Expr} {Q : Value → Shared → Prop}
    (h : wpAny M A (spliced (backTo pos (starEach (e :: rest) env))) (fun vs s₁ => s₁.heap.get? u = some (vwO x) ∧ wpAny M A (call (.ref u) (first ++ vs)) Q E s₁) E s)
    (he : starEach (e :: rest) env = (false, eval e env) :: starEach rest env := by rfl) (hp : (backTo pos (starEach rest env)).any (·.1) = false := by rfl) :
    wpAny M A (callWith pos (.ref u) first (backTo pos (starEach (e :: rest) env)) []) Q E s := by
  rw [he] at h ⊢
  have pl : (backTo pos ((false, eval e env) :: starEach rest env)).any (·.1) = false := by show (false || (backTo pos (starEach rest env)).any (·.1)) = false; rw [hp]; rfl
  have h2 : wpAny M A (evalArgs (.ref u) true (backTo pos ((false, eval e env) :: starEach rest env)) []) (fun a s₁ => s₁.heap.get? u = some (vwO x) ∧ wpAny M A (call (.ref u) (first ++ a.pos) a.kw) Q E s₁) E s := evalArgs_plain h
  unfold callWith
  refine wpAny_bind (wpAny_holding (wpAny_mono h2 (fun a s₁ h₁ => wpAny_bind (wpAny_standAt ?_)) fun _ _ x => x))
  obtain ⟨ho, hcall⟩ := h₁
  simp only [pl, List.any_nil, Bool.or_false]
  refine wpAny_bind (m := keeperOf (.ref u)) ?_
  unfold keeperOf
  refine wpAny_bind (wpAny_load ho ?_)
  simp only [vwO, show (Value.type "method-wrapper" != Value.type "method") = true by decide, show (Value.type "method-wrapper" == Value.type "builtin_function_or_method" || Value.type "method-wrapper" == Value.type "method-wrapper") = true by decide, if_true]
  exact wpAny_pure (wpAny_bind (wpAny_mono hcall (fun r s₂ hr => wpAny_bind (wpAny_holding (wpAny_point (wpAny_pure hr)))) fun _ _ x => x))
end
section
variable {prog : Program} {w : World} {A : Around} {E : Value → Shared → Prop} {h : Heap} {g : Array GenState} {d : Drawn} {t : Nat} {os : OsState}
variable {nm q : Str} {C N : Addr} {bs bm : List Value} {hdct : Bool} {sn : List Str} {sub : List Value} {ab : Bool} {col : Option Bool} {dd : Option Addr} {k0 k1 k2 k3 k5 : Option Value}
theorem call_vi {u e t0 : Addr} {rest : List Value} {Q : Value → Shared → Prop}
    (hC : h.get? C = some (excClassObj nm q C N bs bm hdct sn sub ab col dd k0 k1 k2 k3 k5 "ValueError.__new__")) (he : h.get? e = some (excO C t0)) (hu : h.get? u = some (vwO e)) (hr : rest.length ≤ sizeLine)
    (k : ∀ h' t1, (∀ b o, b ≠ e → h.get? b = some o → h'.get? b = some o) → h'.get? e = some (excO C t1) → Q .none ⟨h', g, d, t, os⟩) :
    wpAny (model prog w) A (call (.ref u) rest) Q E ⟨h, g, d, t, os⟩ := by
  refine wpAny_call (codeAny_of_tree ?_)
  show wpAny _ A.in1 (callAny (.ref u) ⟨rest, []⟩) _ _ _
  simp only [callAny]
  refine wpAny_bind (wpAny_load hu ?_)
  simp only [vwO, show (Value.type "method-wrapper" == Value.type "method" || Value.type "method-wrapper" == Value.type "builtin_function_or_method" || Value.type "method-wrapper" == Value.type "method-wrapper") = true by decide, if_true]
  refine KFB.if_so (by decide) ?_
  refine wpAny_bind (ESX.check_bound F.excBase_ValueError hC he rfl ?_)
  refine wpAny_bind (wpAny_pure (wpAny_pure ?_))
  refine ⟨Code.quiet_builtin _ (by decide +kernel), codeAny_builtin F.excBase_ValueError.initEntry ?_⟩
  rw [Around.under_plainId F.excBase_ValueError.init.plain _]
  wp_walk
  refine k _ h.objs.size (fun b o hb ho => ?_) ?_
  · rw [Heap.get?_update_other _ _ (Ne.symm hb)]
    exact Heap.get?_push_of_some _ ho
  · rw [Heap.get?_update_self _ (Heap.get?_push_of_some _ he) rfl]
    rfl
end
end RefX
end PySem
set_option Elab.async false
set_option linter.all false
set_option maxRecDepth 100000
set_option maxHeartbeats 4000000
/-! Refused(at) made. -/
namespace PySem
namespace RefX
open PySem.W PySem.Calls PyProof.Rows PySem.HandSPX
def rA : Arguments := { posonlyargs := [], args := [{ arg := "self", annotation := none, pos := ⟨6, 17, 6, 21⟩ }, { arg := "at", annotation := none, pos := ⟨6, 23, 6, 25⟩ }], vararg := none, kwonlyargs := [], kw_defaults := [], kwarg := none, defaults := [] }
def rB : List Stmt := [.Expr (.Call (.Attribute (.Call (.Name "super" ⟨7, 8, 7, 13⟩) [] [] ⟨7, 8, 7, 15⟩) "__init__" ⟨7, 8, 7, 24⟩) [.Name "at" ⟨7, 25, 7, 27⟩] [] ⟨7, 8, 7, 28⟩) ⟨7, 8, 7, 28⟩, .Assign [.Attribute (.Name "self" ⟨8, 8, 8, 12⟩) "at" ⟨8, 8, 8, 15⟩] (.Name "at" ⟨8, 18, 8, 20⟩) ⟨8, 8, 8, 20⟩]
def rS : Scope := { kind := .function, names := [(PySem.Str.ofString "self", .local), (PySem.Str.ofString "at", .local), (PySem.Str.ofString "__class__", .free), (PySem.Str.ofString "super", .globalImplicit)], isGenerator := false, isCoroutine := false, more := [] }
/-- what the written part says of Refused, at C, and of its __init__, at fI -/
structure RefTxt (P : Program) (K : Frag) (mg : Str → Option Value) (C fI : Addr) : Prop where
  gC : mg "Refused" = some (.ref C)
  cls : ∃ nm q N bs bm sn sub ab col dd k0 k1 k2 k3 k5, K.lookup C = some (excClassObj nm q C N bs bm true sn sub ab col dd k0 k1 k2 k3 k5 "ValueError.__new__") ∧ refsVE bm = true ∧ alongIn K "__init__" bm = some (some (.builtin "ValueError.__init__"))
  sa : findIn K (.ref C) "__setattr__" = some (some (.builtin "object.__setattr__"))
  ga : findIn K (.ref C) "__getattribute__" = some (some (.builtin "BaseException.__getattribute__"))
  gg : findIn K (.ref C) "__getattr__" = some none
  noN : findIn K (.ref C) "at" = some none
  iC : findIn K (.ref C) "__init__" = some (some (.ref fI))
  tC : typeIn K (.ref fI) = some (.type "function")
  kC : keepIn K (.ref C) = true
  exC : subIn K (.ref C) (.type "BaseException") = some true
  tyC : typeIn K (.ref C) = some (.type "type")
  hdC : hasDictIn K C = true
  te : exmOne K (.ref C) (.ref C) = some true
  self : mroIn K C (.ref C) = some true
  ve : mroIn K C (.type "ValueError") = some true
  opq : nsIn K cStatics "thirdparty.any" = some none
  sup : mg "super" = none
  top : (P.main.scope.names.lookup ("super" : Str)).isSome = false
  fn : ∃ (oc : Value) (od : Option Addr) (doc pm : Value) (an : Option Addr) (cda cc : Addr) (ct : Value) (osl : Array (Option Value)),
    K.lookup fI = some ⟨oc, od, .func (ksFn "__init__" "Refused.__init__" rA rB rS .none .none doc pm an (.ref cda) ct cc), osl⟩ ∧ codeIn K (.ref cda) "Refused.__init__" = true ∧
    (∃ cl cld csl, K.lookup cc = some ⟨cl, cld, .cell (some (.ref C)), csl⟩) ∧ ∃ ccl cdd vs ccs file tf, K.lookup cda = some ⟨ccl, cdd, .fields vs, ccs⟩ ∧ vs[2]? = some (.str file tf) ∧ ((P.main.file : Str) == file) = true
theorem one_sz (v : Value) : [v].length ≤ sizeLine := by
  rw [sizeLine_eq]
  exact (by decide : 1 ≤ 16777216)
structure InitEnd (h h' : Heap) (x C dx t1 : Addr) (v : Value) : Prop where
  keep : ∀ b o, b ≠ x → h.get? b = some o → h'.get? b = some o
  obj : h'.get? x = some { cls := .ref C, dict := some dx, data := .fields #[.ref t1, .none, .none, .none, .bool false, .none] }
  dbig : h.objs.size ≤ dx
  dne : dx ≠ x
  ns : h'.Ns1 dx (fun y => if y = "at" then some v else none)
structure OwnMade (h h' : Heap) (e C d : Addr) (v : Value) : Prop where
  keep : ∀ b o, h.get? b = some o → h'.get? b = some o
  new : h.objs.size ≤ e
  obj : ∃ oe vs, h'.get? e = some oe ∧ oe.cls = .ref C ∧ oe.dict = some d ∧ oe.data = .fields vs ∧ vs[1]? = some .none
  dbig : h.objs.size ≤ d
  dne : d ≠ e
  ns : h'.Ns1 d (fun y => if y = "at" then some v else none)
theorem looks_at {M : Model} {α : Type} {h h' : Heap} {m : Sem α} {a : α} (l : Looks M h m a) (k : ∀ b o, h.get? b = some o → h'.get? b = some o) : Looks M h' m a := l.keeps k
section
variable {prog : Program} {w : World} {A : Around} {E : Value → Shared → Prop} {R : Result → Shared → Prop} {s : Shared} {K : Frag} {mg mb : Str → Option Value} {C fI : Addr}
theorem ref_init (T : RefTxt prog K mg C fI) {x t0 : Addr} {v : Value} (X : K.In s.heap) (hlim : s.heap.NoLimit) (hg : s.heap.Ns mainGlobals mg) (hb : s.heap.Ns builtinsNs mb) (hsb : mb "super" = some (.type "super")) (hx : s.heap.get? x = some (excO C t0)) (hnx : K.lookup x = none) (hroom : A.depth < recursionLimit)
    (hq : ∀ h' tk dx t1, InitEnd s.heap h' x C dx t1 v → R (.ok (.ret .none)) { s with heap := h', toks := tk }) :
    codeAny (model prog w) A (.call (.ref fI) ⟨[.ref x, v], []⟩) R s := by
  obtain ⟨oc, od, doc, pm, an, cda, cc, ct, osl, ho, hcd, ⟨cl, cld, csl, hcell⟩, ccl, cdd, vs, ccs, file, tf, hcode, hvs, hfile⟩ := T.fn
  obtain ⟨nm, q, N, bs, bm, sn, sub, ab, col, dd, k0, k1, k2, k3, k5, hC, hbm, hal⟩ := T.cls
  have hcl : clsIn K C = some { name := nm, bases := bs, mro := .ref C :: bm, ns := N, qualname := q, hasDict := true, slotNames := sn, subclasses := sub, abstract := ab, collection := col, hasDel := false } := by unfold clsIn; rw [hC] <;> rfl
  have hxC : x ≠ C := fun z => by rw [z, hC] at hnx; cases hnx
  obtain ⟨hp, g, d, t, os⟩ := s
  have hloc : ∀ y ∈ ([("self", Value.ref x), ("at", v)] : List (Str × Value)), rS.names.lookup y.1 = some NameKind.local := fun y hy => by
    rcases List.mem_cons.mp hy with e | hy
    · rw [e]; exact (by decide +kernel : rS.names.lookup ("self" : Str) = some NameKind.local)
    · rw [List.mem_singleton.mp hy]; exact (by decide +kernel : rS.names.lookup ("at" : Str) = some NameKind.local)
  refine ks_codeAny_call_defAt (fd := ksFn "__init__" "Refused.__init__" rA rB rS .none .none doc pm an (.ref cda) ct cc) (body := rB) (binds := [("self", .ref x), ("at", v)]) hroom (X _ _ ho) rfl hlim (codeRec_of X hcd) rfl
    (BindsTo.of_eq (by first | rfl | with_unfolding_all rfl)) (show ∀ y ∈ rS.names, y.2 ≠ .cell by decide) hloc (fun h₁ hns k => ?_)
  have X₁ : K.In h₁ := X.keeps k
  have hx₁ := k _ _ hx
  have ns1 : h₁.Ns hp.objs.size (fun y => ([("self", Value.ref x), ("at", v)] : List (Str × Value)).reverse.lookup y) := hns
  have hself : (fun y => ([("self", Value.ref x), ("at", v)] : List (Str × Value)).reverse.lookup y) ("self" : Str) = some (.ref x) := by first | rfl | with_unfolding_all rfl | kernel_rfl
  have hat : (fun y => ([("self", Value.ref x), ("at", v)] : List (Str × Value)).reverse.lookup y) ("at" : Str) = some v := by first | rfl | with_unfolding_all rfl | kernel_rfl
  have hxL : hp.objs.size ≠ x := Nat.ne_of_gt (Heap.lt_size hx)
  refine ks_wpAt_execs_cons (ks_wpAt_Expr_any (ks_wpAt_MethodCall (ks_wpAt_super_base (f := fI) rfl rfl rfl rfl (X₁ _ _ ho) rfl rfl rfl (X₁ _ _ hcode) rfl hvs hfile T.top ?_)))
  refine ks_loadName_global rfl rfl (loadGlobal_builtin (hg.keeps k) T.sup (hb.keeps k) hsb ⟨rfl, ?_⟩)
  refine wpAny_loadName_free rfl rfl rfl ⟨_, X₁ _ _ hcell, rfl⟩ ?_
  refine wpAny_loadName_local rfl rfl ns1 hself ?_
  refine ks_wpAny_isType_cls (X₁ _ _ hC) rfl ⟨rfl, ?_⟩
  refine ks_wpAny_call_super (X₁ _ _ hC) rfl hx₁ rfl (fun c e => by cases e) (looks_mroIn X₁ T.self) (fun h₂ hso k₂ => ?_)
  have X₂ : K.In h₂ := X₁.keeps k₂
  have hx₂ := k₂ _ _ hx₁
  have ve : Looks (model prog w) h₂ (isInstance (.ref x) (.type "ValueError")) true := (show InstAt h₂ x (excO C t0) C none from ⟨hx₂, rfl, rfl, trivial⟩).type.andThen (looks_mroIn X₂ T.ve)
  have hmro : Looks (model prog w) h₂ (mroOf (.ref C)) (.ref C :: bm) := (looks_clsIn X₂ hcl).andThen .now
  refine sup_get hso (looks_opaque X₂ T.opq) hmro (ESX.drop_own C bm) X₂ hal hxC rfl ve ?_
  have k₃ : ∀ b o, h₂.get? b = some o → (h₂.push (vwO x)).get? b = some o := fun b o e => Heap.get?_push_of_some _ e
  have kk : ∀ b o, h₁.get? b = some o → (h₂.push (vwO x)).get? b = some o := fun b o e => k₃ b o (k₂ b o e)
  have nsk : ∀ {h' : Heap}, (∀ b o, b ≠ x → h₁.get? b = some o → h'.get? b = some o) → h'.Ns hp.objs.size (fun y => ([("self", Value.ref x), ("at", v)] : List (Str × Value)).reverse.lookup y) := fun {h'} kx => by
    obtain ⟨o, es, ep, e1, r⟩ := ns1
    exact ⟨o, es, ep, kx _ _ hxL e1, r⟩
  refine cw_vi (x := x) (spliced_cons (ESX.ldL (nsk fun b o _ e => kk b o e) hat (spliced_nil ⟨Heap.get?_push_size _ rfl, ?_⟩)))
  refine call_vi (k₃ _ _ (X₂ _ _ hC)) (k₃ _ _ hx₂) (Heap.get?_push_size _ rfl) (one_sz v) (fun h₄ t1 k₄ hx₄ => ?_)
  have k5 : ∀ b o, b ≠ x → h₁.get? b = some o → h₄.get? b = some o := fun b o hb e => k₄ b o hb (kk b o e)
  have X₄ : K.In h₄ := fun a o e => k5 a o (fun z => by rw [z, hnx] at e; cases e) (X₁ a o e)
  refine ks_wpAt_execs_cons (ks_wpAt_Assign_Attr (wpAt_of_wpAny (ESX.ldL (nsk k5) hat (ESX.ldL (nsk k5) hself ?_))))
  refine set_plain X₄ (ox := excO C t1) (od := none) ⟨hx₄, rfl, rfl, trivial⟩ T.sa ?_
  refine exc_osa X₄ hx₄ hcl (show refsVE (.ref C :: bm) = true from hbm) rfl T.noN (fun h₆ tk₆ dx k₆ dn dne hx₆ hn₆ => ?_)
  have old : ∀ b o, b ≠ x → hp.get? b = some o → h₆.get? b = some o := fun b o hb e => k₆ b o hb (k5 b o hb (k b o e))
  have z : hp.objs.size ≤ dx := by
    obtain ⟨o, es, ep, e1, _⟩ := nsk k5
    exact Nat.le_of_lt (Nat.lt_of_lt_of_le (Heap.lt_size e1) dn)
  exact wpAt_of_wpAny (wpAny_execs_nil (hq h₆ tk₆ dx t1 ⟨old, hx₆, z, dne, hn₆⟩))
theorem ref_made (T : RefTxt prog K mg C fI) {v : Value} (X : K.In s.heap) (hlim : s.heap.NoLimit) (hg : s.heap.Ns mainGlobals mg) (hb : s.heap.Ns builtinsNs mb) (hsb : mb "super" = some (.type "super")) (hroom : A.depth + 1 < recursionLimit)
    (hq : ∀ h' tk e d, OwnMade s.heap h' e C d v → R (.ok (.ret (.ref e))) { s with heap := h', toks := tk }) : codeAny (model prog w) A (.call (.ref C) ⟨[v], []⟩) R s := by
  obtain ⟨nm, q, N, bs, bm, sn, sub, ab, col, dd, k0, k1, k2, k3, k5, hC, hbm, _⟩ := T.cls
  obtain ⟨hp, g, dr, tk, os⟩ := s
  have k : ∀ b o, hp.get? b = some o → ((hp.push (kdv_tup [v])).push (excO C hp.objs.size)).get? b = some o := fun b o e => Heap.get?_push_of_some _ (Heap.get?_push_of_some _ e)
  have he : ((hp.push (kdv_tup [v])).push (excO C hp.objs.size)).get? (hp.objs.size + 1) = some (excO C hp.objs.size) := by heap_get
  have hnx : K.lookup (hp.objs.size + 1) = none := by
    cases e : K.lookup (hp.objs.size + 1) with
    | none => rfl
    | some o => exact absurd (Nat.lt_of_succ_lt (Heap.lt_size (show hp.get? (hp.objs.size + 1) = some o from X _ _ e))) (Nat.lt_irrefl _)
  refine call_own F.excBase_ValueError (fun X => refsVE_contains X bm hbm) (X _ _ hC) (looks_findIn X T.iC) (fun self => bind_fn X self T.tC) (one_sz v) ?_
  refine ref_init (s := ⟨(hp.push (kdv_tup [v])).push (excO C hp.objs.size), g, dr, tk, os⟩) T (X.keeps k) (hlim.keeps k) (hg.keeps k) (hb.keeps k) hsb he hnx (show A.depth + 1 < recursionLimit from hroom) fun h' tk' dx t1 ⟨k', hx, dn, dne, hns⟩ => ?_
  have old : ∀ b o, hp.get? b = some o → h'.get? b = some o := fun b o e => k' b o (Nat.ne_of_lt (Nat.lt_succ_of_lt (Heap.lt_size e))) (k b o e)
  have z : hp.objs.size + 1 + 1 ≤ dx := by
    first
      | (simpa only [Heap.size_push] using dn)
      | exact dn
  exact ⟨rfl, hq h' tk' (hp.objs.size + 1) dx ⟨old, Nat.le_succ _, ⟨_, _, hx, rfl, rfl, rfl, rfl⟩, Nat.le_trans (Nat.le_trans (Nat.le_succ _) (Nat.le_succ _)) z, dne, hns⟩⟩
end
end RefX
end PySem
namespace Ab
open PySem PySem.Spec PyProof.Rows L2 PySem.RefX
theorem relO_at {v : V} {v' : Value} (r : RelV v v') (f : Str) : RelO (List.lookup f [(("at" : Str), v)]) (if f = "at" then some v' else none) := by
  by_cases h : f = "at"
  · subst h
    rw [if_pos rfl, show List.lookup ("at" : Str) [(("at" : Str), v)] = some v from by simp [List.lookup]]
    exact r
  · have q : (f == ("at" : Str)) = false := by simpa using h
    rw [if_neg h, show List.lookup f [(("at" : Str), v)] = none from by simp [List.lookup, q]]
    trivial
section
variable {X : Cx} {C fI : Addr}
/-- Refused(e) -/
def tMkRef (C : Addr) (ta : TA) : L2.St → Hp → XK → Prop := fun σ H Q => ta σ H fun vs H1 => ∃ v, vs = [v] ∧ ∀ d, H1 d = none → Q (.ref C) (some d) (upd H1 d (.xd [(("at" : Str), v)]))
theorem pmk_ref {a : Expr} {ta : TA} {p pos : Pos} {k : Nat} (T : RefTxt X.prog X.K X.mg C fI) (hr : Room k X.A) (ha : PA X [a] ta) (hg : Gl X "Refused" := by rfl)
    (he : starEach (a :: []) X.env = (false, eval a X.env) :: starEach [] X.env := by rfl) (hpl : (backTo pos (starEach [] X.env)).any (·.1) = false := by rfl) :
    PMk X (.Call (.Name "Refused" p) [a] [] pos) (tMkRef C ta) := by
  intro pins s σ H Q I h
  refine wpAny_Call_Name_kw (ld_glob I hg T.gC ?_)
  refine PySem.W.callWith_K (h₀ := X.base) I.ok.mod.kin T.kC (thn (ha.run pos pins s σ H _ I h) fun us s1 ⟨vs, H1, I1, r1, v, ev, q1⟩ => ?_) he hpl
  subst ev
  refine ⟨I1.kIn, ?_⟩
  obtain ⟨v', rfl, rv⟩ := vals1 r1
  show wpAny _ _ (call (.ref C) [v']) _ _ _
  have hlim := I1.nolimit
  obtain ⟨mb, m1, m2⟩ := I1.mod.blt
  have hgl := I1.mod.glob.keeps I1.bk
  have hbl := m1.keeps I1.bk
  have hsb : mb "super" = some (.type "super") := (m2 "super" (by decide)).trans (by decide +kernel)
  obtain ⟨hp, g, dr, tk, os⟩ := s1
  refine wpAny_call (ref_made (mb := mb) T I1.kIn hlim hgl hbl hsb (by have := hr.dp; omega) fun h' tk' e d M => ?_)
  show MkP X pins σ Q (.ref e) ⟨h', g, dr, tk', os⟩
  obtain ⟨oe, fv, hoe, hc, hd, hdat, h1⟩ := M.obj
  have hns := M.ns
  obtain ⟨G', g1, g2⟩ := restrict h' fun b => decide (b ≠ e)
  have gk : ∀ b, b ≠ e → G'.get? b = h'.get? b := fun b hb => g1 b (decide_eq_true hb)
  have ge : G'.get? e = none := g2 e (by simp)
  have old : ∀ b o, hp.get? b = some o → G'.get? b = some o := fun b o q => (gk b (Nat.ne_of_lt (Nat.lt_of_lt_of_le (Heap.lt_size q) M.new))).trans (M.keep b o q)
  have ob : ObjOk X.prog X.w (upd H1 d (.xd [(("at" : Str), v)])) G' d (.xd [(("at" : Str), v)]) := ⟨_, hns.at (fun o q => (gk d M.dne).trans q), fun f => relO_at rv f⟩
  have J : Inv X pins σ (upd H1 d (.xd [(("at" : Str), v)])) ⟨G', g, dr, tk', os⟩ := I1.laid (t' := tk') old M.dbig ob
  refine ⟨e, oe, fv, ⟨G', g, dr, tk', os⟩, _, .ref C, some d, rfl, J, fun b o q => ?_, ge, hoe, ⟨hc, hd⟩, hdat, h1, ?_, rfl, I1.bare, raises_own T.exC T.tyC, q1 d (I1.hok.fresh M.dbig)⟩
  · by_cases hb : b = e
    · rw [hb] at q
      exact absurd (ge.symm.trans q) (by simp)
    · exact (gk b hb).symm.trans q
  · rw [upd_ne (Ne.symm M.dne)]
    exact I1.hok.fresh M.new
/-- e.at, e the exception that the suite holds -/
def tAt (C : Addr) (a : Addr) (cls : Value) (d : Option Addr) (te : TE) : TE := fun σ H Q => te σ H fun x H1 => x = .ref a ∧ cls = .ref C ∧ ∃ (dd : Addr) (v : V), d = some dd ∧ H1 dd = some (.xd [(("at" : Str), v)]) ∧ Q v H1
theorem pe_at {a : Addr} {oe : Obj} {cls : Value} {d : Option Addr} {pn : List (Addr × Obj)} {e : Expr} {te : TE} {pos : Pos} (T : RefTxt X.prog X.K X.mg C fI) (hz : Zc cls d oe) (hf : ∃ vs, oe.data = .fields vs) (he : PE (X.suite a ((a, oe) :: pn)) e te)
    (hb : attributeBase e "at" X.env (eval e X.env) = eval e X.env := by rfl) : PE (X.suite a ((a, oe) :: pn)) (.Attribute e "at" pos) (tAt C a cls d te) := by
  refine ⟨fun pins s σ H Q I h => ?_⟩
  refine attr_of hb (thn (he.run pins s σ H _ I h) fun u s1 ⟨x, H1, I1, rx, ex, ec, dd, v, ed, ea, q⟩ => ?_)
  subst ex
  obtain rfl : u = Value.ref a := rx
  subst ec
  subst ed
  obtain ⟨ha, _⟩ := I1.pin (a, oe) (List.mem_append_left _ List.mem_cons_self)
  obtain ⟨vs, hd⟩ := hf
  obtain ⟨mA, hns, hr⟩ := (show ObjOk X.prog X.w H1 s1.heap dd (.xd [(("at" : Str), v)]) from I1.hok dd _ ea)
  obtain ⟨od, ho, hl⟩ := lookIn_ns hns
  obtain ⟨u, hu, ru⟩ := RelO.some_of (v := v) (o := mA "at") (by rw [← show List.lookup ("at" : Str) [(("at" : Str), v)] = some v from by simp [List.lookup]]; exact hr "at")
  have J : PySem.W.InstAt s1.heap a oe C (some od) := ⟨ha, hz.1, by unfold PySem.W.notCls; rw [hd] <;> rfl, by rw [hz.2]; exact ho⟩
  exact HandSPX.exc_get I1.kIn J T.ga T.gg T.exC (PySem.W.findObj_own T.hdC T.noN rfl (by rw [hl, hu])) (handed_of ru) ⟨v, H1, I1.tok _, ru, q⟩
end
end Ab
set_option Elab.async false
set_option linter.all false
set_option maxRecDepth 100000
/-! Defs that refuse; a lambda heard. -/
namespace Ab
open PySem PySem.Spec PyProof.Rows L2 PySem.RefX
variable {X : Cx} {K : PySem.W.Frag} {G : Gh} {S S' S1 S2 S3 : Ms} {a b c e : Expr} {es : List Expr} {x y z : A} {as : List A} {pos p2 p3 apos pos' : Pos} {ps ps' ps0 : Ps} {σ : L2.St} {H H' H0 : Hp} {v : V} {ds : List Dt} {n : Str} {k : Nat} {tg iter elt : Expr} {st : Stmt} {rest body sts : List Stmt} {vs : List Nat} {d : Dt} {C fI : Addr} {r : Str} {E : XK}
/-- Refused at r, the objects of H0 kept: what is wanted then -/
def Rz (C : Addr) (r : Str) (H0 : Hp) (E : XK) : Prop := ∀ (d : Addr) (H' : Hp), (∀ b o, H0 b = some o → H' b = some o) → H' d = some (.xd [(("at" : Str), .str r)]) → E (.ref C) (some d) H'
def SpR (K : PySem.W.Frag) (C : Addr) (r : Str) (ψ : List A → Prop) : Sp := fun vs H _ E => ∃ (G : Gh) (args : List A), G.H0 = H ∧ G.B = [] ∧ ψ args ∧ RelP K G [] ⟨args.map some, []⟩ (vs.map some) H ∧ Rz C r H E
/-- an expression, a block that ends so -/
def ER (X : Cx) (G : Gh) (S : Ms) (e : Expr) : Prop := PE X e fun σ H _ => ∃ ps, RelP X.K G ps S σ H
def WR (X : Cx) (G : Gh) (S : Ms) (sts : List Stmt) : Prop := PSs X sts fun _ σ H => ∃ ps, RelP X.K G ps S σ H
theorem pssF {sts : List Stmt} : PSs X sts (fun _ _ _ => False) := ⟨fun _ _ _ _ _ _ h => h.elim⟩
theorem pgF {tg : Expr} : PG X tg (fun _ _ _ _ => False) := ⟨fun _ _ _ _ _ _ _ _ _ h => h.elim⟩
theorem ptsF {es : List Expr} : PTs X es (fun _ _ _ => False) := ⟨fun _ _ _ _ _ _ h => h.elim⟩
theorem wr_sn (h : SN X G S st S1) (k : WR X G S1 rest) : WR X G S (st :: rest) := PSs.imp (pss_cons h k) fun D σ H ⟨ps, R⟩ => ⟨ps, R, fun σ' H' ps' R' _ => ⟨ps', R'⟩⟩
theorem wr_expr (h : ER X G S a) (hs : swapsWith a none pos.line X.env = pure false := by rfl) : WR X G S (.Expr a pos :: rest) := PSs.imp (pss_cons (ps_expr h hs) pssF) fun D σ H ⟨ps, R⟩ => ⟨ps, R⟩
theorem wr_ret (h : ER X G S a) : WR X G S (.Return (some a) pos :: rest) := PSs.imp (pss_cons (ps_ret h) pssF) fun D σ H ⟨ps, R⟩ => ⟨ps, R⟩
theorem wr_set {i : Nat} (hN : X.N.Nodup) (h : ER X G S a) (hi : X.N[i]? = some n := by rfl) (hx : Loc X.env.scope n := by first | exact Or.inl rfl | exact Or.inr rfl) (hs : swapsWith a (some (.Name n pos')) pos.line X.env = pure false := by rfl)
    (hf : X.fn n = true ∨ X.env.scope.names.lookup n = some .local := by first | exact .inl rfl | exact .inr rfl) : WR X G S (.Assign [.Name n pos'] a pos :: rest) := PSs.imp (pss_cons (ps_set hN hi hx h hs hf) pssF) fun D σ H ⟨ps, R⟩ => ⟨ps, R⟩
theorem keep0 (R : RelP K G ps S σ H) (hB : G.B = []) : ∀ b o, G.H0 b = some o → H b = some o := fun b o e => R.keep b o e (by rw [hB]; exact List.not_mem_nil)
theorem Rz.up (h : Rz C r H0 E) (k : ∀ b o, H0 b = some o → H b = some o) : Rz C r H E := fun d H' k' e => h d H' (fun b o q => k' b o (k b o q)) e
/-- if c: raise Refused(r), c true -/
theorem wr_raise {rp pos2 ipos : Pos} {B : List Stmt} {j : Nat} {cp : Pos} (T : RefTxt X.prog X.K X.mg C fI) (hcm : X.calm = true) (hr : Room k X.A) (tk : Takes X fun cls d _ H => E cls d H) (hB : G.B = []) (hz : Rz C r G.H0 E) (hc : ET X G S c true S1) (hg : Gl X "Refused" := by rfl)
    (he : starEach [.Constant (.str r) j cp] X.env = (false, eval (.Constant (.str r) j cp) X.env) :: starEach [] X.env := by rfl) (hpl : (backTo pos (starEach [] X.env)).any (·.1) = false := by rfl) :
    WR X G S (.If c [.Raise (some (.Call (.Name "Refused" rp) [.Constant (.str r) j cp] [] pos)) none pos2] B ipos :: rest) :=
  PSs.imp (pss_cons (ps_if hc (pss_one (ps_raise hcm tk (pmk_ref T hr (ea_cons (ev_str (X := X) (G := G) (S := S1)) ea_nil he) hg he hpl))) pssF) pssF) fun D σ H ⟨ps, R⟩ => ⟨ps, R, fun H1 ps1 R1 L1 => iteT ⟨ps1, R1, fun us H2 ps2 R2 L2 A2 => by
    obtain ⟨u, rfl, hu⟩ := p1 A2
    cases is_at hu
    exact ⟨_, rfl, fun d hd => hz d _ (fun b o q => by
      have q2 := keep0 R2 hB b o q
      rw [upd_ne (ne_of_none q2 hd)]
      exact q2) upd_same⟩⟩⟩
/-- a def's promise to refuse, as a callee -/
theorem sp_ref {ψ : List A → Prop} {us : List V} {Q : VK} (R : RelP K G ps S σ H) (hA : IsAll K H (Out G ps) us ds) (hψ : ψ (ds.map .dat)) (hz : Rz C r H E) : SpR K C r ψ us H Q E := by
  refine ⟨⟨H, Out G ps, []⟩, ds.map .dat, rfl, rfl, hψ, ⟨fun i j p h => by simp at h, ⟨[], rfl⟩, fun p m => by simp at m, fun a o e _ => e, fun a z => ⟨fun e => R.out e z, List.not_mem_nil⟩, rfl, fun k q c h => by simp at h, ?_⟩, hz⟩
  have up : ∀ {v : V} {d : Dt}, Is K H (Out G ps) v d → Is K H (Out ⟨H, Out G ps, []⟩ []) v d := fun h => Is.mono (fun a o e n => ⟨e, fun z => n (z.elim (fun z => absurd z List.not_mem_nil) id)⟩) _ h
  have go : ∀ {vs : List V} {ds : List Dt}, IsAll K H (Out G ps) vs ds → Paired (SlOk K ⟨H, Out G ps, []⟩ [] H) (vs.map some) ((ds.map A.dat).map some) := by
    intro vs ds h
    induction ds generalizing vs with
    | nil => cases h; exact .nil
    | cons d ds ih =>
      cases h with
      | cons h1 h2 => exact .cons (show AIs K _ _ _ _ (.dat d) from up h1) (ih h2)
  exact go hA
structure DfR (P : Program) (w : World) (K : PySem.W.Frag) (mg : Str → Option Value) (base : Heap) (C : Addr) (k : Nat) (n : Str) (ps : List Str) (r : Str) (ψ : List A → Prop) : Prop where
  ex : ∃ f fd, FnOk P w K mg base (L2.CX P w) k f fd ps (SpR K C r ψ) ∧ mg n = some (.ref f) ∧ PySem.W.keepIn K (.ref f) = true ∧ Binds K fd ps []
/-- a call that refuses -/
theorem er_call {pn : List Str} {ψ : List A → Prop} (D : DfR X.prog X.w X.K X.mg X.base C k n pn r ψ) (hr : Room k X.A) (hx : Passes (L2.CX X.prog X.w) X E) (hB : G.B = []) (hz : Rz C r G.H0 E) (ha : EA X G S (e :: es) (ds.map .dat) S1) (hψ : ψ (ds.map .dat)) (hg : Gl X n := by rfl)
    (hdb : (n == ("__debug__" : Str)) = false := by decide) (he : starEach (e :: es) X.env = (false, eval e X.env) :: starEach es X.env := by rfl) (hpl : (backTo pos (starEach es X.env)).any (·.1) = false := by rfl) : ER X G S (.Call (.Name n p2) (e :: es) [] pos) := by
  obtain ⟨f, fd, F, m, kp, b⟩ := D.ex
  exact PE.imp (pe_call F hr hg m kp b .nil hx ha hdb he hpl) fun σ H Q ⟨ps, R⟩ => ⟨ps, R, fun us H1 ps1 R1 L1 A1 => by
    show SpR X.K C r ψ (us ++ []) H1 Q E
    rw [List.append_nil]
    exact sp_ref R1 (all_of A1) hψ (hz.up (keep0 R1 hB))⟩
/-- sum([.. for x in e]), e refuses -/
theorem er_sumC {ifs : List Expr} {scope : Scope} (own : List (Str × Nat)) (hc : X.calm = true) (hm : X.mg "sum" = none) (hN : X.N.Nodup) (ok : BlkOk X.N X.env.scope scope own) (h : ER X G S iter) (hg : Gl X "sum" := by rfl) (hs : ∀ x, foldedSetIterable iter X.env x = pure x := by intro _; rfl)
    (he : starEach [.ListComp elt [⟨tg, iter, ifs, 0⟩] scope apos] X.env = (false, eval (.ListComp elt [⟨tg, iter, ifs, 0⟩] scope apos) X.env) :: starEach [] X.env := by rfl) (hpl : (backTo pos (starEach [] X.env)).any (·.1) = false := by rfl) :
    ER X G S (.Call (.Name "sum" p2) [.ListComp elt [⟨tg, iter, ifs, 0⟩] scope apos] [] pos) :=
  PE.imp (pe_callB (cr_sum hc) hg hm (by decide +kernel) (pa_cons (pe_lc (own := own) hc hN (pi_tup (tg := tg) h) ok (fun _ _ _ _ _ => pgF) (fun _ _ _ _ _ => ptsF) (fun _ _ _ _ _ => peF) hs) pa_nil he) (by decide) (by decide) he hpl) fun σ H Q ⟨ps, R⟩ => ⟨ps, R⟩
/-- a def that refuses, by its body -/
theorem dfR_mk {P : Program} {w : World} {mg : Str → Option Value} {base : Heap} {N pn : List Str} {ψ : List A → Prop} (T : Top K mg n st pn) (sc : FnScope N pn (defScope st)) (hlen : ∀ args, ψ args → args.length = pn.length)
    (hbody : ∀ (f : Addr) (cdv : Value) (Ar : Around) (outer : List Env) (s : Shared) (H : Hp) (E : XK) (G : Gh) (args : List A), Room k (Ar.deeper (PyProof.Rows.envOfC n (defScope st) s.heap.objs.size f cdv)) → ψ args → G.B = [] → Rz C r G.H0 E →
      WR (cxOf (L2.CX P w) P w K mg base N n (defScope st) f cdv Ar outer s H E) G ⟨args.map some ++ List.replicate (N.length - args.length) none, []⟩ (defBody st)) : DfR P w K mg base C (k + 1) n pn r ψ := by
  obtain ⟨f, fd, F, m, b⟩ := T.ex
  refine ⟨f, fd, ?_, m, F.kp, b⟩
  refine F.okX sc (fun vs H Q E ⟨G, args, h1, h2, h3, R, hz⟩ => ?_) (fun cdv Ar outer s H vs Q E hr ⟨G, args, h1, h2, h3, R, hz⟩ => ⟨_, hbody f cdv Ar outer s H E G args hr h3 h2 (h1 ▸ hz), [], ?_⟩)
  · have := Paired.len R.slots
    simp at this
    rw [this]
    exact hlen _ h3
  · have hl : vs.length = args.length := by
      have := Paired.len R.slots
      simp at this
      exact this
    refine ⟨R.nd, R.bs, R.new, R.keep, R.zd, R.clen, R.cells, ?_⟩
    show Paired _ (L2.start N vs) _
    unfold L2.start
    rw [hl]
    exact Paired.app R.slots (fn_ok.rep_ok _)
end Ab
set_option Elab.async false
set_option linter.all false
set_option maxRecDepth 100000
/-! A lambda handed to a def that hears what it refuses. -/
namespace Ab
open PySem PySem.Spec PyProof.Rows L2 PySem.RefX LamX
theorem takes_len {X : Cx} {W : WX} (tk : Takes X W) : Takes X (fun cls d σ H => σ.length = X.N.length → W cls d σ H) := fun u s' x => by
  obtain ⟨a, B, sI, pins', σ', H', cls, d, e1, J', nb, up, sky, na, os, ag, z⟩ := x
  exact tk u s' ⟨a, B, sI, pins', σ', H', cls, d, e1, J', nb, up, sky, na, os, ag, z J'.len⟩
/-- heard: try: a(); return None / except Refused as e: return e.at -/
def THeard (K : PySem.W.Frag) (C : Addr) : (XK → Hp → VK → Prop) → Hp → VK → Prop := fun tl H Q =>
  tl (fun cls d H' => cls = .ref C ∧ ∃ (dd : Addr) (z : V), d = some dd ∧ H' dd = some (.xd [(("at" : Str), z)]) ∧ Q z H') H (fun _ H' => Q .non H')
theorem heard_gives {X : Cx} {x q : Str} {sg : Scope} {g C fI : Addr} {cdg : Value} {j : Nat} {p1 p2 p3 p4 p5 p6 p7 p8 p9 p10 p11 : Pos} (T : RefTxt X.prog X.K X.mg C fI) (hge : sg.names.lookup ("Refused" : Str) = some .globalImplicit) (hea : sg.names.lookup ("e" : Str) = some .local) :
    GivesTo X ["work", "e"] x sg g cdg [.Try [.Expr (.Call (.Name "work" p1) [] [] p2) p3, .Return (some (.Constant .none j p4)) p5] [.ExceptHandler (some (.Name "Refused" p6)) (some "e") [.Return (some (.Attribute (.Name "e" p7) "at" p8)) p9] p10] [] [] p11] "work" q (THeard X.K C) := by
  intro f c' s H Q tl act hc h
  have hgl : Gl (cxOf C8.CX0 X.prog X.w X.K X.mg X.base ["work", "e"] x sg g cdg X.A X.stack s H C8.E0).nox "Refused" := hge
  refine ⟨_, pss_one (ps_try_as (X := (cxOf C8.CX0 X.prog X.w X.K X.mg X.base ["work", "e"] x sg g cdg X.A X.stack s H C8.E0).nox) (c := .ref C) (i := 1) (n := "e")
      (tb := fun W D σ H => ∃ Ech : XK, (∀ cls d σ' H', Ech cls d H' → (σ'.length = 2 → W cls d σ' H')) ∧ σ[0]? = some (some (.ref f)) ∧ H c' = some (CodeO c' q) ∧ tl Ech H (fun _ H' => D.rt .non H'))
      (ts := fun a cls d => tRet (tAt C a cls d (tVar 1))) (Wout := fun _ _ _ _ => False)
      rfl rfl (show (["work", "e"] : List Str).Nodup by decide) rfl hea ⟨hgl, by decide, .inl T.gC⟩ LamX.takes0 (fun W pn xe tk _ => ?_) (fun a oe cls d pn hz hf => pss_one (ps_ret (pe_at T hz hf (pe_var rfl (.inl hea)))))), ?_⟩
  · refine ⟨fun pins s' σ H' D I h' => ?_⟩
    obtain ⟨Ech, hW, h1, h2, h3⟩ := h'
    have hp := act (fun cls d σ H => σ.length = 2 → W cls d σ H) pn xe Ech p1 p2 (takes_len tk) hW
    have hq := pss_cons (ps_expr (pos := p3) hp) (pss_one (ps_ret (pos := p5) (pe_non (pos := p4) (j := j))))
    exact hq.run pins s' σ H' D I ⟨h1, h2, h3⟩
  · refine ⟨fun cls d H' => cls = .ref C ∧ ∃ (dd : Addr) (z : V), d = some dd ∧ H' dd = some (.xd [(("at" : Str), z)]) ∧ Q z H', fun cls d σ' H' ⟨e1, dd, z, e2, e3, e4⟩ hl => ?_, rfl, hc, h⟩
    subst e1
    subst e2
    refine ⟨true, T.te, fun _ a _ => ⟨.ref a, ?_, rfl, rfl, dd, z, rfl, e3, e4⟩, fun z => nomatch z⟩
    rw [List.getElem?_set_self (by omega)]
end Ab
set_option Elab.async false
set_option linter.all false
set_option maxRecDepth 100000
set_option maxHeartbeats 2000000
/-! A lambda made: one table changes, all else stays. -/
namespace Ab
open PySem PySem.Spec PyProof.Rows L2 PySem.RefX LamX
section
variable {X : Cx} {pins : List (Addr × Obj)} {σ : L2.St} {H : Hp} {s : Shared}
/-- all stays but the object at P -/
def ExtP (P : Addr) (H H' : Hp) : Prop := ∀ b o, b ≠ P → H b = some o → H' b = some o
theorem lam_makeP {c P : Addr} {params : Arguments} {body : Expr} {scope : Scope} {pos : Pos} {E : Value → Shared → Prop} {Q : Value → Shared → Prop} (I : Inv X pins σ H s) (TB : TabB X.base X.mg c P) (hcode : X.env.code = .ref c)
    (hT : TabS H P (X.env.qual ++ "<lambda>")) (hdef : defaultsOf params X.env = ([], [])) (hfree : ∀ y ∈ scope.names, y.2 = .free → ∃ c, X.env.cells.lookup y.1 = some c)
    (h : ∀ (f c' : Addr) (pm ctv : Value) (H1 : Hp) (s' : Shared), Inv X pins σ H1 s' → ExtP P H H1 → TabS H1 P (X.env.qual ++ "<lambda>") →
      s'.heap.get? f = some (PySem.W.kla_obj "<lambda>" (X.env.qual ++ "<lambda>") params body scope (cloFrom X.env.cells scope.names []) pm c' ctv) → H1 f = none → f ∉ frs X.stack → H1 c' = some (CodeO c' (X.env.qual ++ "<lambda>")) → Q (.ref f) s') :
    wpAny (model X.prog X.w) X.A (eval (.Lambda params body scope pos) X.env) Q E s := by
  obtain ⟨tb, hP, ht, ha⟩ := hT
  refine PySem.W.kla_eval hdef ?_
  have bP : s.heap.BuiltinsAt X.mg P := TB.bm.keeps I.bk
  have hP' : s.heap.get? P = some { cls := .none, data := .fields tb } := I.hok P _ hP
  have nofr : ∀ f, s.heap.objs.size ≤ f → f ∉ frs X.stack := fun f hf z => by
    rcases List.mem_cons.mp (I.stkSub _ z) with e | e
    · have h1 := I.lt
      rw [← e] at h1
      exact Nat.lt_irrefl _ (Nat.lt_of_lt_of_le h1 hf)
    · exact I.nofs hf e
  cases hc : codeAmong pos tb.toList with
  | none =>
    refine PySem.W.kla_makeFunction (mg := X.mg) (c := c) (P := P) (ps := tb) (closure_ok hfree) I.ok.glob (I.mod.glob.keeps I.bk) hcode (TB.code.keeps I.bk) hP' ht hc TB.gP bP fun c' ctv h' tk hx hge hlt ⟨c2, oc, vs, t, e2, hoc, hd, hv⟩ htb => ?_
    cases e2
    have hsz : s.heap.objs.size ≤ h'.objs.size := Nat.le_trans hge (Nat.le_of_lt hlt)
    have nC : H c' = none := I.hok.fresh hge
    have I1 := inv_table (t' := tk) (more := #[rawInt pos.line, rawInt pos.col, .ref c']) (h' := h'.push (PySem.W.kla_obj "<lambda>" (X.env.qual ++ "<lambda>") params body scope (cloFrom X.env.cells scope.names []) ((X.mg "__name__").getD .none) c' ctv)) I hP
      (fun b o hb e => Heap.get?_push_of_some _ (hx b o hb e)) (Heap.get?_push_of_some _ htb) hge ⟨oc, vs, t, Heap.get?_push_of_some _ hoc, hd, hv⟩
    have ext : ExtP P H (upd (upd H P (.tbl (tb ++ #[rawInt pos.line, rawInt pos.col, .ref c']))) c' (CodeO c' (X.env.qual ++ "<lambda>"))) := fun b o n e => by
      rw [upd_ne (ne_of_none e nC), upd_ne n]
      exact e
    have eL : (tb ++ #[rawInt pos.line, rawInt pos.col, .ref c']).toList = tb.toList ++ [rawInt pos.line, rawInt pos.col, .ref c'] := by simp
    have n1 : h'.objs.size ≠ c' := Nat.ne_of_gt hlt
    have n2 : h'.objs.size ≠ P := Nat.ne_of_gt (Nat.lt_of_lt_of_le (Heap.lt_size hP') hsz)
    refine h h'.objs.size c' ((X.mg "__name__").getD .none) ctv _ _ I1 ext ⟨_, by rw [upd_ne (ne_of_none hP nC), upd_same], by rw [eL]; exact PySem.TriplesOk_snoc _ _ _ _ ht, fun p' cv hcv => ?_⟩ (Heap.get?_push_size _ rfl) (by rw [upd_ne n1, upd_ne n2]; exact I.hok.fresh hsz) (nofr _ hsz) upd_same
    rw [eL] at hcv
    rcases among_app _ ht hcv with z | z
    · obtain ⟨c0, e1, e2⟩ := ha p' cv z
      exact ⟨c0, e1, ext _ _ (fun q => by rw [q, hP] at e2; exact codeO_ne _ (Option.some.inj e2).symm) e2⟩
    · exact ⟨c', z, upd_same⟩
  | some cv =>
    obtain ⟨c', e, hco⟩ := ha pos cv hc
    subst e
    refine PySem.W.kla_makeFunctionHit (mg := X.mg) (c := c) (P := P) (ps := tb) (closure_ok hfree) I.ok.glob (I.mod.glob.keeps I.bk) hcode (TB.code.keeps I.bk) hP' ht hc bP fun ctv h' tk hx hsz => ?_
    have I1 : Inv X pins σ H { s with heap := h'.push (PySem.W.kla_obj "<lambda>" (X.env.qual ++ "<lambda>") params body scope (cloFrom X.env.cells scope.names []) ((X.mg "__name__").getD .none) c' ctv), toks := tk } := I.kept fun b o e => Heap.get?_push_of_some _ (hx b o e)
    exact h h'.objs.size c' ((X.mg "__name__").getD .none) ctv H _ I1 (fun _ _ _ e => e) ⟨tb, hP, ht, ha⟩ (Heap.get?_push_size _ rfl) (I.hok.fresh hsz) (nofr _ hsz) hco
end
def tLamP (P : Addr) (q : Str) (TT : (XK → Hp → VK → Prop) → Hp → VK → Prop) (t : XK → TE) : TE := fun σ H Q => TabS H P q ∧ ∀ H1, ExtP P H H1 → TabS H1 P q → TT (fun E H' Q' => t E σ H' Q') H1 Q
section
variable {X : Cx}
theorem pe_lamP {TT : (XK → Hp → VK → Prop) → Hp → VK → Prop} {x a : Str} {g c P : Addr} {k : Nat} {pg : Arguments} {bg : List Stmt} {sg : Scope} {dV kV doc pm cdv ct oc : Value} {an od : Option Addr} {osl : Array (Option Value)} {Ng : List Str}
    {params : Arguments} {body : Expr} {scope : Scope} {t : XK → TE} {p lpos pos : Pos} (hg : Gl X x) (hm : X.mg x = some (.ref g)) (hk : PySem.W.keepIn X.K (.ref g) = true)
    (lk : X.K.lookup g = some ⟨oc, od, .func (PySem.W.fnOf x x pg bg sg dV kV doc pm an cdv ct), osl⟩) (hcg : PySem.W.codeIn X.K cdv x = true) (hb : L2.Binds X.K (PySem.W.fnOf x x pg bg sg dV kV doc pm an cdv ct) [a] []) (Sg : FnScope Ng [a] sg) (hNg : Ng[0]? = some a) (hva : Vis sg a)
    (hG : GivesTo X Ng x sg g cdv bg a (X.env.qual ++ "<lambda>") TT) (TB : TabB X.base X.mg c P) (hcode : X.env.code = .ref c) (hr : Room (k + 2) X.A) (L : LamS X.env.scope scope) (hdef : defaultsOf params X.env = ([], []))
    (hbind : ∀ (q : Str) (cl : List (Str × Addr)) (pm cv ctv : Value), bindArgs (PySem.W.kla_fn "<lambda>" q params body scope cl pm cv ctv) ⟨[], []⟩ = pure [])
    (hbody : ∀ (A : Around) (outer : List Env) (s : Shared) (H : Hp) (E : XK) (f c' : Addr), Room k (A.deeper (lamEnv X scope s.heap.objs.size f c')) → PE (lamCx X A outer s H E scope f c') body (t E))
    (hdb : (x == ("__debug__" : Str)) = false := by decide) (hd : (a == ("__debug__" : Str)) = false := by decide) (hcd : (a == ("__classdict__" : Str)) = false := by decide) :
    PE X (.Call (.Name x p) [.Lambda params body scope lpos] [] pos) (tLamP P (X.env.qual ++ "<lambda>") TT t) := by
  refine ⟨fun pins s σ H Q I ⟨hT, h⟩ => ?_⟩
  refine wpAny_Call_Name_kw (ld_glob I hg hm ?_ hdb)
  refine PySem.W.callWith_K (h₀ := X.base) I.ok.mod.kin hk ?_ (by rfl) (by rfl)
  show wpAny _ _ (spliced ((false, eval (.Lambda params body scope lpos) X.env) :: backTo pos (starEach [] X.env))) _ _ s
  refine Calls.spliced_cons (lam_makeP I TB hcode hT hdef (L.has I.ok) fun f c' pm' ctv H1 s' I1 eN T1 hf hfn hfr hco => Calls.spliced_nil ⟨I1.kIn, ?_⟩)
  have rc : codeAny (model X.prog X.w) X.A (.call (.ref g) ⟨[.ref f], []⟩) (CR C8.CX0 X.stack X.prog X.w H1 s' Q C8.E0) s' := by
    refine run_ofS (N := Ng) (ps := [a]) (us := [.ref f]) (vs := [.ref f]) lk hcg Sg hr I1.env0 (hb s' [.ref f] I1.kIn rfl) (.cons rfl .nil) rfl fun hr' => ?_
    obtain ⟨t', ht', hq'⟩ := hG f c' s' H1 Q (fun E H' Q' => t E σ H' Q') (fun W pn xe E p1 p2 tk hW => pe_act (i := 0) I1 L hf hfn hfr (hbind _ _ _ _ _) tk hW hr' (fun A outer s H hr2 => hbody A outer s H E f c' hr2) hNg hva hd hcd) hco (h H1 eN T1)
    exact ⟨t', ht'.nox, hq'⟩
  refine wpAny_call (codeAny_mono rc fun r s2 hq => ?_)
  cases r with
  | error e => exact (show False from hq).elim
  | ok fl =>
    cases fl with
    | ret u => exact I1.after hq
    | next => exact hq.elim
    | brk => exact hq.elim
    | cont => exact hq.elim
end
/-! ### in the layer -/
section
variable {X : Cx} {K : PySem.W.Frag} {G : Gh} {S S' : Ms} {ps ps' : Ps} {σ : L2.St} {H H1 : Hp} {P : Addr} {q r : Str} {C fI : Addr}
theorem RelP.tabs (R : RelP K G ps S σ H) (hp : ps[0]? = some (some P)) (hc : S.cs[0]? = some (.tab q)) : TabS H P q := by
  obtain ⟨p, tb, e, h1, h2, h3⟩ := R.cells 0 _ _ hp hc
  cases e
  exact ⟨tb, h1, h2, fun pos cv hcv => (h3 pos cv hcv).imp fun c z => ⟨z.1, z.2.1⟩⟩
theorem RelP.extP (R : RelP K G ps S σ H) (hp : ps[0]? = some (some P)) (hc : S.cs[0]? = some (.tab q)) (hZ : ∀ a, ¬ G.Z a) (hu : ∀ j n, S.cs[j]? = some (.tab n) → j = 0) (e : ExtP P H H1) (t : TabS H1 P q) : RelP K G ps S σ H1 ∧ Le G ps H ps H1 := by
  obtain ⟨tb, t1, t2, t3⟩ := t
  have h0 : 0 < S.cs.length := (List.getElem?_eq_some_iff.mp hc).1
  have w := R.write' (H' := H1) (c := .tab q) hp (fun a o ne h => e a o ne h) fun x => ⟨P, tb, rfl, t1, t2, fun pos cv hcv => ?_⟩
  · have es : S.cs.set 0 (.tab q) = S.cs := by
      apply List.ext_getElem?
      intro i
      by_cases hi : i = 0
      · subst hi
        rw [List.getElem?_set_self h0, hc]
      · rw [List.getElem?_set_ne (Ne.symm hi)]
    have w' : RelP K G ps ⟨S.sl, S.cs.set 0 (.tab q)⟩ σ H1 ∧ Le G ps H ps H1 := w
    rw [es] at w'
    exact w'
  · obtain ⟨c, a1, a2⟩ := t3 pos cv hcv
    refine ⟨c, a1, a2, fun z => ?_⟩
    rcases z with z | z
    · obtain ⟨j, hj⟩ := List.mem_iff_getElem?.mp z
      have hjl : j < S.cs.length := by rw [← R.clen]; exact (List.getElem?_eq_some_iff.mp hj).1
      have ok := R.cells j _ _ hj (List.getElem?_eq_getElem hjl)
      cases hcj : S.cs[j] with
      | gone => rw [hcj] at ok; cases ok
      | tab n =>
        have := hu j n (by rw [List.getElem?_eq_getElem hjl, hcj])
        subst this
        rw [hp] at hj
        cases hj
        rw [t1] at a2
        exact codeO_ne _ (Option.some.inj a2).symm
      | lst as =>
        rw [hcj] at ok
        obtain ⟨p, vs, e1, g1, _⟩ := ok
        cases e1
        by_cases hPc : c = P
        · rw [hPc, t1] at a2
          exact codeO_ne _ (Option.some.inj a2).symm
        · rw [e _ _ hPc g1] at a2
          have z2 : HO.lst vs = HO.ext _ := Option.some.inj a2
          cases z2
      | dk kvs =>
        rw [hcj] at ok
        obtain ⟨p, vs, e1, g1, _⟩ := ok
        cases e1
        by_cases hPc : c = P
        · rw [hPc, t1] at a2
          exact codeO_ne _ (Option.some.inj a2).symm
        · rw [e _ _ hPc g1] at a2
          have z2 : HO.dK vs = HO.ext _ := Option.some.inj a2
          cases z2
    · exact hZ c z
/-- a lambda's body refuses at r, and leaves S' -/
def tLR (K : PySem.W.Frag) (G : Gh) (C : Addr) (r : Str) (S S' : Ms) (E : XK) : TE := fun σ H _ => ∃ ps, RelP K G ps S σ H ∧ ∀ (d : Addr) (H' : Hp) (ps' : Ps), RelP K G ps' S' σ H' → Le G ps H ps' H' → H' d = some (.xd [(("at" : Str), .str r)]) → E (.ref C) (some d) H'
/-- what law hears of a lambda that refuses -/
theorem ev_heard {e : Expr} (hp : PE X e (tLamP P q (THeard X.K C) (tLR X.K G C r S S'))) (hB : ∃ B, G.B = P :: B) (hc : S.cs[0]? = some (.tab q)) (hZ : ∀ a, ¬ G.Z a) (hu : ∀ j n, S.cs[j]? = some (.tab n) → j = 0) : EV X G S e (En r) S' :=
  PE.imp hp fun σ H Q ⟨ps, R, k⟩ => by
    have h0 : ps[0]? = some (some P) := by
      obtain ⟨B, hB⟩ := hB
      obtain ⟨r, e⟩ := R.bs
      rw [e, hB]
      rfl
    refine ⟨R.tabs h0 hc, fun H1 e t => ?_⟩
    obtain ⟨R1, L1⟩ := R.extP h0 hc hZ hu e t
    exact ⟨ps, R1, fun d H' ps' R' L' hd => ⟨rfl, d, .str r, rfl, hd, k (.str r) H' ps' R' (L1.trans L') (.at _)⟩⟩
end
end Ab
set_option Elab.async false
set_option linter.all false
set_option maxRecDepth 100000
/-! Calls that refuse, out of a lambda. -/
namespace Ab
open PySem PySem.Spec PyProof.Rows L2 PySem.RefX LamX
instance : Inhabited V := ⟨.non⟩
def noTab : List Ab.C → Bool
  | [] => true
  | .tab _ :: _ => false
  | .lst _ :: cs => noTab cs
  | .dk _ :: cs => noTab cs
  | .gone :: cs => noTab cs
theorem noTab_at : ∀ {cs : List Ab.C} {j : Nat} {n : Str}, noTab cs = true → cs[j]? ≠ some (.tab n)
  | [], j, n, _, e => by simp at e
  | c :: cs, 0, n, h, e => by
    simp at e
    subst e
    cases h
  | c :: cs, j + 1, n, h, e => by
    have h2 : noTab cs = true := by
      cases c with
      | tab q => cases h
      | _ => exact h
    exact noTab_at (j := j) (n := n) h2 (by simpa using e)
theorem hu_of {q : Str} {cs : List Ab.C} (h : noTab cs = true) : ∀ j n, (Ab.C.tab q :: cs)[j]? = some (.tab n) → j = 0 := fun j n e => by
  cases j with
  | zero => rfl
  | succ j => exact absurd (by simpa using e) (noTab_at (j := j) (n := n) h)
variable {X : Cx} {K : PySem.W.Frag} {G : Gh} {S S' S1 S2 S3 : Ms} {a b c e fe : Expr} {es : List Expr} {x y z : A} {as : List A} {pos p2 p3 apos pos' : Pos} {ps ps' : Ps} {σ : L2.St} {H H' : Hp} {v : V} {ds : List Dt} {n : Str} {k : Nat} {C fI : Addr} {r : Str} {E : XK}
theorem Rz.of {ps : Ps} (R : RelP K G ps S σ H) (q : ∀ (d : Addr) (H' : Hp) (ps' : Ps), RelP K G ps' S σ H' → Le G ps H ps' H' → H' d = some (.xd [(("at" : Str), .str r)]) → E (.ref C) (some d) H') : Rz C r H E := fun d H' k hd => by
  obtain ⟨R2, L2⟩ := R.same k
  exact q d H' ps R2 L2 hd
theorem er_callL {pn : List Str} {ψ : List A → Prop} (D : DfR X.prog X.w X.K X.mg X.base C k n pn r ψ) (hr : Room k X.A) (hx : Passes (L2.CX X.prog X.w) X E) (ha : EA X G S (e :: es) (ds.map .dat) S1) (hψ : ψ (ds.map .dat)) (hg : Gl X n := by rfl)
    (hdb : (n == ("__debug__" : Str)) = false := by decide) (he : starEach (e :: es) X.env = (false, eval e X.env) :: starEach es X.env := by rfl) (hpl : (backTo pos (starEach es X.env)).any (·.1) = false := by rfl) : PE X (.Call (.Name n p2) (e :: es) [] pos) (tLR X.K G C r S S1 E) := by
  obtain ⟨f, fd, F, m, kp, b⟩ := D.ex
  exact PE.imp (pe_call F hr hg m kp b .nil hx ha hdb he hpl) fun σ H Q ⟨ps, R, q⟩ => ⟨ps, R, fun us H1 ps1 R1 L1 A1 => by
    show SpR X.K C r ψ (us ++ []) H1 Q E
    rw [List.append_nil]
    exact sp_ref R1 (all_of A1) hψ (Rz.of R1 fun d H' ps' R' L' hd => q d H' ps' R' (L1.trans L') hd)⟩
/-- the defs that a value may be -/
structure FnsR (P : Program) (w : World) (K : PySem.W.Frag) (mg : Str → Option Value) (base : Heap) (C : Addr) (k : Nat) (pn : List Str) (r : Str) (ψ : List A → Prop) (f : Addr) : Prop where
  ex : ∃ fd, FnOk P w K mg base (L2.CX P w) k f fd pn (SpR K C r ψ) ∧ PySem.W.keepIn K (.ref f) = true ∧ Binds K fd pn []
theorem pe_callX {CX : CXT} {pn : List Str} {sp : Sp} {Fs : Addr → Prop} {tf : TE} {t : TA} (hF : ∀ f, Fs f → ∃ fd, FnOk X.prog X.w X.K X.mg X.base CX k f fd pn sp ∧ PySem.W.keepIn X.K (.ref f) = true ∧ Binds X.K fd pn []) (hr : Room k X.A) (hx : Passes CX X E) (hf : PE X fe tf) (ha : PA X (e :: es) t)
    (ht : eval (.Call fe (e :: es) [] pos) X.env = (do callWith pos (← eval fe X.env) [] (backTo pos (starEach (e :: es) X.env)) (backToKw pos (keywordEach [] X.env))) := by rfl)
    (he : starEach (e :: es) X.env = (false, eval e X.env) :: starEach es X.env := by rfl) (hpl : (backTo pos (starEach es X.env)).any (·.1) = false := by rfl) :
    PE X (.Call fe (e :: es) [] pos) (fun σ H Q => tf σ H fun y H1 => ∃ f, y = .ref f ∧ Fs f ∧ t σ H1 fun vs H2 => sp vs H2 Q E) := by
  refine ⟨fun pins s σ H Q I h => ?_⟩
  refine Call_ (thn (hf.run pins s σ H _ I h) fun u s1 ⟨y, H1, I1, ry, f, ey, hfs, q⟩ => ?_) ht
  subst ey
  obtain rfl : u = Value.ref f := ry
  obtain ⟨fd, F, kp, b⟩ := hF f hfs
  exact PySem.W.callWith_K (h₀ := X.base) I1.ok.mod.kin kp (thn (ha.run pos pins s1 σ H1 _ I1 q) fun us s2 ⟨vs, H2, I2, r2, q2⟩ => ⟨I2.kIn, run_fn F hr b .nil hx I2 r2 (by rw [List.append_nil]; exact q2)⟩) he hpl
theorem er_callX {pn : List Str} {ψ : List A → Prop} {f : Addr} (D : FnsR X.prog X.w X.K X.mg X.base C k pn r ψ f) (hr : Room k X.A) (hx : Passes (L2.CX X.prog X.w) X E) (hf : EV X G S fe (.dat (.at (.ref f))) S1) (ha : EA X G S1 (e :: es) (ds.map .dat) S2) (hψ : ψ (ds.map .dat))
    (ht : eval (.Call fe (e :: es) [] pos) X.env = (do callWith pos (← eval fe X.env) [] (backTo pos (starEach (e :: es) X.env)) (backToKw pos (keywordEach [] X.env))) := by rfl)
    (he : starEach (e :: es) X.env = (false, eval e X.env) :: starEach es X.env := by rfl) (hpl : (backTo pos (starEach es X.env)).any (·.1) = false := by rfl) : PE X (.Call fe (e :: es) [] pos) (tLR X.K G C r S S2 E) :=
  PE.imp (pe_callX (Fs := fun g => g = f) (fun g hg => by rw [hg]; exact D.ex) hr hx hf ha ht he hpl) fun σ H Q ⟨ps, R, q⟩ => ⟨ps, R, fun y H1 ps1 R1 L1 A1 => ⟨f, is_at A1, rfl, ps1, R1, fun us H2 ps2 R2 L2 A2 =>
    sp_ref R2 (all_of A2) hψ (Rz.of R2 fun d H' ps' R' L' hd => q d H' ps' R' ((L1.trans L2).trans L') hd)⟩⟩
/-- _law_heard(lambda: body), body refuses at r -/
theorem ev_heardF {st : Stmt} {c P : Addr} {params : Arguments} {body : Expr} {scope : Scope} {p lpos : Pos} {j : Nat} {q1 q2 q3 q4 q5 q6 q7 q8 q9 q10 q11 : Pos} {B : List Addr} (TH : Top X.K X.mg "_law_heard" st ["work"]) (RT : RefTxt X.prog X.K X.mg C fI) (TB : TabB X.base X.mg c P) (hcode : X.env.code = .ref c) (sc : FnScope ["work", "e"] ["work"] (defScope st))
    (hst : defBody st = [.Try [.Expr (.Call (.Name "work" q1) [] [] q2) q3, .Return (some (.Constant .none j q4)) q5] [.ExceptHandler (some (.Name "Refused" q6)) (some "e") [.Return (some (.Attribute (.Name "e" q7) "at" q8)) q9] q10] [] [] q11]) (hge : (defScope st).names.lookup ("Refused" : Str) = some .globalImplicit) (hea : (defScope st).names.lookup ("e" : Str) = some .local) (hwa : (defScope st).names.lookup ("work" : Str) = some .local)
    (hr : Room (k + 2) X.A) (L : LamS X.env.scope scope) (hdef : defaultsOf params X.env = ([], [])) (hbind : ∀ (q : Str) (cl : List (Str × Addr)) (pm cv ctv : Value), bindArgs (PySem.W.kla_fn "<lambda>" q params body scope cl pm cv ctv) ⟨[], []⟩ = pure [])
    (hB : G.B = P :: B) (hc : S.cs[0]? = some (.tab (X.env.qual ++ "<lambda>"))) (hZ : ∀ a, ¬ G.Z a) (hu : ∀ j n, S.cs[j]? = some (.tab n) → j = 0)
    (hbody : ∀ (A : Around) (outer : List Env) (s : Shared) (H : Hp) (E : XK) (f c' : Addr), Room k (A.deeper (lamEnv X scope s.heap.objs.size f c')) → PE (lamCx X A outer s H E scope f c') body (tLR X.K G C r S S' E)) (hg : Gl X "_law_heard" := by rfl) :
    EV X G S (.Call (.Name "_law_heard" p) [.Lambda params body scope lpos] [] pos) (En r) S' := by
  obtain ⟨g, fd, F, m, b⟩ := TH.ex
  obtain ⟨oc, od, kV, doc, pm, an, cdv, ct, osl, rfl, lk, hcd⟩ := F.ex
  have hG := heard_gives (X := X) (x := "_law_heard") (q := X.env.qual ++ "<lambda>") (sg := defScope st) (g := g) (cdg := cdv) (j := j) (p1 := q1) (p2 := q2) (p3 := q3) (p4 := q4) (p5 := q5) (p6 := q6) (p7 := q7) (p8 := q8) (p9 := q9) (p10 := q10) (p11 := q11) RT hge hea
  rw [← hst] at hG
  exact ev_heard (pe_lamP hg m F.kp lk hcd b sc rfl (.inl hwa) hG TB hcode hr L hdef hbind hbody) ⟨B, hB⟩ hc hZ hu
theorem gI_two {α : Type} [Inhabited α] {x y : α} {i : Int} (h : 0 ≤ i ∧ i < 2) : gI [x, y] i = x ∨ gI [x, y] i = y := by
  have : i = 0 ∨ i = 1 := by omega
  rcases this with rfl | rfl
  · exact .inl rfl
  · exact .inr rfl
end Ab
set_option Elab.async false
set_option linter.all false
set_option maxRecDepth 100000
set_option maxHeartbeats 2000000
/-! The head's facts for a law: the defs of the top by name, Refused, tables of code objects. -/
namespace Ab
open PySem PySem.Spec PyProof.Rows L2 PySem.RefX
/-! ### what is looked at -/
def reachN (n : Nat) (g : Addr → Option Obj) : List Addr := He.asD g n ++ [cStatics]
/-- an __init__ with the cell __class__ -/
abbrev IniV : Type := Option (Str × Str × Arguments × FuncBody × Scope × Addr × List Str × Value × Value × Addr)
def iniV (K : PySem.W.Frag) (f : Addr) : IniV := match K.lookup f with
  | some ⟨_, _, .func fd, _⟩ => some (fd.name, fd.qualname, fd.params, fd.body, fd.scope, fd.globals, fd.closure.map (·.1), fd.defaults, fd.kwdefaults, fd.builtins)
  | _ => none
def iniAt (K : PySem.W.Frag) (x : Str) : IniV := iniV K (He.ma K (He.ga K x) "__init__")
/-- the written form of Refused.__init__ -/
def refIni : IniV := some ("__init__", "Refused.__init__", rA, .stmts rB, rS, mainGlobals, ["__class__"], .none, .none, builtinsNs)
abbrev AlA : Type := He.AlX × List IniV
def obsA (n : Nat) (fa : List He.Fa) (fn : List He.DefD) (tf : List He.Defn) (ex : PySem.W.Frag → Bool) (xs : List (Str × IniV)) (g : Addr → Option Obj) : AlA :=
  ((He.obsT fa fn [] (He.frT g (reachN n g)), ex (He.frT g (reachN n g)) && He.tabsB g tf (He.frT g (reachN n g))), xs.map fun x => iniAt (He.frT g (reachN n g)) x.1)
def valA (fn : List He.DefD) (xs : List (Str × IniV)) (w : World) : AlA := (He.valX fn [] w, xs.map (·.2))
structure SaysA (fa : List He.Fa) (fn : List He.DefD) (tf : List He.Defn) (ex : PySem.W.Frag → Bool) (xs : List (Str × IniV)) (w : World) (h : Heap) (K : PySem.W.Frag) : Prop where
  x : He.SaysX fa fn [] tf ex w h K
  ini : xs.map (fun x => iniAt K x.1) = xs.map (·.2)
theorem says_at {fa : List He.Fa} {fn : List He.DefD} {tf : List He.Defn} {ex : PySem.W.Frag → Bool} {xs : List (Str × IniV)} {w : World} {h : Heap} (as : List Addr)
    (e : ((He.obsT fa fn [] (He.frT h.get? as), ex (He.frT h.get? as) && He.tabsB h.get? tf (He.frT h.get? as)), xs.map fun x => iniAt (He.frT h.get? as) x.1) = valA fn xs w) : SaysA fa fn tf ex xs w h (He.frT h.get? as) := by
  have hb : (ex (He.frT h.get? as) && He.tabsB h.get? tf (He.frT h.get? as)) = true := congrArg (fun z : AlA => z.1.2) e
  obtain ⟨b1, b2⟩ := He.ba hb
  have tabs : ∀ p ∈ tf, PySem.W.codeHdIn (He.frT h.get? as) (He.cT (He.frT h.get? as) p).1 (He.cT (He.frT h.get? as) p).2 = true ∧ ∃ o, h.get? (He.cT (He.frT h.get? as) p).2 = some o ∧ He.emptyTab o = true := by
    intro p hp
    obtain ⟨c1, c2⟩ := He.ba (List.all_eq_true.mp b2 p hp)
    refine ⟨c1, ?_⟩
    cases q : h.get? (He.cT (He.frT h.get? as) p).2 with
    | none => rw [q] at c2; cases c2
    | some o => rw [q] at c2; exact ⟨o, rfl, c2⟩
  refine ⟨⟨congrArg (fun z : AlA => z.1.1) e, b1, fun p hp => (tabs p hp).1, fun p hp => ?_, fun p hp => ?_⟩, congrArg (fun z : AlA => z.2) e⟩
  · obtain ⟨_, o, q, z⟩ := tabs p hp
    exact He.frT_none q z
  · obtain ⟨_, o, q, z⟩ := tabs p hp
    rw [q, He.emptyTab_eq z]
def hookA (n : Nat) (fa : List He.Fa) (fn : List He.DefD) (tf : List He.Defn) (ex : PySem.W.Frag → Bool) (xs : List (Str × IniV)) : PySem.W.Hook where
  α := AlA
  obs := fun s => obsA n fa fn tf ex xs s.heap.get?
  val := fun w => valA fn xs w
  says := fun w h => ∃ K : PySem.W.Frag, K.In h ∧ SaysA fa fn tf ex xs w h K
  of := fun _ _ e => ⟨_, He.frT_in, says_at _ e⟩
  keeps := fun _ _ _ ⟨K, hK, c⟩ k => ⟨K, PySem.W.Frag.In.keeps hK k, ⟨⟨c.x.t, c.x.more, c.x.hd, c.x.out, fun p hp => k _ _ (c.x.empty p hp)⟩, c.ini⟩⟩
theorem obsA_eq {n : Nat} {fa : List He.Fa} {fn : List He.DefD} {tf : List He.Defn} {ex : PySem.W.Frag → Bool} {xs : List (Str × IniV)} {g : Addr → Option Obj} {s : Shared} (h : ∀ a, g a = s.heap.get? a) : obsA n fa fn tf ex xs g = (hookA n fa fn tf ex xs).obs s := by
  have e : g = s.heap.get? := funext h
  rw [e] <;> rfl
/-! ### defs of the top -/
abbrev dD (n : Str) (st : Stmt) : He.DefD := ⟨(n, none), n, n, defArgs st, defBody st, defScope st, [], []⟩
section
variable {fa : List He.Fa} {fn : List He.DefD} {tf : List He.Defn} {ex : PySem.W.Frag → Bool} {xs : List (Str × IniV)} {w : World} {h : Heap} {K : PySem.W.Frag} {mg : Str → Option Value}
theorem fun_of {n : Str} {st : Stmt} {f : Addr} {fd : FuncData} (F : FunD K n n (defArgs st) (defBody st) (defScope st) [] [] f fd) : Fun K n n st f fd := by
  obtain ⟨oc, od, dV, kV, doc, pm, an, cdv, ct, osl, e, lk, hcd, hD, hK⟩ := F.ex
  rcases hD with ⟨_, e2⟩ | ⟨e2, _⟩
  · subst e2
    exact ⟨⟨oc, od, kV, doc, pm, an, cdv, ct, osl, e, lk, hcd⟩, F.kp⟩
  · exact absurd rfl e2
theorem SaysA.fact (c : SaysA fa fn tf ex xs w h K) (i : Nat) {f : He.Fa} (q : fa[i]? = some f := by rfl) : f.ok K = true := c.x.t.d.fact i q
theorem SaysA.glo (c : SaysA fa fn tf ex xs w h K) (X : K.In h) (G : h.Ns mainGlobals mg) (i : Nat) {x : Str} (q : fa[i]? = some (.glo x) := by rfl) : mg x = some (.ref (He.ga K x)) := He.glo_ok X G (c.fact i q)
theorem SaysA.free (c : SaysA fa fn tf ex xs w h K) (X : K.In h) (G : h.Ns mainGlobals mg) (i : Nat) {x : Str} (q : fa[i]? = some (.free x) := by rfl) : mg x = none := He.free_ok X G (c.fact i q)
theorem SaysA.int (c : SaysA fa fn tf ex xs w h K) (X : K.In h) (G : h.Ns mainGlobals mg) (i : Nat) {x : Str} {k : Int} (q : fa[i]? = some (.int x k) := by rfl) : ∃ t, mg x = some (.int k t) := He.int_ok X G (c.fact i q)
theorem SaysA.fun_ (c : SaysA fa fn tf ex xs w h K) (j : Nat) {n : Str} {st : Stmt} (q : fn[j]? = some (dD n st) := by rfl) : ∃ fd, Fun K n n st (He.ga K n) fd := by
  obtain ⟨fd, F⟩ := c.x.t.d.def_ j q
  exact ⟨fd, fun_of F⟩
theorem SaysA.top (c : SaysA fa fn tf ex xs w h K) (X : K.In h) (G : h.Ns mainGlobals mg) (i j : Nat) {n : Str} {st : Stmt} {ps : List Str} (qg : fa[i]? = some (.glo n)) (q : fn[j]? = some (dD n st))
    (hb : ∀ (kV doc pm : Value) (an : Option Addr) (cdv ct : Value) (us : List Value), us.length = ps.length → bindArgs (PySem.W.fnOf n n (defArgs st) (defBody st) (defScope st) .none kV doc pm an cdv ct) ⟨us, []⟩ = pure (ps.zip us)) : Top K mg n st ps := by
  obtain ⟨fd, F⟩ := c.fun_ j q
  exact ⟨_, fd, F, c.glo X G i qg, F.binds hb⟩
theorem SaysA.topK (c : SaysA fa fn tf ex xs w h K) (X : K.In h) (G : h.Ns mainGlobals mg) (i j : Nat) {n : Str} {st : Stmt} {ps ks : List Str} (qg : fa[i]? = some (.glo n)) (q : fn[j]? = some (dD n st))
    (hb : ∀ (kV doc pm : Value) (an : Option Addr) (cdv ct : Value) (us ws : List Value), us.length = ps.length - ks.length → ws.length = ks.length → bindArgs (PySem.W.fnOf n n (defArgs st) (defBody st) (defScope st) .none kV doc pm an cdv ct) ⟨us, ks.zip ws⟩ = pure (ps.zip (us ++ ws))) (hne : ps.length ≠ 0 := by decide) : TopK K mg n st ps ks := by
  obtain ⟨fd, F⟩ := c.fun_ j q
  obtain ⟨oc, od, kV, doc, pm, an, cdv, ct, osl, rfl, lk, hcd⟩ := F.ex
  exact ⟨_, _, F, c.glo X G i qg, kbn_by hne (hb kV doc pm an cdv ct)⟩
end
/-! ### Refused -/
def clsB (K : PySem.W.Frag) (C : Addr) : Bool := match K.lookup C with
  | some ⟨.type t, _, .cls cd, sl⟩ => (match cd.mro, sl.toList with
    | .ref C' :: bm, [_, _, _, _, some (.builtin n), _] => decide (t = "type") && (decide (C' = C) && (decide (n = "ValueError.__new__") && (!cd.hasDel && (cd.hasDict && (PySem.HandSPX.refsVE bm && He.eqO (PySem.W.alongIn K "__init__" bm) (some (some (.builtin "ValueError.__init__"))))))))
    | _, _ => false)
  | _ => false
theorem clsB_ok {K : PySem.W.Frag} {C : Addr} (q : clsB K C = true) : ∃ nm q N bs bm sn sub ab col dd k0 k1 k2 k3 k5, K.lookup C = some (excClassObj nm q C N bs bm true sn sub ab col dd k0 k1 k2 k3 k5 "ValueError.__new__") ∧ PySem.HandSPX.refsVE bm = true ∧ PySem.W.alongIn K "__init__" bm = some (some (.builtin "ValueError.__init__")) := by
  unfold clsB at q
  split at q
  · rename_i t dd cd sl ho
    split at q
    · rename_i C' bm k0 k1 k2 k3 n k5 hm hs
      obtain ⟨q1, q⟩ := He.ba q
      obtain ⟨q2, q⟩ := He.ba q
      obtain ⟨q3, q⟩ := He.ba q
      obtain ⟨q4, q⟩ := He.ba q
      obtain ⟨q5, q⟩ := He.ba q
      obtain ⟨q6, q7⟩ := He.ba q
      have e1 := of_decide_eq_true q1
      have e2 := of_decide_eq_true q2
      have e3 := of_decide_eq_true q3
      subst e1 e2 e3
      obtain ⟨nm, bs, mro, ns, qn, hd, sn, sub, ab, col, del⟩ := cd
      have e4 : del = false := by cases del <;> first | rfl | cases q4
      have e5 : hd = true := q5
      have e6 : mro = .ref C' :: bm := hm
      subst e4 e5 e6
      obtain ⟨l⟩ := sl
      have e7 : l = [k0, k1, k2, k3, some (.builtin "ValueError.__new__"), k5] := hs
      subst e7
      exact ⟨nm, qn, ns, bs, bm, sn, sub, ab, col, dd, k0, k1, k2, k3, k5, ho, q6, He.eqO_ok q7⟩
    · cases q
  · cases q
def cellB (K : PySem.W.Frag) (cc C : Addr) : Bool := match K.lookup cc with
  | some ⟨_, _, .cell (some (.ref c)), _⟩ => decide (c = C)
  | _ => false
theorem cellB_ok {K : PySem.W.Frag} {cc C : Addr} (q : cellB K cc C = true) : ∃ cl cld csl, K.lookup cc = some ⟨cl, cld, .cell (some (.ref C)), csl⟩ := by
  unfold cellB at q
  split at q
  · rename_i cl cld c csl hl
    have e := of_decide_eq_true q
    subst e
    exact ⟨_, _, _, hl⟩
  · cases q
def fileB (K : PySem.W.Frag) (a : Addr) (file : Str) : Bool := match K.lookup a with
  | some ⟨_, _, .fields vs, _⟩ => (match (vs[2]? : Option Value) with
    | some (.str f _) => f == file
    | _ => false)
  | _ => false
theorem fileB_ok {K : PySem.W.Frag} {a : Addr} {file : Str} (q : fileB K a file = true) : ∃ ccl cdd vs ccs file' tf, K.lookup a = some ⟨ccl, cdd, .fields vs, ccs⟩ ∧ vs[2]? = some (.str file' tf) ∧ (file == file') = true := by
  unfold fileB at q
  split at q
  · rename_i hl
    split at q
    · rename_i f tf hv
      exact ⟨_, _, _, _, f, tf, hl, hv, by rw [eq_of_beq q]; exact beq_self_eq_true _⟩
    · cases q
  · cases q
def cloB (K : PySem.W.Frag) (C : Addr) : List (Str × Addr) → Bool
  | [(_, cc)] => cellB K cc C
  | _ => false
def codB (K : PySem.W.Frag) (file : Str) : Value → Bool
  | .ref a => fileB K a file
  | _ => false
def iniB (K : PySem.W.Frag) (C I : Addr) (q file : Str) : Bool := match K.lookup I with
  | some ⟨_, _, .func fd, _⟩ => cloB K C fd.closure && (PySem.W.codeIn K fd.code q && codB K file fd.code)
  | _ => false
def refB (file : Str) (K : PySem.W.Frag) : Bool :=
  clsB K (He.ga K "Refused") && (He.eqO (PySem.W.findIn K (.ref (He.ga K "Refused")) "__setattr__") (some (some (.builtin "object.__setattr__"))) && (He.eqO (PySem.W.findIn K (.ref (He.ga K "Refused")) "__getattribute__") (some (some (.builtin "BaseException.__getattribute__"))) &&
  (He.eqO (PySem.W.findIn K (.ref (He.ga K "Refused")) "__getattr__") (some none) && (He.eqO (PySem.W.findIn K (.ref (He.ga K "Refused")) "at") (some none) && (He.eqO (PySem.W.findIn K (.ref (He.ga K "Refused")) "__init__") (some (some (.ref (He.ma K (He.ga K "Refused") "__init__")))) &&
  (decide (PySem.W.typeIn K (.ref (He.ma K (He.ga K "Refused") "__init__")) = some (.type "function")) && (PySem.W.keepIn K (.ref (He.ga K "Refused")) && (decide (PySem.W.subIn K (.ref (He.ga K "Refused")) (.type "BaseException") = some true) && (decide (PySem.W.typeIn K (.ref (He.ga K "Refused")) = some (.type "type")) &&
  (PySem.W.hasDictIn K (He.ga K "Refused") && (decide (PySem.W.exmOne K (.ref (He.ga K "Refused")) (.ref (He.ga K "Refused")) = some true) && (decide (PySem.W.mroIn K (He.ga K "Refused") (.ref (He.ga K "Refused")) = some true) && (decide (PySem.W.mroIn K (He.ga K "Refused") (.type "ValueError") = some true) &&
  (He.eqO (PySem.W.nsIn K cStatics "thirdparty.any") (some none) && iniB K (He.ga K "Refused") (He.ma K (He.ga K "Refused") "__init__") "Refused.__init__" file))))))))))))))
theorem ref_of {P : Program} {K : PySem.W.Frag} {mg : Str → Option Value} {file : Str} (q : refB file K = true) (ini : iniAt K "Refused" = refIni) (gC : mg "Refused" = some (.ref (He.ga K "Refused"))) (sup : mg "super" = none)
    (top : (P.main.scope.names.lookup ("super" : Str)).isSome = false) (hfile : P.main.file = file) : RefTxt P K mg (He.ga K "Refused") (He.ma K (He.ga K "Refused") "__init__") := by
  unfold refB at q
  generalize hC : He.ga K "Refused" = C at *
  have ini2 : iniV K (He.ma K C "__init__") = refIni := by
    have e : iniV K (He.ma K (He.ga K "Refused") "__init__") = refIni := ini
    rw [hC] at e
    exact e
  generalize He.ma K C "__init__" = I at *
  obtain ⟨q1, q⟩ := He.ba q
  obtain ⟨q2, q⟩ := He.ba q
  obtain ⟨q3, q⟩ := He.ba q
  obtain ⟨q4, q⟩ := He.ba q
  obtain ⟨q5, q⟩ := He.ba q
  obtain ⟨q6, q⟩ := He.ba q
  obtain ⟨q7, q⟩ := He.ba q
  obtain ⟨q8, q⟩ := He.ba q
  obtain ⟨q9, q⟩ := He.ba q
  obtain ⟨q10, q⟩ := He.ba q
  obtain ⟨q11, q⟩ := He.ba q
  obtain ⟨q12, q⟩ := He.ba q
  obtain ⟨q13, q⟩ := He.ba q
  obtain ⟨q14, q⟩ := He.ba q
  obtain ⟨q15, q16⟩ := He.ba q
  refine
    { gC := gC
      cls := clsB_ok q1
      sa := He.eqO_ok q2
      ga := He.eqO_ok q3
      gg := He.eqO_ok q4
      noN := He.eqO_ok q5
      iC := He.eqO_ok q6
      tC := of_decide_eq_true q7
      kC := q8
      exC := of_decide_eq_true q9
      tyC := of_decide_eq_true q10
      hdC := q11
      te := of_decide_eq_true q12
      self := of_decide_eq_true q13
      ve := of_decide_eq_true q14
      opq := He.eqO_ok q15
      sup := sup
      top := top
      fn := ?_ }
  unfold iniV at ini2
  unfold iniB at q16
  cases lk : K.lookup I with
  | none => rw [lk] at q16; cases q16
  | some o =>
    obtain ⟨oc, od, dt, osl⟩ := o
    rw [lk] at q16 ini2
    cases dt with
    | func fd =>
      obtain ⟨n1, n2, n3, n4, n5, n6, n7, n8, n9, n10, n11, n12, n13, n14, n15⟩ := fd
      have e2 : (some (n1, n2, n3, n4, n5, n6, n7.map (·.1), n8, n9, n15) : IniV) = refIni := ini2
      unfold refIni at e2
      simp only [Option.some.injEq, Prod.mk.injEq] at e2
      obtain ⟨h1, h2, h3, h4, h5, h6, h7, h8, h9, h10⟩ := e2
      subst h1 h2 h3 h4 h5 h6 h8 h9 h10
      obtain ⟨cc, e7⟩ : ∃ cc, n7 = [(("__class__" : Str), cc)] := by
        cases n7 with
        | nil => simp at h7
        | cons z zs =>
          cases zs with
          | cons _ _ => simp at h7
          | nil =>
            obtain ⟨x, cc⟩ := z
            have e : [x] = [("__class__" : Str)] := h7
            injection e with e
            exact ⟨cc, by rw [e]⟩
      subst e7
      obtain ⟨r1, r2⟩ := He.ba q16
      obtain ⟨r2, r3⟩ := He.ba r2
      have r1 : cellB K cc C = true := r1
      have r2 : PySem.W.codeIn K n13 "Refused.__init__" = true := r2
      obtain ⟨cda, rfl⟩ := He.codeIn_ref r2
      have r3 : fileB K cda file = true := r3
      exact ⟨oc, od, n10, n11, n12, cda, cc, n14, osl, rfl, r2, cellB_ok r1, by rw [hfile]; exact fileB_ok r3⟩
    | _ => cases q16
/-! ### the law itself -/
/-- the law's promise: PT the table of its code object's nested code -/
def SpLaw (K : PySem.W.Frag) (T : List Addr) : Sp := fun vs H Q _ => ∃ (a : Addr) (ns : List Int), vs = [.ref a] ∧ SqL K H a (ns.map V.int) ∧ (∀ p ∈ T, H p = some (.tbl #[])) ∧ ns.length ≤ 63 ∧ (∀ z ∈ ns, Builtin.Int.intBits z ≤ 1048576) ∧ ∀ H', Q (.bl true) H'
theorem law_start {K : PySem.W.Frag} {H : Hp} {a PT : Addr} {ns : List Int} {q : Str} {n : Nat} (hS : SqL K H a (ns.map V.int)) (hT : H PT = some (.tbl #[])) :
    RelP K ⟨H, fun _ => False, [PT]⟩ [some PT] ⟨some (En (α := Ro Int) ns) :: List.replicate n none, [.tab q]⟩ (some (.ref a) :: List.replicate n none) H := by
  refine ⟨fun i j p h1 h2 => ?_, ⟨[], rfl⟩, fun p h => .inl ?_, fun b o e _ => e, fun b z => z.elim, rfl, fun k q' c h1 h2 => ?_, .cons ?_ (fn_ok.rep_ok n)⟩
  · have := (List.getElem?_eq_some_iff.mp h1).1
    have := (List.getElem?_eq_some_iff.mp h2).1
    simp at *
    omega
  · simpa using h
  · cases k with
    | succ k => simp at h1
    | zero =>
      simp at h1 h2
      subst h1 h2
      exact ⟨PT, #[], rfl, hT, trivial, fun pos cv hc => by simp [codeAmong] at hc⟩
  · show Is K H _ (.ref a) (.ro (List.map Enc.enc ns))
    refine .ro (xs := ns.map V.int) ?_ ?_
    · rcases hS with h | h
      · refine .inl ⟨h, fun z => ?_⟩
        rcases z with z | z
        · have z : a = PT := by simpa using z
          rw [z] at h
          rcases h with h | ⟨o, h⟩ <;> rw [hT] at h <;> cases h
        · exact z
      · exact .inr fun H1 => .inr h
    · exact go ns
where
  go : ∀ ns : List Int, IsAll K H (Out ⟨H, fun _ => False, [PT]⟩ [some PT]) (ns.map V.int) (List.map Enc.enc ns)
    | [] => .nil
    | n :: ns => .cons (.at _) (go ns)
end Ab
set_option Elab.async false
set_option linter.all false
set_option maxRecDepth 100000
namespace My
open PySem PySem.Spec PyProof.Rows L2 Ab
def topS (i : Nat) : Stmt := PySem.Challenge.pw_leastdeals_k64_whole_how_far_lines_are_f.main.body.getD i (.Pass ⟨0, 0, 0, 0⟩)

structure Bi (mg : Str → Option Value) : Prop where
  GIVE : ∃ t, mg "GIVE" = some (.int 1 t)
  HOLD : ∃ t, mg "HOLD" = some (.int 0 t)
  abs : mg "abs" = none
  all : mg "all" = none
  any : mg "any" = none
  bool : mg "bool" = none
  int : mg "int" = none
  isinstance : mg "isinstance" = none
  len : mg "len" = none
  list : mg "list" = none
  max : mg "max" = none
  min : mg "min" = none
  range : mg "range" = none
  set : mg "set" = none
  sorted : mg "sorted" = none
  str : mg "str" = none
  sum : mg "sum" = none
  tuple : mg "tuple" = none
/-! ### _law_well -/
section
abbrev s_l_well : Stmt := topS 21
abbrev N_l_well : List Str := ["script", "k", "cell"]
theorem sc_l_well : FnScope N_l_well ["script", "k"] (defScope s_l_well) := ⟨rfl, rfl, rfl, by decide +kernel, rfl, by decide +kernel, by decide +kernel⟩
abbrev X_l_well (P : Program) (w : World) (K : PySem.W.Frag) (mg : Str → Option Value) (base : Heap) (f : Addr) (cdv : Value) (Ar : Around) (outer : List Env) (s : Shared) (H : Hp) (E : XK) : Cx := (cxOf CX0 P w K mg base N_l_well "_law_well" (defScope s_l_well) f cdv Ar outer s H E).nox
variable {P : Program} {w : World} {K : PySem.W.Frag} {mg : Str → Option Value} {base : Heap} {f : Addr} {cdv : Value} {Ar : Around} {outer : List Env} {s : Shared} {H : Hp} {E : XK} {G : Gh}
variable (B : Bi mg)  (hr : Room 0 (Ar.deeper (PyProof.Rows.envOfC "_law_well" (defScope s_l_well) s.heap.objs.size f cdv))) (hB : G.B.length = 0) 
include B  hr hB 
abbrev R_l_well : (List Int) → A → Ms → Prop := fun (v : List Int) (a : A) (S : Ms) => RetOk a S (.cell 0) [Cl (α := Int) v]
def l_well_3 (k_ : Int) (cell : Int) : List Int := [gI [(0 : Int), cell] (Ab.b2i (decide ((10 ^ (18 : Nat) : Int) ≤ cell))), ((((cell % (2147483563 : Int)) * (45007 : Int)) + ((42013 : Int) * k_)) % (2147483563 : Int)) + (1 : Int), (0 : Int)]
def l_well_3P (k_ : Int) (cell : Int) : Prop := (InR (Ab.b2i (decide ((10 ^ (18 : Nat) : Int) ≤ cell))) ([(0 : Int), cell]).length)
theorem l_well_3_w (k_ : Int) (cell : Int) (h : l_well_3P k_ cell) : WSs (X_l_well P w K mg base f cdv Ar outer s H E) G ⟨[none, some (En (α := Int) k_), some (En (α := Int) cell)], []⟩ ((defBody s_l_well).drop 2) (EndR R_l_well (l_well_3 k_ cell)) := by
  have q1_ := h
  exact wss_ret (ev_lstC (as := [En (α := Int) (gI [(0 : Int), cell] (Ab.b2i (decide ((10 ^ (18 : Nat) : Int) ≤ cell)))), En (α := Int) (((((cell % (2147483563 : Int)) * (45007 : Int)) + ((42013 : Int) * k_)) % (2147483563 : Int)) + (1 : Int)), En (α := Int) (0 : Int)]) (ea_cons (ev_ixL (α := Int) (xs := [(0 : Int), cell]) (EV.be (En (α := List Int) [(0 : Int), cell]) (ev_lst (ds := [Enc.enc (α := Int) (0 : Int), Enc.enc (α := Int) cell]) (ea_cons (ev_int) (ea_cons (ev_name (a := En (α := Int) cell) (i := 2)) (ea_nil))))) (ev_intB B.int (ev_ge (ev_name (a := En (α := Int) cell) (i := 2)) (ev_pow (ev_int) (ev_int) ⟨by decide, by decide, by decide⟩))) ((rdl (α := Int))) q1_) (ea_cons (ev_add (ev_mod (ev_intI B.int (ev_add (ev_mul (ev_mod (ev_intI B.int (ev_name (a := En (α := Int) cell) (i := 2))) (ev_int) (by decide)) (ev_int) (.inr (by decide))) (ev_mul (ev_int) (ev_name (a := En (α := Int) k_) (i := 1)) (.inl (by decide))))) (ev_int) (by decide)) (ev_int)) (ea_cons (ev_int) (ea_nil))))) (ret_new rfl)
def l_well_4 (script : List Int) (k_ : Int) (cell : Int) : List Int := l_well_3 k_ ((if (gI script k_) < 0 then -(gI script k_) else (gI script k_)) % (10 ^ (60 : Nat) : Int))
def l_well_4P (script : List Int) (k_ : Int) (cell : Int) : Prop := (InR k_ (script).length) ∧ (l_well_3P k_ ((if (gI script k_) < 0 then -(gI script k_) else (gI script k_)) % (10 ^ (60 : Nat) : Int)))
theorem l_well_4_w (script : List Int) (k_ : Int) (cell : Int) (h : l_well_4P script k_ cell) : WSs (X_l_well P w K mg base f cdv Ar outer s H E) G ⟨[some (En (α := Ro Int) script), some (En (α := Int) k_), some (En (α := Int) cell)], []⟩ (ifA ((defBody s_l_well).getD 1 passS)) (Thn (X_l_well P w K mg base f cdv Ar outer s H E) G ((defBody s_l_well).drop 2) (EndR R_l_well) (l_well_4 script k_ cell)) := by
  obtain ⟨q2_, q3_⟩ := h
  exact wss_sn (sn_set (i := 2) sc_l_well.nd (ev_mod (ev_intI B.int (ev_abs B.abs (ev_ixL (α := Int) (xs := script) (ev_name (a := En (α := Ro Int) script) (i := 0)) (ev_name (a := En (α := Int) k_) (i := 1)) ((rdro (α := Int))) q2_))) (ev_pow (ev_int) (ev_int) ⟨by decide, by decide, by decide⟩) (by decide))) (end_thn (S' := ⟨[none, some (En (α := Int) k_), some (En (α := Int) ((if (gI script k_) < 0 then -(gI script k_) else (gI script k_)) % (10 ^ (60 : Nat) : Int)))], []⟩) (fg_of (by exact And.intro (Or.inl rfl) (And.intro (Or.inr rfl) (And.intro (Or.inr rfl) (True.intro))))) (l_well_3_w B hr hB k_ ((if (gI script k_) < 0 then -(gI script k_) else (gI script k_)) % (10 ^ (60 : Nat) : Int)) q3_))
def l_well_6 (script : List Int) (k_ : Int) (cell : Int) : List Int := l_well_3 k_ (cell + (((if (gI script (k_ % (script.length : Int))) < 0 then -(gI script (k_ % (script.length : Int))) else (gI script (k_ % (script.length : Int)))) % (2147483563 : Int)) * (60013 : Int)))
def l_well_6P (script : List Int) (k_ : Int) (cell : Int) : Prop := (0 < (script.length : Int)) ∧ (InR (k_ % (script.length : Int)) (script).length) ∧ (l_well_3P k_ (cell + (((if (gI script (k_ % (script.length : Int))) < 0 then -(gI script (k_ % (script.length : Int))) else (gI script (k_ % (script.length : Int)))) % (2147483563 : Int)) * (60013 : Int))))
theorem l_well_6_w (script : List Int) (k_ : Int) (cell : Int) (h : l_well_6P script k_ cell) : WSs (X_l_well P w K mg base f cdv Ar outer s H E) G ⟨[some (En (α := Ro Int) script), some (En (α := Int) k_), some (En (α := Int) cell)], []⟩ (ifA ((ifB ((defBody s_l_well).getD 1 passS)).getD 0 passS)) (Thn (X_l_well P w K mg base f cdv Ar outer s H E) G ((ifB ((defBody s_l_well).getD 1 passS)).drop 1) (Thn (X_l_well P w K mg base f cdv Ar outer s H E) G ((defBody s_l_well).drop 2) (EndR R_l_well)) (l_well_6 script k_ cell)) := by
  obtain ⟨q7_, q8_, q10_⟩ := h
  exact wss_sn (sn_set (i := 2) sc_l_well.nd (ev_add (ev_name (a := En (α := Int) cell) (i := 2)) (ev_mul (ev_mod (ev_intI B.int (ev_abs B.abs (ev_ixL (α := Int) (xs := script) (ev_name (a := En (α := Ro Int) script) (i := 0)) (ev_mod (ev_intI B.int (ev_name (a := En (α := Int) k_) (i := 1))) (ev_len (α := Int) (xs := script) B.len (ev_name (a := En (α := Ro Int) script) (i := 0)) (.inl (rdro (α := Int)))) q7_) ((rdro (α := Int))) q8_))) (ev_int) (by decide)) (ev_int) (.inr (by decide))))) (end_thn (S' := ⟨[none, some (En (α := Int) k_), some (En (α := Int) (cell + (((if (gI script (k_ % (script.length : Int))) < 0 then -(gI script (k_ % (script.length : Int))) else (gI script (k_ % (script.length : Int)))) % (2147483563 : Int)) * (60013 : Int))))], []⟩) (fg_of (by exact And.intro (Or.inl rfl) (And.intro (Or.inr rfl) (And.intro (Or.inr rfl) (True.intro))))) (end_thn (S' := ⟨[none, some (En (α := Int) k_), some (En (α := Int) (cell + (((if (gI script (k_ % (script.length : Int))) < 0 then -(gI script (k_ % (script.length : Int))) else (gI script (k_ % (script.length : Int)))) % (2147483563 : Int)) * (60013 : Int))))], []⟩) (fg_of (by exact And.intro (Or.inl rfl) (And.intro (Or.inr rfl) (And.intro (Or.inr rfl) (True.intro))))) (l_well_3_w B hr hB k_ (cell + (((if (gI script (k_ % (script.length : Int))) < 0 then -(gI script (k_ % (script.length : Int))) else (gI script (k_ % (script.length : Int)))) % (2147483563 : Int)) * (60013 : Int))) q10_)))
def l_well_5 (script : List Int) (k_ : Int) (cell : Int) : List Int := cond (decide ((0 : Int) < (script.length : Int))) (l_well_6 script k_ cell) (l_well_3 k_ cell)
def l_well_5P (script : List Int) (k_ : Int) (cell : Int) : Prop := ((decide ((0 : Int) < (script.length : Int))) = true → (l_well_6P script k_ cell)) ∧ ((decide ((0 : Int) < (script.length : Int))) = false → (l_well_3P k_ cell))
theorem l_well_5_w (script : List Int) (k_ : Int) (cell : Int) (h : l_well_5P script k_ cell) : WSs (X_l_well P w K mg base f cdv Ar outer s H E) G ⟨[some (En (α := Ro Int) script), some (En (α := Int) k_), some (En (α := Int) cell)], []⟩ (ifB ((defBody s_l_well).getD 1 passS)) (Thn (X_l_well P w K mg base f cdv Ar outer s H E) G ((defBody s_l_well).drop 2) (EndR R_l_well) (l_well_5 script k_ cell)) := by
  obtain ⟨q13_, q17_⟩ := h
  exact wss_ifM (Thn (X_l_well P w K mg base f cdv Ar outer s H E) G ((defBody s_l_well).drop 2) (EndR R_l_well)) (p := decide ((0 : Int) < (script.length : Int))) (m1 := l_well_6 script k_ cell) (m2 := l_well_3 k_ cell) rfl (et_gt (ev_len (α := Int) (xs := script) B.len (ev_name (a := En (α := Ro Int) script) (i := 0)) (.inl (rdro (α := Int)))) (ev_int)) (fun hp12_ => l_well_6_w B hr hB script k_ cell (q13_ hp12_)) (fun hp16_ => end_thn (S' := ⟨[none, some (En (α := Int) k_), some (En (α := Int) cell)], []⟩) (fg_of (by exact And.intro (Or.inl rfl) (And.intro (Or.inr rfl) (And.intro (Or.inr rfl) (True.intro))))) (end_thn (S' := ⟨[none, some (En (α := Int) k_), some (En (α := Int) cell)], []⟩) (fg_of (by exact And.intro (Or.inl rfl) (And.intro (Or.inr rfl) (And.intro (Or.inr rfl) (True.intro))))) (l_well_3_w B hr hB k_ cell (q17_ hp16_))))
def l_well_2 (script : List Int) (k_ : Int) (cell : Int) : List Int := cond (decide (k_ < (script.length : Int))) (l_well_4 script k_ cell) (l_well_5 script k_ cell)
def l_well_2P (script : List Int) (k_ : Int) (cell : Int) : Prop := ((decide (k_ < (script.length : Int))) = true → (l_well_4P script k_ cell)) ∧ ((decide (k_ < (script.length : Int))) = false → (l_well_5P script k_ cell))
theorem l_well_2_w (script : List Int) (k_ : Int) (cell : Int) (h : l_well_2P script k_ cell) : WSs (X_l_well P w K mg base f cdv Ar outer s H E) G ⟨[some (En (α := Ro Int) script), some (En (α := Int) k_), some (En (α := Int) cell)], []⟩ ((defBody s_l_well).drop 1) (EndR R_l_well (l_well_2 script k_ cell)) := by
  obtain ⟨q6_, q20_⟩ := h
  exact wss_ifM (EndR R_l_well) (p := decide (k_ < (script.length : Int))) (m1 := l_well_4 script k_ cell) (m2 := l_well_5 script k_ cell) rfl (et_lt (ev_name (a := En (α := Int) k_) (i := 1)) (ev_len (α := Int) (xs := script) B.len (ev_name (a := En (α := Ro Int) script) (i := 0)) (.inl (rdro (α := Int))))) (fun hp5_ => l_well_4_w B hr hB script k_ cell (q6_ hp5_)) (fun hp19_ => l_well_5_w B hr hB script k_ cell (q20_ hp19_))
def l_well_1 (script : List Int) (k_ : Int) : List Int := l_well_2 script k_ (((5501 : Int) * k_) + (733 : Int))
def l_well_1P (script : List Int) (k_ : Int) : Prop := (l_well_2P script k_ (((5501 : Int) * k_) + (733 : Int)))
theorem l_well_1_w (script : List Int) (k_ : Int) (h : l_well_1P script k_) : WSs (X_l_well P w K mg base f cdv Ar outer s H E) G ⟨[some (En (α := Ro Int) script), some (En (α := Int) k_), none], []⟩ (defBody s_l_well) (EndR R_l_well (l_well_1 script k_)) := by
  have q21_ := h
  exact wss_sn (sn_set (i := 2) sc_l_well.nd (ev_add (ev_mul (ev_int) (ev_name (a := En (α := Int) k_) (i := 1)) (.inl (by decide))) (ev_int))) (l_well_2_w B hr hB script k_ (((5501 : Int) * k_) + (733 : Int)) q21_)
def v_l_well (script : List Int) (k_ : Int) : List Int := l_well_1 script k_
def P_l_well (script : List Int) (k_ : Int) : Prop := l_well_1P script k_
def φ_l_well : Ct := fun args cs r cs' => ∃ (script : List Int) (k_ : Int), args = [En (α := Ro Int) script, En (α := Int) k_] ∧ cs = [] ∧ P_l_well script k_ ∧ r = .cell 0 ∧ cs' = [Cl (α := Int) (v_l_well script k_)]
omit hr hB in
theorem df_l_well (T : Top K mg "_law_well" s_l_well ["script", "k"]) : Df P w K mg base CX0 (0 + 1) "_law_well" ["script", "k"] φ_l_well := by
  refine Df.mk' T sc_l_well (fun args cs r cs' ⟨script, k_, e1, e2, hP, e3, e4⟩ => by subst e1 e2 e3 e4; exact ⟨rfl, by first | exact Nat.le_refl _ | exact Nat.zero_le _⟩) (fun f cdv Ar outer s H E G args cs r cs' hr ⟨script, k_, e1, e2, hP, e3, e4⟩ hB => ?_)
  subst e1 e2 e3 e4
  exact l_well_1_w B hr hB script k_ hP
end
/-! ### _law_dip -/
section
abbrev s_l_dip : Stmt := topS 22
abbrev N_l_dip : List Str := ["well", "many", "digit", "raw"]
theorem sc_l_dip : FnScope N_l_dip ["well", "many"] (defScope s_l_dip) := ⟨rfl, rfl, rfl, by decide +kernel, rfl, by decide +kernel, by decide +kernel⟩
abbrev X_l_dip (P : Program) (w : World) (K : PySem.W.Frag) (mg : Str → Option Value) (base : Heap) (f : Addr) (cdv : Value) (Ar : Around) (outer : List Env) (s : Shared) (H : Hp) (E : XK) : Cx := (cxOf CX0 P w K mg base N_l_dip "_law_dip" (defScope s_l_dip) f cdv Ar outer s H E).nox
variable {P : Program} {w : World} {K : PySem.W.Frag} {mg : Str → Option Value} {base : Heap} {f : Addr} {cdv : Value} {Ar : Around} {outer : List Env} {s : Shared} {H : Hp} {E : XK} {G : Gh}
variable (B : Bi mg)  (hr : Room 0 (Ar.deeper (PyProof.Rows.envOfC "_law_dip" (defScope s_l_dip) s.heap.objs.size f cdv))) (hB : G.B.length = 1) 
include B  hr hB 
abbrev R_l_dip : (Int × (List Int)) → A → Ms → Prop := fun (v : Int × (List Int)) (a : A) (S : Ms) => RetOk a S (En (α := Int) v.1) [Cl (α := Int) v.2]
def l_dip_5 (well : List Int) (many : Int) (raw : Int) : Int × (List Int) := ((((raw * (2147483587 : Int)) + (gI well (1 : Int))) / (8209 : Int)) % many, well)
def l_dip_5P (well : List Int) (many : Int) (raw : Int) : Prop := (InR (1 : Int) (well).length) ∧ (0 < many)
theorem l_dip_5_w (well : List Int) (many : Int) (raw : Int) (h : l_dip_5P well many raw) : WSs (X_l_dip P w K mg base f cdv Ar outer s H E) G ⟨[some (.cell 0), some (En (α := Int) many), none, some (En (α := Int) raw)], [Cl (α := Int) well]⟩ ((defBody s_l_dip).drop 4) (EndR R_l_dip (l_dip_5 well many raw)) := by
  obtain ⟨q28_, q29_⟩ := h
  exact wss_ret (ev_mod (ev_intI B.int (ev_fdiv (ev_add (ev_mul (ev_name (a := En (α := Int) raw) (i := 3)) (ev_int) (.inr (by decide))) (ev_ixL (α := Int) (xs := well) (ev_name (a := .cell 0) (i := 0)) (ev_int) ((rdc (α := Int) (xs := well) (k := 0))) q28_)) (ev_int) ⟨by decide, by decide⟩)) (ev_name (a := En (α := Int) many) (i := 1)) q29_) (ret_dat1 rfl)
def l_dip_4 (well : List Int) (many : Int) (raw : Int) : Int × (List Int) := l_dip_5 ((well).set 1 ((((raw * (41141 : Int)) + (21013 : Int)) % (2147483563 : Int)) + (1 : Int))) many raw
def l_dip_4P (well : List Int) (many : Int) (raw : Int) : Prop := ((0 : Int) ≤ (1 : Int) ∧ (1 : Int) < (well.length : Int)) ∧ (l_dip_5P ((well).set 1 ((((raw * (41141 : Int)) + (21013 : Int)) % (2147483563 : Int)) + (1 : Int))) many raw)
theorem l_dip_4_w (well : List Int) (many : Int) (raw : Int) (h : l_dip_4P well many raw) : WSs (X_l_dip P w K mg base f cdv Ar outer s H E) G ⟨[some (.cell 0), some (En (α := Int) many), none, some (En (α := Int) raw)], [Cl (α := Int) well]⟩ ((defBody s_l_dip).drop 3) (EndR R_l_dip (l_dip_4 well many raw)) := by
  obtain ⟨q27_, q30_⟩ := h
  exact wss_sn (sn_setC (α := Int) (xs := well) (u := (((raw * (41141 : Int)) + (21013 : Int)) % (2147483563 : Int)) + (1 : Int)) (ev_add (ev_mod (ev_intI B.int (ev_add (ev_mul (ev_name (a := En (α := Int) raw) (i := 3)) (ev_int) (.inr (by decide))) (ev_int))) (ev_int) (by decide)) (ev_int)) (ev_name (a := .cell 0) (i := 0)) (ev_int) rfl q27_) (l_dip_5_w B hr hB ((well).set 1 ((((raw * (41141 : Int)) + (21013 : Int)) % (2147483563 : Int)) + (1 : Int))) many raw q30_)
def l_dip_3 (well : List Int) (many : Int) : Int × (List Int) := l_dip_4 well many (((((gI well (1 : Int)) + ((88001 : Int) * (gI well (2 : Int)))) * (57037 : Int)) + (61 : Int)) % (2147483549 : Int))
def l_dip_3P (well : List Int) (many : Int) : Prop := (InR (1 : Int) (well).length) ∧ (InR (2 : Int) (well).length) ∧ (l_dip_4P well many (((((gI well (1 : Int)) + ((88001 : Int) * (gI well (2 : Int)))) * (57037 : Int)) + (61 : Int)) % (2147483549 : Int)))
theorem l_dip_3_w (well : List Int) (many : Int) (h : l_dip_3P well many) : WSs (X_l_dip P w K mg base f cdv Ar outer s H E) G ⟨[some (.cell 0), some (En (α := Int) many), none, none], [Cl (α := Int) well]⟩ ((defBody s_l_dip).drop 2) (EndR R_l_dip (l_dip_3 well many)) := by
  obtain ⟨q25_, q26_, q31_⟩ := h
  exact wss_sn (sn_set (i := 3) sc_l_dip.nd (ev_mod (ev_intI B.int (ev_add (ev_mul (ev_add (ev_ixL (α := Int) (xs := well) (ev_name (a := .cell 0) (i := 0)) (ev_int) ((rdc (α := Int) (xs := well) (k := 0))) q25_) (ev_mul (ev_int) (ev_ixL (α := Int) (xs := well) (ev_name (a := .cell 0) (i := 0)) (ev_int) ((rdc (α := Int) (xs := well) (k := 0))) q26_) (.inl (by decide)))) (ev_int) (.inr (by decide))) (ev_int))) (ev_int) (by decide))) (l_dip_4_w B hr hB well many (((((gI well (1 : Int)) + ((88001 : Int) * (gI well (2 : Int)))) * (57037 : Int)) + (61 : Int)) % (2147483549 : Int)) q31_)
def l_dip_2 (well : List Int) (many : Int) : Int × (List Int) := l_dip_3 ((well).set 2 ((gI well (2 : Int)) + (1 : Int))) many
def l_dip_2P (well : List Int) (many : Int) : Prop := (InR (2 : Int) (well).length) ∧ ((0 : Int) ≤ (2 : Int) ∧ (2 : Int) < (well.length : Int)) ∧ (l_dip_3P ((well).set 2 ((gI well (2 : Int)) + (1 : Int))) many)
theorem l_dip_2_w (well : List Int) (many : Int) (h : l_dip_2P well many) : WSs (X_l_dip P w K mg base f cdv Ar outer s H E) G ⟨[some (.cell 0), some (En (α := Int) many), none, none], [Cl (α := Int) well]⟩ ((defBody s_l_dip).drop 1) (EndR R_l_dip (l_dip_2 well many)) := by
  obtain ⟨q23_, q24_, q32_⟩ := h
  exact wss_sn (sn_setC (α := Int) (xs := well) (u := (gI well (2 : Int)) + (1 : Int)) (ev_add (ev_ixL (α := Int) (xs := well) (ev_name (a := .cell 0) (i := 0)) (ev_int) ((rdc (α := Int) (xs := well) (k := 0))) q23_) (ev_int)) (ev_name (a := .cell 0) (i := 0)) (ev_int) rfl q24_) (l_dip_3_w B hr hB ((well).set 2 ((gI well (2 : Int)) + (1 : Int))) many q32_)
def l_dip_8 (well : List Int) (many : Int) (digit : Int) : Int × (List Int) := (digit, well)
def l_dip_8P (well : List Int) (many : Int) (digit : Int) : Prop := True
theorem l_dip_8_w (well : List Int) (many : Int) (digit : Int) (h : l_dip_8P well many digit) : WSs (X_l_dip P w K mg base f cdv Ar outer s H E) G ⟨[some (.cell 0), some (En (α := Int) many), some (En (α := Int) digit), none], [Cl (α := Int) well]⟩ ((ifA ((defBody s_l_dip).getD 0 passS)).drop 2) (Thn (X_l_dip P w K mg base f cdv Ar outer s H E) G ((defBody s_l_dip).drop 1) (EndR R_l_dip) (l_dip_8 well many digit)) := by
  exact wss_ret (ev_name (a := En (α := Int) digit) (i := 2)) (ret_dat1 rfl)
def l_dip_7 (well : List Int) (many : Int) (digit : Int) : Int × (List Int) := l_dip_8 ((well).set 0 ((gI well (0 : Int)) / many)) many digit
def l_dip_7P (well : List Int) (many : Int) (digit : Int) : Prop := (InR (0 : Int) (well).length) ∧ (CDiv (gI well (0 : Int)) many) ∧ ((0 : Int) ≤ (0 : Int) ∧ (0 : Int) < (well.length : Int)) ∧ (l_dip_8P ((well).set 0 ((gI well (0 : Int)) / many)) many digit)
theorem l_dip_7_w (well : List Int) (many : Int) (digit : Int) (h : l_dip_7P well many digit) : WSs (X_l_dip P w K mg base f cdv Ar outer s H E) G ⟨[some (.cell 0), some (En (α := Int) many), some (En (α := Int) digit), none], [Cl (α := Int) well]⟩ ((ifA ((defBody s_l_dip).getD 0 passS)).drop 1) (Thn (X_l_dip P w K mg base f cdv Ar outer s H E) G ((defBody s_l_dip).drop 1) (EndR R_l_dip) (l_dip_7 well many digit)) := by
  obtain ⟨q35_, q36_, q37_, q38_⟩ := h
  exact wss_sn (sn_setC (α := Int) (xs := well) (u := (gI well (0 : Int)) / many) (ev_fdiv (ev_ixL (α := Int) (xs := well) (ev_name (a := .cell 0) (i := 0)) (ev_int) ((rdc (α := Int) (xs := well) (k := 0))) q35_) (ev_name (a := En (α := Int) many) (i := 1)) q36_) (ev_name (a := .cell 0) (i := 0)) (ev_int) rfl q37_) (l_dip_8_w B hr hB ((well).set 0 ((gI well (0 : Int)) / many)) many digit q38_)
def l_dip_6 (well : List Int) (many : Int) : Int × (List Int) := l_dip_7 well many ((gI well (0 : Int)) % many)
def l_dip_6P (well : List Int) (many : Int) : Prop := (InR (0 : Int) (well).length) ∧ (0 < many) ∧ (l_dip_7P well many ((gI well (0 : Int)) % many))
theorem l_dip_6_w (well : List Int) (many : Int) (h : l_dip_6P well many) : WSs (X_l_dip P w K mg base f cdv Ar outer s H E) G ⟨[some (.cell 0), some (En (α := Int) many), none, none], [Cl (α := Int) well]⟩ (ifA ((defBody s_l_dip).getD 0 passS)) (Thn (X_l_dip P w K mg base f cdv Ar outer s H E) G ((defBody s_l_dip).drop 1) (EndR R_l_dip) (l_dip_6 well many)) := by
  obtain ⟨q33_, q34_, q39_⟩ := h
  exact wss_sn (sn_set (i := 2) sc_l_dip.nd (ev_mod (ev_intI B.int (ev_ixL (α := Int) (xs := well) (ev_name (a := .cell 0) (i := 0)) (ev_int) ((rdc (α := Int) (xs := well) (k := 0))) q33_)) (ev_name (a := En (α := Int) many) (i := 1)) q34_)) (l_dip_7_w B hr hB well many ((gI well (0 : Int)) % many) q39_)
def l_dip_1 (well : List Int) (many : Int) : Int × (List Int) := cond (decide ((0 : Int) < (gI well (0 : Int)))) (l_dip_6 well many) (l_dip_2 well many)
def l_dip_1P (well : List Int) (many : Int) : Prop := (InR (0 : Int) (well).length) ∧ ((decide ((0 : Int) < (gI well (0 : Int)))) = true → (l_dip_6P well many)) ∧ ((decide ((0 : Int) < (gI well (0 : Int)))) = false → (l_dip_2P well many))
theorem l_dip_1_w (well : List Int) (many : Int) (h : l_dip_1P well many) : WSs (X_l_dip P w K mg base f cdv Ar outer s H E) G ⟨[some (.cell 0), some (En (α := Int) many), none, none], [Cl (α := Int) well]⟩ (defBody s_l_dip) (EndR R_l_dip (l_dip_1 well many)) := by
  obtain ⟨q22_, q42_, q45_⟩ := h
  exact wss_ifM (EndR R_l_dip) (p := decide ((0 : Int) < (gI well (0 : Int)))) (m1 := l_dip_6 well many) (m2 := l_dip_2 well many) rfl (et_gt (ev_ixL (α := Int) (xs := well) (ev_name (a := .cell 0) (i := 0)) (ev_int) ((rdc (α := Int) (xs := well) (k := 0))) q22_) (ev_int)) (fun hp41_ => l_dip_6_w B hr hB well many (q42_ hp41_)) (fun hp44_ => end_thn (S' := ⟨[some (.cell 0), some (En (α := Int) many), none, none], [Cl (α := Int) well]⟩) (fg_of (by exact And.intro (Or.inr rfl) (And.intro (Or.inr rfl) (And.intro (Or.inl rfl) (And.intro (Or.inl rfl) (True.intro)))))) (l_dip_2_w B hr hB well many (q45_ hp44_)))
def v_l_dip (well : List Int) (many : Int) : Int × (List Int) := l_dip_1 well many
def P_l_dip (well : List Int) (many : Int) : Prop := l_dip_1P well many
def φ_l_dip : Ct := fun args cs r cs' => ∃ (well : List Int) (many : Int), args = [.cell 0, En (α := Int) many] ∧ cs = [Cl (α := Int) well] ∧ P_l_dip well many ∧ r = En (α := Int) ((v_l_dip well many).1) ∧ cs' = [Cl (α := Int) (v_l_dip well many).2]
omit hr hB in
theorem df_l_dip (T : Top K mg "_law_dip" s_l_dip ["well", "many"]) : Df P w K mg base CX0 (0 + 1) "_law_dip" ["well", "many"] φ_l_dip := by
  refine Df.mk' T sc_l_dip (fun args cs r cs' ⟨well, many, e1, e2, hP, e3, e4⟩ => by subst e1 e2 e3 e4; exact ⟨rfl, by first | exact Nat.le_refl _ | exact Nat.zero_le _⟩) (fun f cdv Ar outer s H E G args cs r cs' hr ⟨well, many, e1, e2, hP, e3, e4⟩ hB => ?_)
  subst e1 e2 e3 e4
  exact l_dip_1_w B hr hB well many hP
end
/-! ### _law_one -/
section
abbrev s_l_one : Stmt := topS 23
abbrev N_l_one : List Str := ["well", "some"]
theorem sc_l_one : FnScope N_l_one ["well", "some"] (defScope s_l_one) := ⟨rfl, rfl, rfl, by decide +kernel, rfl, by decide +kernel, by decide +kernel⟩
abbrev X_l_one (P : Program) (w : World) (K : PySem.W.Frag) (mg : Str → Option Value) (base : Heap) (f : Addr) (cdv : Value) (Ar : Around) (outer : List Env) (s : Shared) (H : Hp) (E : XK) : Cx := (cxOf CX0 P w K mg base N_l_one "_law_one" (defScope s_l_one) f cdv Ar outer s H E).nox
variable {α : Type} [Enc α] [Inhabited α]
variable {P : Program} {w : World} {K : PySem.W.Frag} {mg : Str → Option Value} {base : Heap} {f : Addr} {cdv : Value} {Ar : Around} {outer : List Env} {s : Shared} {H : Hp} {E : XK} {G : Gh}
variable (B : Bi mg) (D_l_dip : Df P w K mg base CX0 1 "_law_dip" ["well", "many"] φ_l_dip) (hr : Room 1 (Ar.deeper (PyProof.Rows.envOfC "_law_one" (defScope s_l_one) s.heap.objs.size f cdv))) (hB : G.B.length = 1) 
include B D_l_dip hr hB 
abbrev R_l_one : (α × (List Int)) → A → Ms → Prop := fun (v : α × (List Int)) (a : A) (S : Ms) => RetOk a S (En (α := α) v.1) [Cl (α := Int) v.2]
def l_one_1 (well : List Int) (some_ : List α) : α × (List Int) := (gI some_ ((v_l_dip well (some_.length : Int)).1), (v_l_dip well (some_.length : Int)).2)
def l_one_1P (well : List Int) (some_ : List α) : Prop := (P_l_dip well (some_.length : Int)) ∧ (InR ((v_l_dip well (some_.length : Int)).1) (some_).length)
theorem l_one_1_w (well : List Int) (some_ : List α) (h : l_one_1P well some_) : WSs (X_l_one P w K mg base f cdv Ar outer s H E) G ⟨[some (.cell 0), some (En (α := List α) some_)], [Cl (α := Int) well]⟩ (defBody s_l_one) (EndR R_l_one (l_one_1 well some_)) := by
  obtain ⟨q46_, q47_⟩ := h
  exact wss_ret (ev_ixL (α := α) (xs := some_) (ev_name (a := En (α := List α) some_) (i := 1)) (ev_cf1 (φ := φ_l_dip) (j := 0) (α := Int) (xs := well) (ys := (v_l_dip well (some_.length : Int)).2) (args := [.cell 0, En (α := Int) (some_.length : Int)]) (r := Enc.enc (α := Int) ((v_l_dip well (some_.length : Int)).1)) D_l_dip (hr.mono (by decide)) pass0 (ea_cons (ev_name (a := .cell 0) (i := 0)) (ea_cons (ev_len (α := α) (xs := some_) B.len (ev_name (a := En (α := List α) some_) (i := 1)) (.inl (rdl (α := α)))) (ea_nil))) ⟨well, (some_.length : Int), rfl, rfl, q46_, rfl, rfl⟩ (fun k h => by simp at h) rfl) ((rdl (α := α))) q47_) (ret_dat1 rfl)
def v_l_one (well : List Int) (some_ : List α) : α × (List Int) := l_one_1 well some_
def P_l_one (well : List Int) (some_ : List α) : Prop := l_one_1P well some_
def φ_l_one : Ct := fun args cs r cs' => ∃ (α : Type) (_ : Enc α) (_ : Inhabited α) (well : List Int) (some_ : List α), args = [.cell 0, En (α := List α) some_] ∧ cs = [Cl (α := Int) well] ∧ P_l_one well some_ ∧ r = En (α := α) ((v_l_one well some_).1) ∧ cs' = [Cl (α := Int) (v_l_one well some_).2]
omit hr hB in
theorem df_l_one (T : Top K mg "_law_one" s_l_one ["well", "some"]) : Df P w K mg base CX0 (1 + 1) "_law_one" ["well", "some"] φ_l_one := by
  refine Df.mk' T sc_l_one (fun args cs r cs' ⟨α, iα0, iα1, well, some_, e1, e2, hP, e3, e4⟩ => by subst e1 e2 e3 e4; exact ⟨rfl, by first | exact Nat.le_refl _ | exact Nat.zero_le _⟩) (fun f cdv Ar outer s H E G args cs r cs' hr ⟨α, iα0, iα1, well, some_, e1, e2, hP, e3, e4⟩ hB => ?_)
  subst e1 e2 e3 e4
  exact l_one_1_w B D_l_dip hr hB well some_ hP
end
/-! ### _law_mixed -/
section
abbrev s_l_mixed : Stmt := topS 24
abbrev N_l_mixed : List Str := ["well", "some", "left", "found"]
theorem sc_l_mixed : FnScope N_l_mixed ["well", "some"] (defScope s_l_mixed) := ⟨rfl, rfl, rfl, by decide +kernel, rfl, by decide +kernel, by decide +kernel⟩
abbrev X_l_mixed (P : Program) (w : World) (K : PySem.W.Frag) (mg : Str → Option Value) (base : Heap) (f : Addr) (cdv : Value) (Ar : Around) (outer : List Env) (s : Shared) (H : Hp) (E : XK) : Cx := (cxOf CX0 P w K mg base N_l_mixed "_law_mixed" (defScope s_l_mixed) f cdv Ar outer s H E).nox
variable {α : Type} [Enc α] [Inhabited α] [DecidableEq α] [EqE α]
variable {P : Program} {w : World} {K : PySem.W.Frag} {mg : Str → Option Value} {base : Heap} {f : Addr} {cdv : Value} {Ar : Around} {outer : List Env} {s : Shared} {H : Hp} {E : XK} {G : Gh}
variable (B : Bi mg) (D_l_dip : Df P w K mg base CX0 1 "_law_dip" ["well", "many"] φ_l_dip) (hr : Room 1 (Ar.deeper (PyProof.Rows.envOfC "_law_mixed" (defScope s_l_mixed) s.heap.objs.size f cdv))) (hB : G.B.length = 1) 
include B D_l_dip hr hB 
abbrev R_l_mixed : ((List α) × (List Int)) → A → Ms → Prop := fun (v : (List α) × (List Int)) (a : A) (S : Ms) => RetOk a S (En (α := List α) v.1) [Cl (α := Int) v.2]
def mixedF {α : Type} [Inhabited α] : Nat → List α → List Int → List α → List α × List Int
  | 0, _, well, found => (found, well)
  | n + 1, left, well, found => mixedF n (left.eraseIdx (v_l_dip well (left.length : Int)).1.toNat) (v_l_dip well (left.length : Int)).2 (found ++ [gI left (v_l_dip well (left.length : Int)).1])
def mixedOk {α : Type} : Nat → List α → List Int → Prop
  | 0, left, _ => left = []
  | n + 1, left, well => left.length = n + 1 ∧ P_l_dip well (left.length : Int) ∧ ((0 : Int) ≤ (v_l_dip well (left.length : Int)).1 ∧ (v_l_dip well (left.length : Int)).1 < (left.length : Int)) ∧ mixedOk n (left.eraseIdx (v_l_dip well (left.length : Int)).1.toNat) (v_l_dip well (left.length : Int)).2
omit B D_l_dip hr hB in
theorem mixedOk_len {α : Type} : ∀ {n : Nat} {left : List α} {well : List Int}, mixedOk n left well → left.length = n
  | 0, _, _, h => by rw [show _ = [] from h]; rfl
  | _ + 1, _, _, h => h.1
def v_l_mixed {α : Type} [Inhabited α] (well : List Int) (some_ : List α) : List α × List Int := mixedF some_.length some_ well []
def P_l_mixed {α : Type} [Enc α] [DecidableEq α] [EqE α] (well : List Int) (some_ : List α) : Prop := EqE.dep α ≤ 60 ∧ some_.length < 100000 ∧ mixedOk some_.length some_ well
abbrev MixT (some_ left : List α) (well : List Int) (found : List α) : Ms := ⟨[some (.cell 0), some (En (α := List α) some_), some (.cell 1), some (.cell 2)], [Cl (α := Int) well, Cl (α := α) left, Cl (α := α) found]⟩
theorem l_mixed_top_w (well : List Int) (some_ : List α) (h : P_l_mixed well some_) : WSs (X_l_mixed P w K mg base f cdv Ar outer s H E) G ⟨[some (.cell 0), some (En (α := List α) some_), none, none], [Cl (α := Int) well]⟩ (defBody s_l_mixed) (EndR R_l_mixed (v_l_mixed well some_)) := by
  obtain ⟨hdep, hz, hok⟩ := h
  have hd2 : EqE.dep (List α) ≤ 64 := by
    show EqE.dep α + 1 ≤ 64
    omega
  refine wss_sn (sn_par2 (i := 2) (j := 3) rfl sc_l_mixed.nd (ea_cons (ev_listC (ds := List.map (Enc.enc (α := α)) some_) B.list (ev_name (a := En (α := List α) some_) (i := 1)) (.inl (rdl (α := α)))) (ea_cons (ev_lstC (as := []) ea_nil) ea_nil))) ?_
  have e0 : C.lst ((List.map (Enc.enc (α := α)) some_).map .dat) = Cl (α := α) some_ := by
    rw [List.map_map]
    rfl
  show WSs (X_l_mixed P w K mg base f cdv Ar outer s H E) G ⟨[some (.cell 0), some (En (α := List α) some_), some (.cell 1), some (.cell 2)], [Cl (α := Int) well, C.lst ((List.map (Enc.enc (α := α)) some_).map .dat), Cl (α := α) []]⟩ _ _
  rw [e0]
  refine wss_while (fun m S => ∃ left well' found, S = MixT some_ left well' found ∧ mixedOk m left well' ∧ found.length + m ≤ some_.length ∧ mixedF m left well' found = v_l_mixed well some_) some_.length PassesOwn.never ⟨some_, well, [], rfl, hok, by simp, rfl⟩ ?_
  rintro m S' ⟨left, well', found, rfl, ok, hl, hv⟩
  have hll := mixedOk_len ok
  refine ⟨!decide (left = []), MixT some_ left well' found, et_neL (α := α) (xs := left) (ys := []) (hr.mono (by decide) : Room 0 _).units (ev_name (a := .cell 1) (i := 2)) (EV.be (En (α := List α) []) (ev_lst (ds := []) ea_nil)) (rdc (α := α) (xs := left) (k := 1)) (rdl (α := α)) hd2, fun hp => ?_, fun hp => ?_⟩
  · cases m with
    | zero =>
      rw [show left = [] from ok] at hp
      simp at hp
    | succ m =>
      obtain ⟨k1, k2, k3, k4⟩ := ok
      refine wss_sn (sn_expr (ev_append (α := α) (xs0 := found) (xs := found) (u := gI left (v_l_dip well' (left.length : Int)).1) (ev_name (a := .cell 2) (i := 3)) (ev_popAt (α := α) (xs0 := left) (xs := left) (ev_name (a := .cell 1) (i := 2)) (ev_cf1 (φ := φ_l_dip) (j := 0) (α := Int) (xs := well') (ys := (v_l_dip well' (left.length : Int)).2) (args := [.cell 0, En (α := Int) (left.length : Int)]) (r := Enc.enc (α := Int) (v_l_dip well' (left.length : Int)).1) D_l_dip (hr.mono (by decide)) pass0 (ea_cons (ev_name (a := .cell 0) (i := 0)) (ea_cons (ev_len (α := α) (xs := left) B.len (ev_name (a := .cell 1) (i := 2)) (.inl (rdc (α := α) (xs := left) (k := 1)))) ea_nil)) ⟨well', (left.length : Int), rfl, rfl, k2, rfl, rfl⟩ (fun k h => by simp at h) rfl) rfl rfl k3 (by omega)) rfl rfl (by omega))) ?_
      refine wss_nil ⟨m, Nat.lt_succ_self m, left.eraseIdx (v_l_dip well' (left.length : Int)).1.toNat, (v_l_dip well' (left.length : Int)).2, found ++ [gI left (v_l_dip well' (left.length : Int)).1], rfl, k4, by rw [List.length_append, List.length_singleton]; omega, hv⟩
  · have he : left = [] := by simpa using hp
    have hm : m = 0 := by rw [← hll, he]; rfl
    subst hm
    refine wss_ret (ev_name (a := .cell 2) (i := 3)) ?_
    rw [← hv]
    exact ret_lst1 (β := α) (xs := found) (k := 2) rfl (by decide) rfl
def φ_l_mixed : Ct := fun args cs r cs' => ∃ (α : Type) (_ : Enc α) (_ : Inhabited α) (_ : DecidableEq α) (_ : EqE α) (well : List Int) (some_ : List α), args = [.cell 0, En (α := List α) some_] ∧ cs = [Cl (α := Int) well] ∧ P_l_mixed well some_ ∧ r = En (α := List α) ((v_l_mixed well some_).1) ∧ cs' = [Cl (α := Int) (v_l_mixed well some_).2]
omit hr hB in
theorem df_l_mixed (T : Top K mg "_law_mixed" s_l_mixed ["well", "some"]) : Df P w K mg base CX0 (1 + 1) "_law_mixed" ["well", "some"] φ_l_mixed := by
  refine Df.mk' T sc_l_mixed (fun args cs r cs' ⟨α, iα0, iα1, iα2, iα3, well, some_, e1, e2, hP, e3, e4⟩ => by subst e1 e2 e3 e4; exact ⟨rfl, by first | exact Nat.le_refl _ | exact Nat.zero_le _⟩) (fun f cdv Ar outer s H E G args cs r cs' hr ⟨α, iα0, iα1, iα2, iα3, well, some_, e1, e2, hP, e3, e4⟩ hB => ?_)
  subst e1 e2 e3 e4
  exact l_mixed_top_w B D_l_dip hr hB well some_ hP
end
/-! ### _law_like, of equal data -/
section
abbrev s_l_like : Stmt := topS 25
abbrev N_l_like : List Str := ["told", "due", "at"]
theorem sc_l_like : FnScope N_l_like ["told", "due"] (defScope s_l_like) := ⟨rfl, rfl, rfl, by decide +kernel, rfl, by decide +kernel, by decide +kernel⟩
abbrev X_l_like (P : Program) (w : World) (K : PySem.W.Frag) (mg : Str → Option Value) (base : Heap) (f : Addr) (cdv : Value) (Ar : Around) (outer : List Env) (s : Shared) (H : Hp) (E : XK) : Cx := (cxOf CX0 P w K mg base N_l_like "_law_like" (defScope s_l_like) f cdv Ar outer s H E).nox
def φ_liken (n : Nat) : Ct := fun args cs r cs' => ∃ d : Dt, args = [.dat d, .dat d] ∧ cs = [] ∧ okD n d = true ∧ r = En true ∧ cs' = []
abbrev R_l_like : Bool → A → Ms → Prop := fun v a S => RetOk a S (En v) []
variable {P : Program} {w : World} {K : PySem.W.Frag} {mg : Str → Option Value} {base : Heap} {f : Addr} {cdv : Value} {Ar : Around} {outer : List Env} {s : Shared} {H : Hp} {E : XK} {G : Gh}
theorem l_like_body (B : Bi mg) (n : Nat) (D : ∀ m, n = m + 1 → Df P w K mg base CX0 (m + 1) "_law_like" ["told", "due"] (φ_liken m)) (hr : Room n (Ar.deeper (PyProof.Rows.envOfC "_law_like" (defScope s_l_like) s.heap.objs.size f cdv))) (d : Dt) (hd : okD n d = true) :
    WSs (X_l_like P w K mg base f cdv Ar outer s H E) G ⟨[some (.dat d), some (.dat d), none], []⟩ (defBody s_l_like) (EndR R_l_like true) := by
  cases d with
  | «at» v =>
    cases v with
    | non =>
      refine wss_ifM (EndR R_l_like) (p := false) (m1 := true) (m2 := true) rfl (et_B (ev_isi (d := .at V.non) (T := "NoneType") (C := "tuple") B.isinstance B.tuple (by decide +kernel) (ev_name (a := .dat (.at V.non)) (i := 1)) rfl (by decide +kernel))) (fun h => nomatch h) (fun _ => end_thn (Fg.refl _) ?_)
      refine wss_ifM (EndR R_l_like) (p := decide (V.non = V.non)) (m1 := true) (m2 := true) (by cases decide (V.non = V.non) <;> rfl) (et_isN (ev_name (a := .dat (.at V.non)) (i := 1))) (fun _ => wss_ret (ev_isN (ev_name (a := .dat (.at V.non)) (i := 0))) ?_) (fun h => by simp at h)
      rw [decide_eq_true (rfl : V.non = V.non)]
      exact ret_dat
    | bl b =>
      refine wss_ifM (EndR R_l_like) (p := false) (m1 := true) (m2 := true) rfl (et_B (ev_isi (d := .at (.bl b)) (T := "bool") (C := "tuple") B.isinstance B.tuple (by decide +kernel) (ev_name (a := .dat (.at (.bl b))) (i := 1)) rfl (by decide +kernel))) (fun h => nomatch h) (fun _ => end_thn (Fg.refl _) ?_)
      refine wss_ifM (EndR R_l_like) (p := decide (V.bl b = V.non)) (m1 := true) (m2 := true) (by cases decide (V.bl b = V.non) <;> rfl) (et_isN (ev_name (a := .dat (.at (V.bl b))) (i := 1))) (fun h => by simp at h) (fun _ => end_thn (Fg.refl _) ?_)
      refine wss_ifM (EndR R_l_like) (p := true) (m1 := true) (m2 := true) rfl (et_B (ev_isi (d := .at (.bl b)) (T := "bool") (C := "bool") B.isinstance B.bool (by decide +kernel) (ev_name (a := .dat (.at (.bl b))) (i := 1)) rfl (by decide +kernel))) (fun _ => wss_ret (ev_and (p := true) (q := decide (b = b)) (ev_isi (d := .at (.bl b)) (T := "bool") (C := "bool") B.isinstance B.bool (by decide +kernel) (ev_name (a := .dat (.at (.bl b))) (i := 0)) rfl (by decide +kernel)) (fun _ => ev_b1 (ev_eqB (ev_name (a := En (α := Bool) b) (i := 0)) (ev_name (a := En (α := Bool) b) (i := 1))))) ?_) (fun h => nomatch h)
      rw [decide_eq_true (rfl : b = b)]
      exact ret_dat
    | str z =>
      refine wss_ifM (EndR R_l_like) (p := false) (m1 := true) (m2 := true) rfl (et_B (ev_isi (d := .at (.str z)) (T := "str") (C := "tuple") B.isinstance B.tuple (by decide +kernel) (ev_name (a := .dat (.at (.str z))) (i := 1)) rfl (by decide +kernel))) (fun h => nomatch h) (fun _ => end_thn (Fg.refl _) ?_)
      refine wss_ifM (EndR R_l_like) (p := decide (V.str z = V.non)) (m1 := true) (m2 := true) (by cases decide (V.str z = V.non) <;> rfl) (et_isN (ev_name (a := .dat (.at (V.str z))) (i := 1))) (fun h => by simp at h) (fun _ => end_thn (Fg.refl _) ?_)
      refine wss_ifM (EndR R_l_like) (p := false) (m1 := true) (m2 := true) rfl (et_B (ev_isi (d := .at (.str z)) (T := "str") (C := "bool") B.isinstance B.bool (by decide +kernel) (ev_name (a := .dat (.at (.str z))) (i := 1)) rfl (by decide +kernel))) (fun h => nomatch h) (fun _ => end_thn (Fg.refl _) ?_)
      refine wss_ifM (EndR R_l_like) (p := true) (m1 := true) (m2 := true) rfl (et_B (ev_isi (d := .at (.str z)) (T := "str") (C := "str") B.isinstance B.str (by decide +kernel) (ev_name (a := .dat (.at (.str z))) (i := 1)) rfl (by decide +kernel))) (fun _ => wss_ret (ev_and (p := true) (q := decide (z = z)) (ev_isi (d := .at (.str z)) (T := "str") (C := "str") B.isinstance B.str (by decide +kernel) (ev_name (a := .dat (.at (.str z))) (i := 0)) rfl (by decide +kernel)) (fun _ => ev_b1 (ev_eqS (ev_name (a := En (α := Str) z) (i := 0)) (ev_name (a := En (α := Str) z) (i := 1))))) ?_) (fun h => nomatch h)
      rw [decide_eq_true (rfl : z = z)]
      exact ret_dat
    | int j =>
      refine wss_ifM (EndR R_l_like) (p := false) (m1 := true) (m2 := true) rfl (et_B (ev_isi (d := .at (.int j)) (T := "int") (C := "tuple") B.isinstance B.tuple (by decide +kernel) (ev_name (a := .dat (.at (.int j))) (i := 1)) rfl (by decide +kernel))) (fun h => nomatch h) (fun _ => end_thn (Fg.refl _) ?_)
      refine wss_ifM (EndR R_l_like) (p := decide (V.int j = V.non)) (m1 := true) (m2 := true) (by cases decide (V.int j = V.non) <;> rfl) (et_isN (ev_name (a := .dat (.at (V.int j))) (i := 1))) (fun h => by simp at h) (fun _ => end_thn (Fg.refl _) ?_)
      refine wss_ifM (EndR R_l_like) (p := false) (m1 := true) (m2 := true) rfl (et_B (ev_isi (d := .at (.int j)) (T := "int") (C := "bool") B.isinstance B.bool (by decide +kernel) (ev_name (a := .dat (.at (.int j))) (i := 1)) rfl (by decide +kernel))) (fun h => nomatch h) (fun _ => end_thn (Fg.refl _) ?_)
      refine wss_ifM (EndR R_l_like) (p := false) (m1 := true) (m2 := true) rfl (et_B (ev_isi (d := .at (.int j)) (T := "int") (C := "str") B.isinstance B.str (by decide +kernel) (ev_name (a := .dat (.at (.int j))) (i := 1)) rfl (by decide +kernel))) (fun h => nomatch h) (fun _ => end_thn (Fg.refl _) ?_)
      refine wss_ret (ev_and (p := true) (q := !false && decide (j = j)) (ev_isi (d := .at (.int j)) (T := "int") (C := "int") B.isinstance B.int (by decide +kernel) (ev_name (a := .dat (.at (.int j))) (i := 0)) rfl (by decide +kernel)) (fun _ => ev_and (p := !false) (q := decide (j = j)) (ev_not (ev_isi (d := .at (.int j)) (T := "int") (C := "bool") B.isinstance B.bool (by decide +kernel) (ev_name (a := .dat (.at (.int j))) (i := 0)) rfl (by decide +kernel))) (fun _ => ev_b1 (ev_eqI (ev_name (a := En (α := Int) j) (i := 0)) (ev_name (a := En (α := Int) j) (i := 1)))))) ?_
      rw [decide_eq_true (rfl : j = j)]
      exact ret_dat
    | _ => cases n <;> simp [okD] at hd
  | tup ds =>
    cases n with
    | zero => simp [okD] at hd
    | succ n =>
      obtain ⟨hz, hall⟩ := okD_tup.mp hd
      have hrg : RgOk (ds.length : Int) := rgOk_nat hz
      have hlen : (rngL 0 ((ds.length : Int)).toNat).length ≤ 100000 := by rw [rngL_len, Int.toNat_natCast]; exact hz
      refine wss_ifM (EndR R_l_like) (p := true) (m1 := true) (m2 := true) rfl (et_B (ev_isi (d := .tup ds) (T := "tuple") (C := "tuple") B.isinstance B.tuple (by decide +kernel) (ev_name (a := .dat (.tup ds)) (i := 1)) rfl (by decide +kernel))) (fun _ => wss_ret (x := En true) (EV.to (ev_and (p := true) (q := decide ((ds.length : Int) = (ds.length : Int)) && ((rngL 0 ((ds.length : Int)).toNat).map (fun _ => true)).all id)
        (ev_isi (d := .tup ds) (T := "tuple") (C := "tuple") B.isinstance B.tuple (by decide +kernel) (ev_name (a := .dat (.tup ds)) (i := 0)) rfl (by decide +kernel))
        (fun _ => ev_and (ev_eqI (ev_lenD B.len (ev_name (a := .dat (.tup ds)) (i := 0)) (.inr rfl)) (ev_lenD B.len (ev_name (a := .dat (.tup ds)) (i := 1)) (.inr rfl)))
          (fun _ => ev_b1 (ev_all (bs := (rngL 0 ((ds.length : Int)).toNat).map (fun _ => true)) rfl B.all
            (lc_all (α := Int) (β := Bool) (xs := rngL 0 ((ds.length : Int)).toNat) (f := fun _ => true) (sl' := fun x => [some (.dat (.tup ds)), some (.dat (.tup ds)), some (En x)]) [("at", 2)] (lcm_pe rfl sc_l_like.nd (blkOk_by rfl)) (ei_of (es_rng1 B.range (ev_lenD B.len (ev_name (a := .dat (.tup ds)) (i := 1)) (.inr rfl)) hrg)) (fun _ _ => trivial) hlen (fun _ _ _ _ _ x c => eg_name (i := 2) sc_l_like.nd)
              (fun _ _ _ _ _ x c hm => by
                obtain ⟨i, hi, rfl⟩ := rngL_mem hm
                have hi : i < ds.length := by rw [Int.toNat_natCast] at hi; exact hi
                have hx : ds[i]? = some ds[i] := List.getElem?_eq_getElem hi
                exact ev_cf (φ := φ_liken n) (ds := [ds[i], ds[i]]) (r := Enc.enc true) (D n rfl) hr pass0 (ea_cons (ev_ixD (ds := ds) (i := i) (ev_name (a := .dat (.tup ds)) (i := 0)) (ev_name (a := En (α := Int) (i : Int)) (i := 2)) hx) (ea_cons (ev_ixD (ds := ds) (i := i) (ev_name (a := .dat (.tup ds)) (i := 1)) (ev_name (a := En (α := Int) (i : Int)) (i := 2)) hx) ea_nil)) ⟨ds[i], rfl, rfl, hall _ (List.getElem_mem hi), rfl, rfl⟩))
            (rdl (α := Bool)))))) (by
              have : ((rngL 0 ((ds.length : Int)).toNat).map (fun _ => true)).all id = true := by
                rw [List.all_eq_true]
                intro b hb
                obtain ⟨_, _, rfl⟩ := List.mem_map.mp hb
                rfl
              rw [this, decide_eq_true rfl]
              rfl)) ret_dat) (fun h => nomatch h)
  | _ => cases n <;> simp [okD] at hd
theorem df_l_liken (B : Bi mg) (T : Top K mg "_law_like" s_l_like ["told", "due"]) : ∀ n : Nat, Df P w K mg base CX0 (n + 1) "_law_like" ["told", "due"] (φ_liken n) := by
  intro n
  induction n with
  | zero =>
    refine Df.mk' T sc_l_like (fun args cs r cs' ⟨d, e1, e2, hP, e3, e4⟩ => by subst e1 e2 e3 e4; exact ⟨rfl, Nat.zero_le _⟩) (fun f cdv Ar outer s H E G args cs r cs' hr ⟨d, e1, e2, hP, e3, e4⟩ hB => ?_)
    subst e1 e2 e3 e4
    exact l_like_body B 0 (fun m h => by omega) hr d hP
  | succ n ih =>
    refine Df.mk' T sc_l_like (fun args cs r cs' ⟨d, e1, e2, hP, e3, e4⟩ => by subst e1 e2 e3 e4; exact ⟨rfl, Nat.zero_le _⟩) (fun f cdv Ar outer s H E G args cs r cs' hr ⟨d, e1, e2, hP, e3, e4⟩ hB => ?_)
    subst e1 e2 e3 e4
    exact l_like_body B (n + 1) (fun m h => by cases h; exact ih) hr d hP
def v_l_like {α : Type} [Enc α] (_ _ : α) : Bool := true
def P_l_like {α : Type} [Enc α] (told due : α) : Prop := told = due ∧ okD 4 (Enc.enc due) = true
def φ_l_like : Ct := fun args cs r cs' => ∃ (α : Type) (_ : Enc α) (told due : α), args = [En told, En due] ∧ cs = [] ∧ P_l_like told due ∧ r = En (v_l_like told due) ∧ cs' = []
theorem df_l_like (B : Bi mg) (T : Top K mg "_law_like" s_l_like ["told", "due"]) : Df P w K mg base CX0 5 "_law_like" ["told", "due"] φ_l_like :=
  (df_l_liken B T 4).imp fun args cs r cs' ⟨α, _, told, due, e1, e2, ⟨e5, h⟩, e3, e4⟩ => ⟨Enc.enc due, by rw [e1, e5], e2, h, e3, e4⟩
end
/-! ### _law_line -/
section
abbrev s_l_line : Stmt := topS 27
abbrev N_l_line : List Str := ["well", "locks", "most", "line", "held", "many", "turn", "free", "lock", "begun", "deed"]
theorem sc_l_line : FnScope N_l_line ["well", "locks", "most"] (defScope s_l_line) := ⟨rfl, rfl, rfl, by decide +kernel, rfl, by decide +kernel, by decide +kernel⟩
abbrev X_l_line (P : Program) (w : World) (K : PySem.W.Frag) (mg : Str → Option Value) (base : Heap) (f : Addr) (cdv : Value) (Ar : Around) (outer : List Env) (s : Shared) (H : Hp) (E : XK) : Cx := (cxOf CX0 P w K mg base N_l_line "_law_line" (defScope s_l_line) f cdv Ar outer s H E).nox
variable {P : Program} {w : World} {K : PySem.W.Frag} {mg : Str → Option Value} {base : Heap} {f : Addr} {cdv : Value} {Ar : Around} {outer : List Env} {s : Shared} {H : Hp} {E : XK} {G : Gh}
variable (B : Bi mg) (D_l_dip : Df P w K mg base CX0 1 "_law_dip" ["well", "many"] φ_l_dip) (D_l_one : Df P w K mg base CX0 2 "_law_one" ["well", "some"] φ_l_one) (hr : Room 2 (Ar.deeper (PyProof.Rows.envOfC "_law_line" (defScope s_l_line) s.heap.objs.size f cdv))) (hB : G.B.length = 1) 
include B D_l_dip D_l_one hr hB 
abbrev R_l_line : ((List (Int × Int)) × (List Int)) → A → Ms → Prop := fun (v : (List (Int × Int)) × (List Int)) (a : A) (S : Ms) => RetOk a S (En (α := Tp (Int × Int)) v.1) [Cl (α := Int) v.2]
def l_line_7 (well : List Int) (line : List (Int × Int)) (held : List Int) (locks : List Int) (many : Int) : (List Int) × (List (Int × Int)) × (List Int) := (well, line ++ [((0 : Int), gI held (-(1 : Int)))], held)
def l_line_7P (well : List Int) (line : List (Int × Int)) (held : List Int) (locks : List Int) (many : Int) : Prop := (InR (-(1 : Int)) (held).length) ∧ ((line).length < 100000)
theorem l_line_7_w (well : List Int) (line : List (Int × Int)) (held : List Int) (locks : List Int) (many : Int) (h : l_line_7P well line held locks many) : WSs (X_l_line P w K mg base f cdv Ar outer s H E) G ⟨[some (.cell 0), some (En (α := List Int) locks), none, some (.cell 1), some (.cell 2), some (En (α := Int) many), none, none, none, none, none], [Cl (α := Int) well, Cl (α := Int × Int) line, Cl (α := Int) held]⟩ ((ifA ((forB ((defBody s_l_line).getD 1 passS)).getD 2 passS)).drop 1) (Thn (X_l_line P w K mg base f cdv Ar outer s H E) G ((forB ((defBody s_l_line).getD 1 passS)).drop 3) (EndN (fun (v : (List Int) × (List (Int × Int)) × (List Int)) => ⟨[some (.cell 0), some (En (α := List Int) locks), none, some (.cell 1), some (.cell 2), some (En (α := Int) many), none, none, none, none, none], [Cl (α := Int) v.1, Cl (α := Int × Int) v.2.1, Cl (α := Int) v.2.2]⟩)) (l_line_7 well line held locks many)) := by
  obtain ⟨q63_, q64_⟩ := h
  exact wss_sn (sn_expr (ev_append (α := Int × Int) (xs0 := line) (xs := line) (u := ((0 : Int), gI held (-(1 : Int)))) (ev_name (a := .cell 1) (i := 3)) (EV.be (En (α := Int × Int) ((0 : Int), gI held (-(1 : Int)))) (ev_tup (ds := [Enc.enc (α := Int) (0 : Int), Enc.enc (α := Int) (gI held (-(1 : Int)))]) (ea_cons (ev_int) (ea_cons (ev_ixL (α := Int) (xs := held) (ev_name (a := .cell 2) (i := 4)) (ev_neg (ev_int)) ((rdc (α := Int) (xs := held) (k := 2))) q63_) (ea_nil))))) rfl rfl q64_)) (end_thn (S' := ⟨[some (.cell 0), some (En (α := List Int) locks), none, some (.cell 1), some (.cell 2), some (En (α := Int) many), none, none, none, none, none], [Cl (α := Int) well, Cl (α := Int × Int) (line ++ [((0 : Int), gI held (-(1 : Int)))]), Cl (α := Int) held]⟩) (fg_of (by exact And.intro (Or.inr rfl) (And.intro (Or.inr rfl) (And.intro (Or.inl rfl) (And.intro (Or.inr rfl) (And.intro (Or.inr rfl) (And.intro (Or.inr rfl) (And.intro (Or.inl rfl) (And.intro (Or.inl rfl) (And.intro (Or.inl rfl) (And.intro (Or.inl rfl) (And.intro (Or.inl rfl) (True.intro))))))))))))) (end_nx (fg_of (by exact And.intro (Or.inr rfl) (And.intro (Or.inr rfl) (And.intro (Or.inl rfl) (And.intro (Or.inr rfl) (And.intro (Or.inr rfl) (And.intro (Or.inr rfl) (And.intro (Or.inl rfl) (And.intro (Or.inl rfl) (And.intro (Or.inl rfl) (And.intro (Or.inl rfl) (And.intro (Or.inl rfl) (True.intro)))))))))))))))
def l_line_6 (well : List Int) (line : List (Int × Int)) (held : List Int) (locks : List Int) (many : Int) (free : List Int) : (List Int) × (List (Int × Int)) × (List Int) := l_line_7 ((v_l_one (α := Int) well free).2) line (held ++ [(v_l_one (α := Int) well free).1]) locks many
def l_line_6P (well : List Int) (line : List (Int × Int)) (held : List Int) (locks : List Int) (many : Int) (free : List Int) : Prop := (P_l_one (α := Int) well free) ∧ ((held).length < 100000) ∧ (l_line_7P ((v_l_one (α := Int) well free).2) line (held ++ [(v_l_one (α := Int) well free).1]) locks many)
theorem l_line_6_w (well : List Int) (line : List (Int × Int)) (held : List Int) (locks : List Int) (many : Int) (free : List Int) (h : l_line_6P well line held locks many free) : WSs (X_l_line P w K mg base f cdv Ar outer s H E) G ⟨[some (.cell 0), some (En (α := List Int) locks), none, some (.cell 1), some (.cell 2), some (En (α := Int) many), none, some (En (α := List Int) free), none, none, none], [Cl (α := Int) well, Cl (α := Int × Int) line, Cl (α := Int) held]⟩ (ifA ((forB ((defBody s_l_line).getD 1 passS)).getD 2 passS)) (Thn (X_l_line P w K mg base f cdv Ar outer s H E) G ((forB ((defBody s_l_line).getD 1 passS)).drop 3) (EndN (fun (v : (List Int) × (List (Int × Int)) × (List Int)) => ⟨[some (.cell 0), some (En (α := List Int) locks), none, some (.cell 1), some (.cell 2), some (En (α := Int) many), none, none, none, none, none], [Cl (α := Int) v.1, Cl (α := Int × Int) v.2.1, Cl (α := Int) v.2.2]⟩)) (l_line_6 well line held locks many free)) := by
  obtain ⟨q61_, q62_, q65_⟩ := h
  exact wss_sn (sn_expr (ev_append (α := Int) (xs0 := held) (xs := held) (u := (v_l_one (α := Int) well free).1) (ev_name (a := .cell 2) (i := 4)) (ev_cf1 (φ := φ_l_one) (j := 0) (α := Int) (xs := well) (ys := (v_l_one (α := Int) well free).2) (args := [.cell 0, En (α := List Int) free]) (r := Enc.enc (α := Int) ((v_l_one (α := Int) well free).1)) D_l_one (hr.mono (by decide)) pass0 (ea_cons (ev_name (a := .cell 0) (i := 0)) (ea_cons (ev_name (a := En (α := List Int) free) (i := 7)) (ea_nil))) ⟨_, _, _, well, free, rfl, rfl, q61_, rfl, rfl⟩ (fun k h => by simp at h) rfl) rfl rfl q62_)) (wss_fg (fg_of (by exact And.intro (Or.inr rfl) (And.intro (Or.inr rfl) (And.intro (Or.inl rfl) (And.intro (Or.inr rfl) (And.intro (Or.inr rfl) (And.intro (Or.inr rfl) (And.intro (Or.inl rfl) (And.intro (Or.inl rfl) (And.intro (Or.inl rfl) (And.intro (Or.inl rfl) (And.intro (Or.inl rfl) (True.intro))))))))))))) (l_line_7_w B D_l_dip D_l_one hr hB ((v_l_one (α := Int) well free).2) line (held ++ [(v_l_one (α := Int) well free).1]) locks many q65_))
def l_line_9 (well : List Int) (line : List (Int × Int)) (held : List Int) (locks : List Int) (many : Int) : (List Int) × (List (Int × Int)) × (List Int) := ((v_l_dip well (held.length : Int)).2, line ++ [((1 : Int), gI held ((v_l_dip well (held.length : Int)).1))], (held).eraseIdx ((v_l_dip well (held.length : Int)).1).toNat)
def l_line_9P (well : List Int) (line : List (Int × Int)) (held : List Int) (locks : List Int) (many : Int) : Prop := (P_l_dip well (held.length : Int)) ∧ ((0 : Int) ≤ ((v_l_dip well (held.length : Int)).1) ∧ ((v_l_dip well (held.length : Int)).1) < (held.length : Int)) ∧ ((held).length ≤ 100000) ∧ ((line).length < 100000)
theorem l_line_9_w (well : List Int) (line : List (Int × Int)) (held : List Int) (locks : List Int) (many : Int) (h : l_line_9P well line held locks many) : WSs (X_l_line P w K mg base f cdv Ar outer s H E) G ⟨[some (.cell 0), some (En (α := List Int) locks), none, some (.cell 1), some (.cell 2), some (En (α := Int) many), none, none, none, none, none], [Cl (α := Int) well, Cl (α := Int × Int) line, Cl (α := Int) held]⟩ (ifA ((ifB ((forB ((defBody s_l_line).getD 1 passS)).getD 2 passS)).getD 0 passS)) (Thn (X_l_line P w K mg base f cdv Ar outer s H E) G ((ifB ((forB ((defBody s_l_line).getD 1 passS)).getD 2 passS)).drop 1) (Thn (X_l_line P w K mg base f cdv Ar outer s H E) G ((forB ((defBody s_l_line).getD 1 passS)).drop 3) (EndN (fun (v : (List Int) × (List (Int × Int)) × (List Int)) => ⟨[some (.cell 0), some (En (α := List Int) locks), none, some (.cell 1), some (.cell 2), some (En (α := Int) many), none, none, none, none, none], [Cl (α := Int) v.1, Cl (α := Int × Int) v.2.1, Cl (α := Int) v.2.2]⟩))) (l_line_9 well line held locks many)) := by
  obtain ⟨q69_, q70_, q71_, q72_⟩ := h
  exact wss_sn (sn_expr (ev_append (α := Int × Int) (xs0 := line) (xs := line) (u := ((1 : Int), gI held ((v_l_dip well (held.length : Int)).1))) (ev_name (a := .cell 1) (i := 3)) (EV.be (En (α := Int × Int) ((1 : Int), gI held ((v_l_dip well (held.length : Int)).1))) (ev_tup (ds := [Enc.enc (α := Int) (1 : Int), Enc.enc (α := Int) (gI held ((v_l_dip well (held.length : Int)).1))]) (ea_cons (ev_int) (ea_cons (ev_popAt (α := Int) (xs0 := held) (xs := held) (ev_name (a := .cell 2) (i := 4)) (ev_cf1 (φ := φ_l_dip) (j := 0) (α := Int) (xs := well) (ys := (v_l_dip well (held.length : Int)).2) (args := [.cell 0, En (α := Int) (held.length : Int)]) (r := Enc.enc (α := Int) ((v_l_dip well (held.length : Int)).1)) D_l_dip (hr.mono (by decide)) pass0 (ea_cons (ev_name (a := .cell 0) (i := 0)) (ea_cons (ev_len (α := Int) (xs := held) B.len (ev_name (a := .cell 2) (i := 4)) (.inl (rdc (α := Int) (xs := held) (k := 2)))) (ea_nil))) ⟨well, (held.length : Int), rfl, rfl, q69_, rfl, rfl⟩ (fun k h => by simp at h) rfl) rfl rfl q70_ q71_) (ea_nil))))) rfl rfl q72_)) (end_thn (S' := ⟨[some (.cell 0), some (En (α := List Int) locks), none, some (.cell 1), some (.cell 2), some (En (α := Int) many), none, none, none, none, none], [Cl (α := Int) ((v_l_dip well (held.length : Int)).2), Cl (α := Int × Int) (line ++ [((1 : Int), gI held ((v_l_dip well (held.length : Int)).1))]), Cl (α := Int) ((held).eraseIdx ((v_l_dip well (held.length : Int)).1).toNat)]⟩) (fg_of (by exact And.intro (Or.inr rfl) (And.intro (Or.inr rfl) (And.intro (Or.inl rfl) (And.intro (Or.inr rfl) (And.intro (Or.inr rfl) (And.intro (Or.inr rfl) (And.intro (Or.inl rfl) (And.intro (Or.inl rfl) (And.intro (Or.inl rfl) (And.intro (Or.inl rfl) (And.intro (Or.inl rfl) (True.intro))))))))))))) (end_thn (S' := ⟨[some (.cell 0), some (En (α := List Int) locks), none, some (.cell 1), some (.cell 2), some (En (α := Int) many), none, none, none, none, none], [Cl (α := Int) ((v_l_dip well (held.length : Int)).2), Cl (α := Int × Int) (line ++ [((1 : Int), gI held ((v_l_dip well (held.length : Int)).1))]), Cl (α := Int) ((held).eraseIdx ((v_l_dip well (held.length : Int)).1).toNat)]⟩) (fg_of (by exact And.intro (Or.inr rfl) (And.intro (Or.inr rfl) (And.intro (Or.inl rfl) (And.intro (Or.inr rfl) (And.intro (Or.inr rfl) (And.intro (Or.inr rfl) (And.intro (Or.inl rfl) (And.intro (Or.inl rfl) (And.intro (Or.inl rfl) (And.intro (Or.inl rfl) (And.intro (Or.inl rfl) (True.intro))))))))))))) (end_nx (fg_of (by exact And.intro (Or.inr rfl) (And.intro (Or.inr rfl) (And.intro (Or.inl rfl) (And.intro (Or.inr rfl) (And.intro (Or.inr rfl) (And.intro (Or.inr rfl) (And.intro (Or.inl rfl) (And.intro (Or.inl rfl) (And.intro (Or.inl rfl) (And.intro (Or.inl rfl) (And.intro (Or.inl rfl) (True.intro))))))))))))))))
def l_line_8 (well : List Int) (line : List (Int × Int)) (held : List Int) (locks : List Int) (many : Int) : (List Int) × (List (Int × Int)) × (List Int) := cond (!decide (held = [])) (l_line_9 well line held locks many) (well, line, held)
def l_line_8P (well : List Int) (line : List (Int × Int)) (held : List Int) (locks : List Int) (many : Int) : Prop := ((!decide (held = [])) = true → (l_line_9P well line held locks many))
theorem l_line_8_w (well : List Int) (line : List (Int × Int)) (held : List Int) (locks : List Int) (many : Int) (h : l_line_8P well line held locks many) : WSs (X_l_line P w K mg base f cdv Ar outer s H E) G ⟨[some (.cell 0), some (En (α := List Int) locks), none, some (.cell 1), some (.cell 2), some (En (α := Int) many), none, none, none, none, none], [Cl (α := Int) well, Cl (α := Int × Int) line, Cl (α := Int) held]⟩ (ifB ((forB ((defBody s_l_line).getD 1 passS)).getD 2 passS)) (Thn (X_l_line P w K mg base f cdv Ar outer s H E) G ((forB ((defBody s_l_line).getD 1 passS)).drop 3) (EndN (fun (v : (List Int) × (List (Int × Int)) × (List Int)) => ⟨[some (.cell 0), some (En (α := List Int) locks), none, some (.cell 1), some (.cell 2), some (En (α := Int) many), none, none, none, none, none], [Cl (α := Int) v.1, Cl (α := Int × Int) v.2.1, Cl (α := Int) v.2.2]⟩)) (l_line_8 well line held locks many)) := by
  have q75_ := h
  exact wss_ifM (Thn (X_l_line P w K mg base f cdv Ar outer s H E) G ((forB ((defBody s_l_line).getD 1 passS)).drop 3) (EndN (fun (v : (List Int) × (List (Int × Int)) × (List Int)) => ⟨[some (.cell 0), some (En (α := List Int) locks), none, some (.cell 1), some (.cell 2), some (En (α := Int) many), none, none, none, none, none], [Cl (α := Int) v.1, Cl (α := Int × Int) v.2.1, Cl (α := Int) v.2.2]⟩))) (p := !decide (held = [])) (m1 := l_line_9 well line held locks many) (m2 := (well, line, held)) rfl (et_neL (α := Int) (xs := held) (ys := []) (hr.mono (by decide) : Room 0 _).units (ev_name (a := .cell 2) (i := 4)) (EV.be (En (α := List Int) []) (ev_lst (ds := []) ea_nil)) ((rdc (α := Int) (xs := held) (k := 2))) ((rdl (α := Int)))) (fun hp74_ => l_line_9_w B D_l_dip D_l_one hr hB well line held locks many (q75_ hp74_)) (fun hp76_ => end_thn (S' := ⟨[some (.cell 0), some (En (α := List Int) locks), none, some (.cell 1), some (.cell 2), some (En (α := Int) many), none, none, none, none, none], [Cl (α := Int) well, Cl (α := Int × Int) line, Cl (α := Int) held]⟩) (fg_of (by exact And.intro (Or.inr rfl) (And.intro (Or.inr rfl) (And.intro (Or.inl rfl) (And.intro (Or.inr rfl) (And.intro (Or.inr rfl) (And.intro (Or.inr rfl) (And.intro (Or.inl rfl) (And.intro (Or.inl rfl) (And.intro (Or.inl rfl) (And.intro (Or.inl rfl) (And.intro (Or.inl rfl) (True.intro))))))))))))) (end_thn (S' := ⟨[some (.cell 0), some (En (α := List Int) locks), none, some (.cell 1), some (.cell 2), some (En (α := Int) many), none, none, none, none, none], [Cl (α := Int) well, Cl (α := Int × Int) line, Cl (α := Int) held]⟩) (fg_of (by exact And.intro (Or.inr rfl) (And.intro (Or.inr rfl) (And.intro (Or.inl rfl) (And.intro (Or.inr rfl) (And.intro (Or.inr rfl) (And.intro (Or.inr rfl) (And.intro (Or.inl rfl) (And.intro (Or.inl rfl) (And.intro (Or.inl rfl) (And.intro (Or.inl rfl) (And.intro (Or.inl rfl) (True.intro))))))))))))) (end_nx (fg_of (by exact And.intro (Or.inr rfl) (And.intro (Or.inr rfl) (And.intro (Or.inl rfl) (And.intro (Or.inr rfl) (And.intro (Or.inr rfl) (And.intro (Or.inr rfl) (And.intro (Or.inl rfl) (And.intro (Or.inl rfl) (And.intro (Or.inl rfl) (And.intro (Or.inl rfl) (And.intro (Or.inl rfl) (True.intro))))))))))))))))
def l_line_5 (well : List Int) (line : List (Int × Int)) (held : List Int) (locks : List Int) (many : Int) (free : List Int) (begun : Int) : (List Int) × (List (Int × Int)) × (List Int) := cond ((decide (begun < many)) && ((!decide (free = [])) && ((decide (held = [])) || (decide (((v_l_dip well (2 : Int)).1) = (0 : Int)))))) (l_line_6 (cond (decide (begun < many)) (cond (!decide (free = [])) (cond (decide (held = [])) well ((v_l_dip well (2 : Int)).2)) well) well) line held locks many free) (l_line_8 (cond (decide (begun < many)) (cond (!decide (free = [])) (cond (decide (held = [])) well ((v_l_dip well (2 : Int)).2)) well) well) line held locks many)
def l_line_5P (well : List Int) (line : List (Int × Int)) (held : List Int) (locks : List Int) (many : Int) (free : List Int) (begun : Int) : Prop := ((decide (begun < many)) = true → ((!decide (free = [])) = true → ((decide (held = [])) = false → (P_l_dip well (2 : Int))))) ∧ (((decide (begun < many)) && ((!decide (free = [])) && ((decide (held = [])) || (decide (((v_l_dip well (2 : Int)).1) = (0 : Int)))))) = true → (l_line_6P (cond (decide (begun < many)) (cond (!decide (free = [])) (cond (decide (held = [])) well ((v_l_dip well (2 : Int)).2)) well) well) line held locks many free)) ∧ (((decide (begun < many)) && ((!decide (free = [])) && ((decide (held = [])) || (decide (((v_l_dip well (2 : Int)).1) = (0 : Int)))))) = false → (l_line_8P (cond (decide (begun < many)) (cond (!decide (free = [])) (cond (decide (held = [])) well ((v_l_dip well (2 : Int)).2)) well) well) line held locks many))
theorem l_line_5_w (well : List Int) (line : List (Int × Int)) (held : List Int) (locks : List Int) (many : Int) (free : List Int) (begun : Int) (h : l_line_5P well line held locks many free begun) : WSs (X_l_line P w K mg base f cdv Ar outer s H E) G ⟨[some (.cell 0), some (En (α := List Int) locks), none, some (.cell 1), some (.cell 2), some (En (α := Int) many), none, some (En (α := List Int) free), none, some (En (α := Int) begun), none], [Cl (α := Int) well, Cl (α := Int × Int) line, Cl (α := Int) held]⟩ ((forB ((defBody s_l_line).getD 1 passS)).drop 2) (EndN (fun (v : (List Int) × (List (Int × Int)) × (List Int)) => ⟨[some (.cell 0), some (En (α := List Int) locks), none, some (.cell 1), some (.cell 2), some (En (α := Int) many), none, none, none, none, none], [Cl (α := Int) v.1, Cl (α := Int × Int) v.2.1, Cl (α := Int) v.2.2]⟩) (l_line_5 well line held locks many free begun)) := by
  obtain ⟨q60_, q68_, q79_⟩ := h
  exact wss_ifM (EndN (fun (v : (List Int) × (List (Int × Int)) × (List Int)) => ⟨[some (.cell 0), some (En (α := List Int) locks), none, some (.cell 1), some (.cell 2), some (En (α := Int) many), none, none, none, none, none], [Cl (α := Int) v.1, Cl (α := Int × Int) v.2.1, Cl (α := Int) v.2.2]⟩)) (p := (decide (begun < many)) && ((!decide (free = [])) && ((decide (held = [])) || (decide (((v_l_dip well (2 : Int)).1) = (0 : Int)))))) (m1 := l_line_6 (cond (decide (begun < many)) (cond (!decide (free = [])) (cond (decide (held = [])) well ((v_l_dip well (2 : Int)).2)) well) well) line held locks many free) (m2 := l_line_8 (cond (decide (begun < many)) (cond (!decide (free = [])) (cond (decide (held = [])) well ((v_l_dip well (2 : Int)).2)) well) well) line held locks many) rfl (et_w (ew_andB (p := decide (begun < many)) (q := (!decide (free = [])) && ((decide (held = [])) || (decide (((v_l_dip well (2 : Int)).1) = (0 : Int))))) (fun b => ⟨[some (.cell 0), some (En (α := List Int) locks), none, some (.cell 1), some (.cell 2), some (En (α := Int) many), none, some (En (α := List Int) free), none, some (En (α := Int) begun), none], [Cl (α := Int) (cond b (cond (!decide (free = [])) (cond (decide (held = [])) well ((v_l_dip well (2 : Int)).2)) well) well), Cl (α := Int × Int) line, Cl (α := Int) held]⟩) (et_lt (ev_name (a := En (α := Int) begun) (i := 9)) (ev_name (a := En (α := Int) many) (i := 5))) (fun hp59_ => ew_andB (p := !decide (free = [])) (q := (decide (held = [])) || (decide (((v_l_dip well (2 : Int)).1) = (0 : Int)))) (fun b => ⟨[some (.cell 0), some (En (α := List Int) locks), none, some (.cell 1), some (.cell 2), some (En (α := Int) many), none, some (En (α := List Int) free), none, some (En (α := Int) begun), none], [Cl (α := Int) (cond b (cond (decide (held = [])) well ((v_l_dip well (2 : Int)).2)) well), Cl (α := Int × Int) line, Cl (α := Int) held]⟩) (et_neL (α := Int) (xs := free) (ys := []) (hr.mono (by decide) : Room 0 _).units (ev_name (a := En (α := List Int) free) (i := 7)) (EV.be (En (α := List Int) []) (ev_lst (ds := []) ea_nil)) ((rdl (α := Int))) ((rdl (α := Int)))) (fun hp57_ => ew_and1 (et_w (ew_orB (p := decide (held = [])) (q := decide (((v_l_dip well (2 : Int)).1) = (0 : Int))) (fun b => ⟨[some (.cell 0), some (En (α := List Int) locks), none, some (.cell 1), some (.cell 2), some (En (α := Int) many), none, some (En (α := List Int) free), none, some (En (α := Int) begun), none], [Cl (α := Int) (cond b well ((v_l_dip well (2 : Int)).2)), Cl (α := Int × Int) line, Cl (α := Int) held]⟩) (et_eqL (α := Int) (xs := held) (ys := []) (hr.mono (by decide) : Room 0 _).units (ev_name (a := .cell 2) (i := 4)) (EV.be (En (α := List Int) []) (ev_lst (ds := []) ea_nil)) ((rdc (α := Int) (xs := held) (k := 2))) ((rdl (α := Int)))) (fun hp55_ => ew_or1 (et_eqI (ev_cf1 (φ := φ_l_dip) (j := 0) (α := Int) (xs := well) (ys := (v_l_dip well (2 : Int)).2) (args := [.cell 0, En (α := Int) (2 : Int)]) (r := Enc.enc (α := Int) ((v_l_dip well (2 : Int)).1)) D_l_dip (hr.mono (by decide)) pass0 (ea_cons (ev_name (a := .cell 0) (i := 0)) (ea_cons (ev_int) (ea_nil))) ⟨well, (2 : Int), rfl, rfl, (((q60_ hp59_) hp57_) hp55_), rfl, rfl⟩ (fun k h => by simp at h) rfl) (ev_int))) (fun _ => rfl)))) (fun _ => rfl)) (fun _ => rfl))) (fun hp67_ => wss_fg (fg_of (by exact And.intro (Or.inr rfl) (And.intro (Or.inr rfl) (And.intro (Or.inl rfl) (And.intro (Or.inr rfl) (And.intro (Or.inr rfl) (And.intro (Or.inr rfl) (And.intro (Or.inl rfl) (And.intro (Or.inr rfl) (And.intro (Or.inl rfl) (And.intro (Or.inl rfl) (And.intro (Or.inl rfl) (True.intro))))))))))))) (l_line_6_w B D_l_dip D_l_one hr hB (cond (decide (begun < many)) (cond (!decide (free = [])) (cond (decide (held = [])) well ((v_l_dip well (2 : Int)).2)) well) well) line held locks many free (q68_ hp67_))) (fun hp78_ => wss_fg (fg_of (by exact And.intro (Or.inr rfl) (And.intro (Or.inr rfl) (And.intro (Or.inl rfl) (And.intro (Or.inr rfl) (And.intro (Or.inr rfl) (And.intro (Or.inr rfl) (And.intro (Or.inl rfl) (And.intro (Or.inl rfl) (And.intro (Or.inl rfl) (And.intro (Or.inl rfl) (And.intro (Or.inl rfl) (True.intro))))))))))))) (l_line_8_w B D_l_dip D_l_one hr hB (cond (decide (begun < many)) (cond (!decide (free = [])) (cond (decide (held = [])) well ((v_l_dip well (2 : Int)).2)) well) well) line held locks many (q79_ hp78_)))
def l_line_4 (well : List Int) (line : List (Int × Int)) (held : List Int) (locks : List Int) (many : Int) (free : List Int) : (List Int) × (List (Int × Int)) × (List Int) := l_line_5 well line held locks many free ((((line).filter (fun (z52 : Int × Int) => decide (z52.1 = (0 : Int)))).map (fun (z52 : Int × Int) => z52.1)).length : Int)
def l_line_4P (well : List Int) (line : List (Int × Int)) (held : List Int) (locks : List Int) (many : Int) (free : List Int) : Prop := ((line).length ≤ 100000) ∧ (l_line_5P well line held locks many free ((((line).filter (fun (z52 : Int × Int) => decide (z52.1 = (0 : Int)))).map (fun (z52 : Int × Int) => z52.1)).length : Int))
theorem l_line_4_w (well : List Int) (line : List (Int × Int)) (held : List Int) (locks : List Int) (many : Int) (free : List Int) (h : l_line_4P well line held locks many free) : WSs (X_l_line P w K mg base f cdv Ar outer s H E) G ⟨[some (.cell 0), some (En (α := List Int) locks), none, some (.cell 1), some (.cell 2), some (En (α := Int) many), none, some (En (α := List Int) free), none, none, none], [Cl (α := Int) well, Cl (α := Int × Int) line, Cl (α := Int) held]⟩ ((forB ((defBody s_l_line).getD 1 passS)).drop 1) (EndN (fun (v : (List Int) × (List (Int × Int)) × (List Int)) => ⟨[some (.cell 0), some (En (α := List Int) locks), none, some (.cell 1), some (.cell 2), some (En (α := Int) many), none, none, none, none, none], [Cl (α := Int) v.1, Cl (α := Int × Int) v.2.1, Cl (α := Int) v.2.2]⟩) (l_line_4 well line held locks many free)) := by
  obtain ⟨q53_, q80_⟩ := h
  exact wss_sn (sn_set (i := 9) sc_l_line.nd (ev_len (α := Int) (xs := ((line).filter (fun (z52 : Int × Int) => decide (z52.1 = (0 : Int)))).map (fun (z52 : Int × Int) => z52.1)) B.len (lc_any (α := Int × Int) (β := Int) (xs := line) (p := fun (z52 : Int × Int) => decide (z52.1 = (0 : Int))) (f := fun (z52 : Int × Int) => z52.1) (sl' := fun (z52 : Int × Int) => [some (.cell 0), some (En (α := List Int) locks), none, some (.cell 1), some (.cell 2), some (En (α := Int) many), none, some (En (α := List Int) free), some (En (α := Int) z52.2), none, some (En (α := Int) z52.1)]) [("deed", 10), ("lock", 8)] (lcm_pe rfl sc_l_line.nd (blkOk_by rfl)) (ei_cl (xs := line) (ev_name (a := .cell 1) (i := 3)) rfl) (fun _ _ => rfl) q53_ (fun _ _ _ _ _  z52 c52 => eg_tup (ds := [Enc.enc (α := Int) z52.1, Enc.enc (α := Int) z52.2]) rfl (egs_cons (eg_name (i := 10) sc_l_line.nd) (egs_cons (eg_name (i := 8) sc_l_line.nd) (egs_nil)))) (fun _ _ _ _ _  z52 c52 hm52 => ets_one (et_eqI (ev_name (a := En (α := Int) z52.1) (i := 10)) (ev_int))) (fun _ _ _ _ _  z52 c52 hm52 hp52 => ev_name (a := En (α := Int) z52.1) (i := 10))) (.inl (rdl (α := Int))))) (l_line_5_w B D_l_dip D_l_one hr hB well line held locks many free ((((line).filter (fun (z52 : Int × Int) => decide (z52.1 = (0 : Int)))).map (fun (z52 : Int × Int) => z52.1)).length : Int) q80_)
def l_line_3 (well : List Int) (line : List (Int × Int)) (held : List Int) (locks : List Int) (many : Int) : (List Int) × (List (Int × Int)) × (List Int) := l_line_4 well line held locks many (((locks).filter (fun (z50 : Int) => !decide (z50 ∈ held))).map (fun (z50 : Int) => z50))
def l_line_3P (well : List Int) (line : List (Int × Int)) (held : List Int) (locks : List Int) (many : Int) : Prop := ((locks).length ≤ 100000) ∧ (l_line_4P well line held locks many (((locks).filter (fun (z50 : Int) => !decide (z50 ∈ held))).map (fun (z50 : Int) => z50)))
theorem l_line_3_w (well : List Int) (line : List (Int × Int)) (held : List Int) (locks : List Int) (many : Int) (h : l_line_3P well line held locks many) : WSs (X_l_line P w K mg base f cdv Ar outer s H E) G ⟨[some (.cell 0), some (En (α := List Int) locks), none, some (.cell 1), some (.cell 2), some (En (α := Int) many), none, none, none, none, none], [Cl (α := Int) well, Cl (α := Int × Int) line, Cl (α := Int) held]⟩ (forB ((defBody s_l_line).getD 1 passS)) (EndN (fun (v : (List Int) × (List (Int × Int)) × (List Int)) => ⟨[some (.cell 0), some (En (α := List Int) locks), none, some (.cell 1), some (.cell 2), some (En (α := Int) many), none, none, none, none, none], [Cl (α := Int) v.1, Cl (α := Int × Int) v.2.1, Cl (α := Int) v.2.2]⟩) (l_line_3 well line held locks many)) := by
  obtain ⟨q51_, q81_⟩ := h
  exact wss_sn (sn_of_lc (i := 7) (lc_any (α := Int) (β := Int) (xs := locks) (p := fun (z50 : Int) => !decide (z50 ∈ held)) (f := fun (z50 : Int) => z50) (sl' := fun (z50 : Int) => [some (.cell 0), some (En (α := List Int) locks), none, some (.cell 1), some (.cell 2), some (En (α := Int) many), none, none, some (En (α := Int) z50), none, none]) [("lock", 8)] (lcm_set (i := 7) rfl sc_l_line.nd (blkOk_by rfl) rfl rfl (sw_true rfl rfl rfl (by decide +kernel))) (ei_of (es_lst (ev_name (a := En (α := List Int) locks) (i := 1)))) (fun _ _ => trivial) q51_ (fun _ _ _ _ _  z50 c50 => eg_name (i := 8) sc_l_line.nd) (fun _ _ _ _ _  z50 c50 hm50 => ets_one (et_nin (is := held) (ev_name (a := En (α := Int) z50) (i := 8)) (ev_name (a := .cell 2) (i := 4)) (.inl (rdc (α := Int) (xs := held) (k := 2))))) (fun _ _ _ _ _  z50 c50 hm50 hp50 => ev_name (a := En (α := Int) z50) (i := 8)))) (l_line_4_w B D_l_dip D_l_one hr hB well line held locks many (((locks).filter (fun (z50 : Int) => !decide (z50 ∈ held))).map (fun (z50 : Int) => z50)) q81_)
def l_line_10 (cell0 : List Int) (line : List (Int × Int)) (held : List Int) : (List (Int × Int)) × (List Int) := (line ++ ((held).map (fun (z82 : Int) => ((1 : Int), z82))), cell0)
def l_line_10P (cell0 : List Int) (line : List (Int × Int)) (held : List Int) : Prop := ((held).length ≤ 100000) ∧ ((line).length + ((held).map (fun (z82 : Int) => ((1 : Int), z82))).length ≤ 100000)
theorem l_line_10_w (cell0 : List Int) (line : List (Int × Int)) (held : List Int) (h : l_line_10P cell0 line held) : WSs (X_l_line P w K mg base f cdv Ar outer s H E) G ⟨[none, none, none, some (.cell 1), some (.cell 2), none, none, none, none, none, none], [Cl (α := Int) cell0, Cl (α := Int × Int) line, Cl (α := Int) held]⟩ ((defBody s_l_line).drop 2) (EndR R_l_line (l_line_10 cell0 line held)) := by
  obtain ⟨q83_, q84_⟩ := h
  exact wss_ret (EV.be (En (α := Tp (Int × Int)) (line ++ ((held).map (fun (z82 : Int) => ((1 : Int), z82))))) (ev_tupL (ds := List.map (Enc.enc (α := Int × Int)) (line ++ ((held).map (fun (z82 : Int) => ((1 : Int), z82))))) B.tuple (ev_cat (α := Int × Int) (xs := line) (ys := (held).map (fun (z82 : Int) => ((1 : Int), z82))) (ev_name (a := .cell 1) (i := 3)) (lc_all (α := Int) (β := Int × Int) (xs := held) (f := fun (z82 : Int) => ((1 : Int), z82)) (sl' := fun (z82 : Int) => [none, none, none, some (.cell 1), some (.cell 2), none, none, none, some (En (α := Int) z82), none, none]) [("lock", 8)] (lcm_pe rfl sc_l_line.nd (blkOk_by rfl)) (ei_cl (xs := held) (ev_name (a := .cell 2) (i := 4)) rfl) (fun _ _ => rfl) q83_ (fun _ _ _ _ _  z82 c82 => eg_name (i := 8) sc_l_line.nd) (fun _ _ _ _ _  z82 c82 hm82 => EV.be (En (α := Int × Int) ((1 : Int), z82)) (ev_tup (ds := [Enc.enc (α := Int) (1 : Int), Enc.enc (α := Int) z82]) (ea_cons (ev_int) (ea_cons (ev_name (a := En (α := Int) z82) (i := 8)) (ea_nil)))))) (rdmc (α := Int × Int) (k := 1)) (rdm (α := Int × Int)) q84_) ((rdl (α := Int × Int))))) (ret_dat1 rfl)
def l_line_2 (well : List Int) (line : List (Int × Int)) (held : List Int) (locks : List Int) (most : Int) (many : Int) : (List (Int × Int)) × (List Int) := (fun (v : (List Int) × (List (Int × Int)) × (List Int)) => l_line_10 v.1 v.2.1 v.2.2) ((rngL 0 (((4 : Int) * most) + (4 : Int)).toNat).foldl (fun (v : (List Int) × (List (Int × Int)) × (List Int)) (x : Int) => l_line_3 v.1 v.2.1 v.2.2 locks many) (well, line, held))
def l_line_2P (well : List Int) (line : List (Int × Int)) (held : List Int) (locks : List Int) (most : Int) (many : Int) : Prop := (RgOk (((4 : Int) * most) + (4 : Int))) ∧ (loopP (fun (v : (List Int) × (List (Int × Int)) × (List Int)) (x : Int) => l_line_3 v.1 v.2.1 v.2.2 locks many) (fun (v : (List Int) × (List (Int × Int)) × (List Int)) (x : Int) => l_line_3P v.1 v.2.1 v.2.2 locks many) (rngL 0 (((4 : Int) * most) + (4 : Int)).toNat) (well, line, held)) ∧ ((fun (v : (List Int) × (List (Int × Int)) × (List Int)) => l_line_10P v.1 v.2.1 v.2.2) ((rngL 0 (((4 : Int) * most) + (4 : Int)).toNat).foldl (fun (v : (List Int) × (List (Int × Int)) × (List Int)) (x : Int) => l_line_3 v.1 v.2.1 v.2.2 locks many) (well, line, held)))
theorem l_line_2_w (well : List Int) (line : List (Int × Int)) (held : List Int) (locks : List Int) (most : Int) (many : Int) (h : l_line_2P well line held locks most many) : WSs (X_l_line P w K mg base f cdv Ar outer s H E) G ⟨[some (.cell 0), some (En (α := List Int) locks), some (En (α := Int) most), some (.cell 1), some (.cell 2), some (En (α := Int) many), none, none, none, none, none], [Cl (α := Int) well, Cl (α := Int × Int) line, Cl (α := Int) held]⟩ ((defBody s_l_line).drop 1) (EndR R_l_line (l_line_2 well line held locks most many)) := by
  obtain ⟨q49_, q85_, q86_⟩ := h
  exact wss_forN (α := Int) (xs := rngL 0 (((4 : Int) * most) + (4 : Int)).toNat) (EndR R_l_line) (fun (v : (List Int) × (List (Int × Int)) × (List Int)) (x : Int) => l_line_3 v.1 v.2.1 v.2.2 locks many) (well, line, held) (fun (v : (List Int) × (List (Int × Int)) × (List Int)) => ⟨[some (.cell 0), some (En (α := List Int) locks), none, some (.cell 1), some (.cell 2), some (En (α := Int) many), none, none, none, none, none], [Cl (α := Int) v.1, Cl (α := Int × Int) v.2.1, Cl (α := Int) v.2.2]⟩) (fun (v : (List Int) × (List (Int × Int)) × (List Int)) => l_line_10 v.1 v.2.1 v.2.2) rfl PassesOwn.never rfl (es_rng1 B.range (ev_add (ev_mul (ev_int) (ev_name (a := En (α := Int) most) (i := 2)) (.inl (by decide))) (ev_int)) q49_) (fg_of (by exact And.intro (Or.inr rfl) (And.intro (Or.inr rfl) (And.intro (Or.inl rfl) (And.intro (Or.inr rfl) (And.intro (Or.inr rfl) (And.intro (Or.inr rfl) (And.intro (Or.inl rfl) (And.intro (Or.inl rfl) (And.intro (Or.inl rfl) (And.intro (Or.inl rfl) (And.intro (Or.inl rfl) (True.intro))))))))))))) (fun i x hx => ⟨_, _, eg_name (i := 6) sc_l_line.nd, wss_fg (fg_of (by exact And.intro (Or.inr rfl) (And.intro (Or.inr rfl) (And.intro (Or.inl rfl) (And.intro (Or.inr rfl) (And.intro (Or.inr rfl) (And.intro (Or.inr rfl) (And.intro (Or.inl rfl) (And.intro (Or.inl rfl) (And.intro (Or.inl rfl) (And.intro (Or.inl rfl) (And.intro (Or.inl rfl) (True.intro))))))))))))) (l_line_3_w B D_l_dip D_l_one hr hB (((((rngL 0 (((4 : Int) * most) + (4 : Int)).toNat)).take i).foldl (fun (v : (List Int) × (List (Int × Int)) × (List Int)) (x : Int) => l_line_3 v.1 v.2.1 v.2.2 locks many) (well, line, held)).1) (((((rngL 0 (((4 : Int) * most) + (4 : Int)).toNat)).take i).foldl (fun (v : (List Int) × (List (Int × Int)) × (List Int)) (x : Int) => l_line_3 v.1 v.2.1 v.2.2 locks many) (well, line, held)).2.1) (((((rngL 0 (((4 : Int) * most) + (4 : Int)).toNat)).take i).foldl (fun (v : (List Int) × (List (Int × Int)) × (List Int)) (x : Int) => l_line_3 v.1 v.2.1 v.2.2 locks many) (well, line, held)).2.2) locks many (q85_ i x hx))⟩) (wss_fg (fg_of (by exact And.intro (Or.inl rfl) (And.intro (Or.inl rfl) (And.intro (Or.inl rfl) (And.intro (Or.inr rfl) (And.intro (Or.inr rfl) (And.intro (Or.inl rfl) (And.intro (Or.inl rfl) (And.intro (Or.inl rfl) (And.intro (Or.inl rfl) (And.intro (Or.inl rfl) (And.intro (Or.inl rfl) (True.intro))))))))))))) (l_line_10_w B D_l_dip D_l_one hr hB (((rngL 0 (((4 : Int) * most) + (4 : Int)).toNat).foldl (fun (v : (List Int) × (List (Int × Int)) × (List Int)) (x : Int) => l_line_3 v.1 v.2.1 v.2.2 locks many) (well, line, held)).1) (((rngL 0 (((4 : Int) * most) + (4 : Int)).toNat).foldl (fun (v : (List Int) × (List (Int × Int)) × (List Int)) (x : Int) => l_line_3 v.1 v.2.1 v.2.2 locks many) (well, line, held)).2.1) (((rngL 0 (((4 : Int) * most) + (4 : Int)).toNat).foldl (fun (v : (List Int) × (List (Int × Int)) × (List Int)) (x : Int) => l_line_3 v.1 v.2.1 v.2.2 locks many) (well, line, held)).2.2) q86_))
def l_line_1 (well : List Int) (locks : List Int) (most : Int) : (List (Int × Int)) × (List Int) := l_line_2 ((v_l_dip well (most + (1 : Int))).2) [] [] locks most ((v_l_dip well (most + (1 : Int))).1)
def l_line_1P (well : List Int) (locks : List Int) (most : Int) : Prop := (P_l_dip well (most + (1 : Int))) ∧ (l_line_2P ((v_l_dip well (most + (1 : Int))).2) [] [] locks most ((v_l_dip well (most + (1 : Int))).1))
theorem l_line_1_w (well : List Int) (locks : List Int) (most : Int) (h : l_line_1P well locks most) : WSs (X_l_line P w K mg base f cdv Ar outer s H E) G ⟨[some (.cell 0), some (En (α := List Int) locks), some (En (α := Int) most), none, none, none, none, none, none, none, none], [Cl (α := Int) well]⟩ (defBody s_l_line) (EndR R_l_line (l_line_1 well locks most)) := by
  obtain ⟨q48_, q87_⟩ := h
  exact wss_sn (sn_tupC rfl (ea_cons (ev_lstC (as := []) ea_nil) (ea_cons (ev_lstC (as := []) ea_nil) (ea_cons (ev_cf1 (φ := φ_l_dip) (j := 0) (α := Int) (xs := well) (ys := (v_l_dip well (most + (1 : Int))).2) (args := [.cell 0, En (α := Int) (most + (1 : Int))]) (r := Enc.enc (α := Int) ((v_l_dip well (most + (1 : Int))).1)) D_l_dip (hr.mono (by decide)) pass0 (ea_cons (ev_name (a := .cell 0) (i := 0)) (ea_cons (ev_add (ev_name (a := En (α := Int) most) (i := 2)) (ev_int)) (ea_nil))) ⟨well, (most + (1 : Int)), rfl, rfl, q48_, rfl, rfl⟩ (fun k h => by simp at h) rfl) (ea_nil)))) (egs_cons (eg_name (i := 3) sc_l_line.nd) (egs_cons (eg_name (i := 4) sc_l_line.nd) (egs_cons (eg_name (i := 5) sc_l_line.nd) (egs_nil))))) (l_line_2_w B D_l_dip D_l_one hr hB ((v_l_dip well (most + (1 : Int))).2) [] [] locks most ((v_l_dip well (most + (1 : Int))).1) q87_)
def v_l_line (well : List Int) (locks : List Int) (most : Int) : (List (Int × Int)) × (List Int) := l_line_1 well locks most
def P_l_line (well : List Int) (locks : List Int) (most : Int) : Prop := l_line_1P well locks most
def φ_l_line : Ct := fun args cs r cs' => ∃ (well : List Int) (locks : List Int) (most : Int), args = [.cell 0, En (α := List Int) locks, En (α := Int) most] ∧ cs = [Cl (α := Int) well] ∧ P_l_line well locks most ∧ r = En (α := Tp (Int × Int)) ((v_l_line well locks most).1) ∧ cs' = [Cl (α := Int) (v_l_line well locks most).2]
omit hr hB in
theorem df_l_line (T : Top K mg "_law_line" s_l_line ["well", "locks", "most"]) : Df P w K mg base CX0 (2 + 1) "_law_line" ["well", "locks", "most"] φ_l_line := by
  refine Df.mk' T sc_l_line (fun args cs r cs' ⟨well, locks, most, e1, e2, hP, e3, e4⟩ => by subst e1 e2 e3 e4; exact ⟨rfl, by first | exact Nat.le_refl _ | exact Nat.zero_le _⟩) (fun f cdv Ar outer s H E G args cs r cs' hr ⟨well, locks, most, e1, e2, hP, e3, e4⟩ hB => ?_)
  subst e1 e2 e3 e4
  exact l_line_1_w B D_l_dip D_l_one hr hB well locks most hP
end
/-! ### _law_windows -/
section
abbrev s_l_windows : Stmt := topS 28
abbrev N_l_windows : List Str := ["line", "found", "place", "deed", "lock", "at"]
theorem sc_l_windows : FnScope N_l_windows ["line"] (defScope s_l_windows) := ⟨rfl, rfl, rfl, by decide +kernel, rfl, by decide +kernel, by decide +kernel⟩
abbrev X_l_windows (P : Program) (w : World) (K : PySem.W.Frag) (mg : Str → Option Value) (base : Heap) (f : Addr) (cdv : Value) (Ar : Around) (outer : List Env) (s : Shared) (H : Hp) (E : XK) : Cx := (cxOf CX0 P w K mg base N_l_windows "_law_windows" (defScope s_l_windows) f cdv Ar outer s H E).nox
variable {P : Program} {w : World} {K : PySem.W.Frag} {mg : Str → Option Value} {base : Heap} {f : Addr} {cdv : Value} {Ar : Around} {outer : List Env} {s : Shared} {H : Hp} {E : XK} {G : Gh}
variable (B : Bi mg)  (hr : Room 0 (Ar.deeper (PyProof.Rows.envOfC "_law_windows" (defScope s_l_windows) s.heap.objs.size f cdv))) (hB : G.B.length = 0) 
include B  hr hB 
abbrev R_l_windows : (List (Int × Int × Int)) → A → Ms → Prop := fun (v : List (Int × Int × Int)) (a : A) (S : Ms) => RetOk a S (En (α := Tp (T3 Int Int Int)) v) []
def l_windows_5 (found : List (Int × Int × Int)) (line : List (Int × Int)) (place : Int) (lock : Int) : (List (Int × Int × Int)) := found ++ [(lock, place, gI (((rngL place ((line.length : Int) - place).toNat).filter (fun (z92 : Int) => decide ((gI line z92) = ((1 : Int), lock)))).map (fun (z92 : Int) => z92)) (0 : Int))]
def l_windows_5P (found : List (Int × Int × Int)) (line : List (Int × Int)) (place : Int) (lock : Int) : Prop := (RgOk place) ∧ (RgOk (line.length : Int)) ∧ (∀ z92 ∈ (rngL place ((line.length : Int) - place).toNat), (InR z92 (line).length)) ∧ ((rngL place ((line.length : Int) - place).toNat).length ≤ 100000) ∧ (InR (0 : Int) (((rngL place ((line.length : Int) - place).toNat).filter (fun (z92 : Int) => decide ((gI line z92) = ((1 : Int), lock)))).map (fun (z92 : Int) => z92)).length) ∧ ((found).length < 100000)
theorem l_windows_5_w (found : List (Int × Int × Int)) (line : List (Int × Int)) (place : Int) (lock : Int) (h : l_windows_5P found line place lock) : WSs (X_l_windows P w K mg base f cdv Ar outer s H E) G ⟨[some (En (α := Tp (Int × Int)) line), some (.cell 0), some (En (α := Int) place), none, some (En (α := Int) lock), none], [Cl (α := T3 Int Int Int) found]⟩ (ifA ((forB ((defBody s_l_windows).getD 1 passS)).getD 1 passS)) (Thn (X_l_windows P w K mg base f cdv Ar outer s H E) G ((forB ((defBody s_l_windows).getD 1 passS)).drop 2) (EndN (fun (v : (List (Int × Int × Int))) => ⟨[some (En (α := Tp (Int × Int)) line), some (.cell 0), none, none, none, none], [Cl (α := T3 Int Int Int) v]⟩)) (l_windows_5 found line place lock)) := by
  obtain ⟨q90_, q91_, q94_, q95_, q96_, q97_⟩ := h
  exact wss_sn (sn_expr (ev_append (α := T3 Int Int Int) (xs0 := found) (xs := found) (u := (lock, place, gI (((rngL place ((line.length : Int) - place).toNat).filter (fun (z92 : Int) => decide ((gI line z92) = ((1 : Int), lock)))).map (fun (z92 : Int) => z92)) (0 : Int))) (ev_name (a := .cell 0) (i := 1)) (EV.be (En (α := T3 Int Int Int) (lock, place, gI (((rngL place ((line.length : Int) - place).toNat).filter (fun (z92 : Int) => decide ((gI line z92) = ((1 : Int), lock)))).map (fun (z92 : Int) => z92)) (0 : Int))) (ev_tup (ds := [Enc.enc (α := Int) lock, Enc.enc (α := Int) place, Enc.enc (α := Int) (gI (((rngL place ((line.length : Int) - place).toNat).filter (fun (z92 : Int) => decide ((gI line z92) = ((1 : Int), lock)))).map (fun (z92 : Int) => z92)) (0 : Int))]) (ea_cons (ev_name (a := En (α := Int) lock) (i := 4)) (ea_cons (ev_name (a := En (α := Int) place) (i := 2)) (ea_cons (ev_ixL (α := Int) (xs := ((rngL place ((line.length : Int) - place).toNat).filter (fun (z92 : Int) => decide ((gI line z92) = ((1 : Int), lock)))).map (fun (z92 : Int) => z92)) (lc_any (α := Int) (β := Int) (xs := rngL place ((line.length : Int) - place).toNat) (p := fun (z92 : Int) => decide ((gI line z92) = ((1 : Int), lock))) (f := fun (z92 : Int) => z92) (sl' := fun (z92 : Int) => [some (En (α := Tp (Int × Int)) line), some (.cell 0), some (En (α := Int) place), none, some (En (α := Int) lock), some (En (α := Int) z92)]) [("at", 5)] (lcm_pe rfl sc_l_windows.nd (blkOk_by rfl)) (ei_of (es_rng2 B.range (ev_name (a := En (α := Int) place) (i := 2)) (ev_len (α := Int × Int) (xs := line) B.len (ev_name (a := En (α := Tp (Int × Int)) line) (i := 0)) (.inr (rdt (α := Int × Int)))) q90_ q91_)) (fun _ _ => trivial) q95_ (fun _ _ _ _ _  z92 c92 => eg_name (i := 5) sc_l_windows.nd) (fun _ _ _ _ _  z92 c92 hm92 => ets_one (et_eqD (α := Int × Int) (u := gI line z92) (w := ((1 : Int), lock)) (hr.mono (by decide) : Room 0 _).units (ev_ixT (α := Int × Int) (xs := line) (ev_name (a := En (α := Tp (Int × Int)) line) (i := 0)) (ev_name (a := En (α := Int) z92) (i := 5)) ((rdt (α := Int × Int))) (q94_ z92 hm92)) (EV.be (En (α := Int × Int) ((1 : Int), lock)) (ev_tup (ds := [Enc.enc (α := Int) (1 : Int), Enc.enc (α := Int) lock]) (ea_cons (ev_int) (ea_cons (ev_name (a := En (α := Int) lock) (i := 4)) (ea_nil))))))) (fun _ _ _ _ _  z92 c92 hm92 hp92 => ev_name (a := En (α := Int) z92) (i := 5))) (ev_int) ((rdl (α := Int))) q96_) (ea_nil)))))) rfl rfl q97_)) (end_thn (S' := ⟨[some (En (α := Tp (Int × Int)) line), some (.cell 0), none, none, none, none], [Cl (α := T3 Int Int Int) (found ++ [(lock, place, gI (((rngL place ((line.length : Int) - place).toNat).filter (fun (z92 : Int) => decide ((gI line z92) = ((1 : Int), lock)))).map (fun (z92 : Int) => z92)) (0 : Int))])]⟩) (fg_of (by exact And.intro (Or.inr rfl) (And.intro (Or.inr rfl) (And.intro (Or.inl rfl) (And.intro (Or.inl rfl) (And.intro (Or.inl rfl) (And.intro (Or.inl rfl) (True.intro)))))))) (end_nx (fg_of (by exact And.intro (Or.inr rfl) (And.intro (Or.inr rfl) (And.intro (Or.inl rfl) (And.intro (Or.inl rfl) (And.intro (Or.inl rfl) (And.intro (Or.inl rfl) (True.intro))))))))))
def l_windows_4 (found : List (Int × Int × Int)) (line : List (Int × Int)) (place : Int) (deed : Int) (lock : Int) : (List (Int × Int × Int)) := cond (decide (deed = (0 : Int))) (l_windows_5 found line place lock) found
def l_windows_4P (found : List (Int × Int × Int)) (line : List (Int × Int)) (place : Int) (deed : Int) (lock : Int) : Prop := ((decide (deed = (0 : Int))) = true → (l_windows_5P found line place lock))
theorem l_windows_4_w (found : List (Int × Int × Int)) (line : List (Int × Int)) (place : Int) (deed : Int) (lock : Int) (h : l_windows_4P found line place deed lock) : WSs (X_l_windows P w K mg base f cdv Ar outer s H E) G ⟨[some (En (α := Tp (Int × Int)) line), some (.cell 0), some (En (α := Int) place), some (En (α := Int) deed), some (En (α := Int) lock), none], [Cl (α := T3 Int Int Int) found]⟩ ((forB ((defBody s_l_windows).getD 1 passS)).drop 1) (EndN (fun (v : (List (Int × Int × Int))) => ⟨[some (En (α := Tp (Int × Int)) line), some (.cell 0), none, none, none, none], [Cl (α := T3 Int Int Int) v]⟩) (l_windows_4 found line place deed lock)) := by
  have q100_ := h
  exact wss_ifM (EndN (fun (v : (List (Int × Int × Int))) => ⟨[some (En (α := Tp (Int × Int)) line), some (.cell 0), none, none, none, none], [Cl (α := T3 Int Int Int) v]⟩)) (p := decide (deed = (0 : Int))) (m1 := l_windows_5 found line place lock) (m2 := found) rfl (et_eqI (ev_name (a := En (α := Int) deed) (i := 3)) (ev_int)) (fun hp99_ => wss_fg (fg_of (by exact And.intro (Or.inr rfl) (And.intro (Or.inr rfl) (And.intro (Or.inr rfl) (And.intro (Or.inl rfl) (And.intro (Or.inr rfl) (And.intro (Or.inl rfl) (True.intro)))))))) (l_windows_5_w B hr hB found line place lock (q100_ hp99_))) (fun hp101_ => end_thn (S' := ⟨[some (En (α := Tp (Int × Int)) line), some (.cell 0), none, none, none, none], [Cl (α := T3 Int Int Int) found]⟩) (fg_of (by exact And.intro (Or.inr rfl) (And.intro (Or.inr rfl) (And.intro (Or.inl rfl) (And.intro (Or.inl rfl) (And.intro (Or.inl rfl) (And.intro (Or.inl rfl) (True.intro)))))))) (end_nx (fg_of (by exact And.intro (Or.inr rfl) (And.intro (Or.inr rfl) (And.intro (Or.inl rfl) (And.intro (Or.inl rfl) (And.intro (Or.inl rfl) (And.intro (Or.inl rfl) (True.intro))))))))))
def l_windows_3 (found : List (Int × Int × Int)) (line : List (Int × Int)) (place : Int) : (List (Int × Int × Int)) := l_windows_4 found line place ((gI line place).1) ((gI line place).2)
def l_windows_3P (found : List (Int × Int × Int)) (line : List (Int × Int)) (place : Int) : Prop := (InR place (line).length) ∧ (l_windows_4P found line place ((gI line place).1) ((gI line place).2))
theorem l_windows_3_w (found : List (Int × Int × Int)) (line : List (Int × Int)) (place : Int) (h : l_windows_3P found line place) : WSs (X_l_windows P w K mg base f cdv Ar outer s H E) G ⟨[some (En (α := Tp (Int × Int)) line), some (.cell 0), some (En (α := Int) place), none, none, none], [Cl (α := T3 Int Int Int) found]⟩ (forB ((defBody s_l_windows).getD 1 passS)) (EndN (fun (v : (List (Int × Int × Int))) => ⟨[some (En (α := Tp (Int × Int)) line), some (.cell 0), none, none, none, none], [Cl (α := T3 Int Int Int) v]⟩) (l_windows_3 found line place)) := by
  obtain ⟨q89_, q102_⟩ := h
  exact wss_sn (sn_asg (ev_ixT (α := Int × Int) (xs := line) (ev_name (a := En (α := Tp (Int × Int)) line) (i := 0)) (ev_name (a := En (α := Int) place) (i := 2)) ((rdt (α := Int × Int))) q89_) (eg_tup (ds := [Enc.enc (α := Int) ((gI line place).1), Enc.enc (α := Int) ((gI line place).2)]) rfl (egs_cons (eg_name (i := 3) sc_l_windows.nd) (egs_cons (eg_name (i := 4) sc_l_windows.nd) (egs_nil))))) (l_windows_4_w B hr hB found line place ((gI line place).1) ((gI line place).2) q102_)
def l_windows_6 (found : List (Int × Int × Int)) : List (Int × Int × Int) := found
def l_windows_6P (found : List (Int × Int × Int)) : Prop := True
theorem l_windows_6_w (found : List (Int × Int × Int)) (h : l_windows_6P found) : WSs (X_l_windows P w K mg base f cdv Ar outer s H E) G ⟨[none, some (.cell 0), none, none, none, none], [Cl (α := T3 Int Int Int) found]⟩ ((defBody s_l_windows).drop 2) (EndR R_l_windows (l_windows_6 found)) := by
  exact wss_ret (EV.be (En (α := Tp (T3 Int Int Int)) found) (ev_tupL (ds := List.map (Enc.enc (α := T3 Int Int Int)) found) B.tuple (ev_name (a := .cell 0) (i := 1)) ((rdc (α := T3 Int Int Int) (xs := found) (k := 0))))) (ret_dat)
def l_windows_2 (found : List (Int × Int × Int)) (line : List (Int × Int)) : List (Int × Int × Int) := (fun (v : (List (Int × Int × Int))) => l_windows_6 v) ((rngL 0 ((line.length : Int)).toNat).foldl (fun (v : (List (Int × Int × Int))) (x : Int) => l_windows_3 v line x) found)
def l_windows_2P (found : List (Int × Int × Int)) (line : List (Int × Int)) : Prop := (RgOk (line.length : Int)) ∧ (loopP (fun (v : (List (Int × Int × Int))) (x : Int) => l_windows_3 v line x) (fun (v : (List (Int × Int × Int))) (x : Int) => l_windows_3P v line x) (rngL 0 ((line.length : Int)).toNat) found) ∧ ((fun (v : (List (Int × Int × Int))) => l_windows_6P v) ((rngL 0 ((line.length : Int)).toNat).foldl (fun (v : (List (Int × Int × Int))) (x : Int) => l_windows_3 v line x) found))
theorem l_windows_2_w (found : List (Int × Int × Int)) (line : List (Int × Int)) (h : l_windows_2P found line) : WSs (X_l_windows P w K mg base f cdv Ar outer s H E) G ⟨[some (En (α := Tp (Int × Int)) line), some (.cell 0), none, none, none, none], [Cl (α := T3 Int Int Int) found]⟩ ((defBody s_l_windows).drop 1) (EndR R_l_windows (l_windows_2 found line)) := by
  obtain ⟨q88_, q103_, q104_⟩ := h
  exact wss_forN (α := Int) (xs := rngL 0 ((line.length : Int)).toNat) (EndR R_l_windows) (fun (v : (List (Int × Int × Int))) (x : Int) => l_windows_3 v line x) found (fun (v : (List (Int × Int × Int))) => ⟨[some (En (α := Tp (Int × Int)) line), some (.cell 0), none, none, none, none], [Cl (α := T3 Int Int Int) v]⟩) (fun (v : (List (Int × Int × Int))) => l_windows_6 v) rfl PassesOwn.never rfl (es_rng1 B.range (ev_len (α := Int × Int) (xs := line) B.len (ev_name (a := En (α := Tp (Int × Int)) line) (i := 0)) (.inr (rdt (α := Int × Int)))) q88_) (fg_of (by exact And.intro (Or.inr rfl) (And.intro (Or.inr rfl) (And.intro (Or.inl rfl) (And.intro (Or.inl rfl) (And.intro (Or.inl rfl) (And.intro (Or.inl rfl) (True.intro)))))))) (fun i x hx => ⟨_, _, eg_name (i := 2) sc_l_windows.nd, l_windows_3_w B hr hB ((((rngL 0 ((line.length : Int)).toNat)).take i).foldl (fun (v : (List (Int × Int × Int))) (x : Int) => l_windows_3 v line x) found) line x (q103_ i x hx)⟩) (wss_fg (fg_of (by exact And.intro (Or.inl rfl) (And.intro (Or.inr rfl) (And.intro (Or.inl rfl) (And.intro (Or.inl rfl) (And.intro (Or.inl rfl) (And.intro (Or.inl rfl) (True.intro)))))))) (l_windows_6_w B hr hB ((rngL 0 ((line.length : Int)).toNat).foldl (fun (v : (List (Int × Int × Int))) (x : Int) => l_windows_3 v line x) found) q104_))
def l_windows_1 (line : List (Int × Int)) : List (Int × Int × Int) := l_windows_2 [] line
def l_windows_1P (line : List (Int × Int)) : Prop := (l_windows_2P [] line)
theorem l_windows_1_w (line : List (Int × Int)) (h : l_windows_1P line) : WSs (X_l_windows P w K mg base f cdv Ar outer s H E) G ⟨[some (En (α := Tp (Int × Int)) line), none, none, none, none, none], []⟩ (defBody s_l_windows) (EndR R_l_windows (l_windows_1 line)) := by
  have q105_ := h
  exact wss_sn (sn_set (i := 1) sc_l_windows.nd (ev_lstC (as := []) ea_nil)) (l_windows_2_w B hr hB [] line q105_)
def v_l_windows (line : List (Int × Int)) : List (Int × Int × Int) := l_windows_1 line
def P_l_windows (line : List (Int × Int)) : Prop := l_windows_1P line
def φ_l_windows : Ct := fun args cs r cs' => ∃ (line : List (Int × Int)), args = [En (α := Tp (Int × Int)) line] ∧ cs = [] ∧ P_l_windows line ∧ r = En (α := Tp (T3 Int Int Int)) (v_l_windows line) ∧ cs' = []
omit hr hB in
theorem df_l_windows (T : Top K mg "_law_windows" s_l_windows ["line"]) : Df P w K mg base CX0 (0 + 1) "_law_windows" ["line"] φ_l_windows := by
  refine Df.mk' T sc_l_windows (fun args cs r cs' ⟨line, e1, e2, hP, e3, e4⟩ => by subst e1 e2 e3 e4; exact ⟨rfl, by first | exact Nat.le_refl _ | exact Nat.zero_le _⟩) (fun f cdv Ar outer s H E G args cs r cs' hr ⟨line, e1, e2, hP, e3, e4⟩ hB => ?_)
  subst e1 e2 e3 e4
  exact l_windows_1_w B hr hB line hP
end
/-! ### _law_moments_by -/
section
abbrev s_l_moments_by : Stmt := topS 29
abbrev N_l_moments_by : List Str := ["locks", "heads", "every", "sizes", "head", "ends", "i", "size", "j"]
theorem sc_l_moments_by : FnScope N_l_moments_by ["locks", "heads"] (defScope s_l_moments_by) := ⟨rfl, rfl, rfl, by decide +kernel, rfl, by decide +kernel, by decide +kernel⟩
abbrev X_l_moments_by (P : Program) (w : World) (K : PySem.W.Frag) (mg : Str → Option Value) (base : Heap) (f : Addr) (cdv : Value) (Ar : Around) (outer : List Env) (s : Shared) (H : Hp) (E : XK) : Cx := (cxOf CX0 P w K mg base N_l_moments_by "_law_moments_by" (defScope s_l_moments_by) f cdv Ar outer s H E).nox
variable {P : Program} {w : World} {K : PySem.W.Frag} {mg : Str → Option Value} {base : Heap} {f : Addr} {cdv : Value} {Ar : Around} {outer : List Env} {s : Shared} {H : Hp} {E : XK} {G : Gh}
variable (B : Bi mg)  (hr : Room 0 (Ar.deeper (PyProof.Rows.envOfC "_law_moments_by" (defScope s_l_moments_by) s.heap.objs.size f cdv))) (hB : G.B.length = 0) 
include B  hr hB 
abbrev R_l_moments_by : (List (Int × Int × Int)) → A → Ms → Prop := fun (v : List (Int × Int × Int)) (a : A) (S : Ms) => RetOk a S (En (α := Tp (T3 Int Int Int)) v) []
def l_moments_by_5 (ends : List Int) (locks : List Int) (heads : List (List Int)) (every : List Int) (sizes : List Int) (i_ : Int) : (List Int) := ends ++ [((((sizes).filter (fun (z110 : Int) => !((((heads).filter (fun (z111 : List Int) => decide ((z111.length : Int) = z110))).map (fun (z111 : List Int) => decide (i_ ∈ z111))).any id))).map (fun (z110 : Int) => z110)).length : Int) - (1 : Int)]
def l_moments_by_5P (ends : List Int) (locks : List Int) (heads : List (List Int)) (every : List Int) (sizes : List Int) (i_ : Int) : Prop := (∀ z110 ∈ sizes, ((heads).length ≤ 100000)) ∧ ((sizes).length ≤ 100000) ∧ ((ends).length < 100000)
theorem l_moments_by_5_w (ends : List Int) (locks : List Int) (heads : List (List Int)) (every : List Int) (sizes : List Int) (i_ : Int) (h : l_moments_by_5P ends locks heads every sizes i_) : WSs (X_l_moments_by P w K mg base f cdv Ar outer s H E) G ⟨[some (En (α := List Int) locks), some (En (α := List (List Int)) heads), some (En (α := List Int) every), some (En (α := List Int) sizes), none, some (.cell 0), some (En (α := Int) i_), none, none], [Cl (α := Int) ends]⟩ (forB ((defBody s_l_moments_by).getD 3 passS)) (EndN (fun (v : (List Int)) => ⟨[some (En (α := List Int) locks), some (En (α := List (List Int)) heads), some (En (α := List Int) every), some (En (α := List Int) sizes), none, some (.cell 0), none, none, none], [Cl (α := Int) v]⟩) (l_moments_by_5 ends locks heads every sizes i_)) := by
  obtain ⟨q113_, q114_, q115_⟩ := h
  exact wss_sn (sn_expr (ev_append (α := Int) (xs0 := ends) (xs := ends) (u := ((((sizes).filter (fun (z110 : Int) => !((((heads).filter (fun (z111 : List Int) => decide ((z111.length : Int) = z110))).map (fun (z111 : List Int) => decide (i_ ∈ z111))).any id))).map (fun (z110 : Int) => z110)).length : Int) - (1 : Int)) (ev_name (a := .cell 0) (i := 5)) (ev_sub (ev_len (α := Int) (xs := ((sizes).filter (fun (z110 : Int) => !((((heads).filter (fun (z111 : List Int) => decide ((z111.length : Int) = z110))).map (fun (z111 : List Int) => decide (i_ ∈ z111))).any id))).map (fun (z110 : Int) => z110)) B.len (lc_any (α := Int) (β := Int) (xs := sizes) (p := fun (z110 : Int) => !((((heads).filter (fun (z111 : List Int) => decide ((z111.length : Int) = z110))).map (fun (z111 : List Int) => decide (i_ ∈ z111))).any id)) (f := fun (z110 : Int) => z110) (sl' := fun (z110 : Int) => [some (En (α := List Int) locks), some (En (α := List (List Int)) heads), some (En (α := List Int) every), some (En (α := List Int) sizes), none, some (.cell 0), some (En (α := Int) i_), some (En (α := Int) z110), none]) [("size", 7)] (lcm_pe rfl sc_l_moments_by.nd (blkOk_by rfl)) (ei_of (es_lst (ev_name (a := En (α := List Int) sizes) (i := 3)))) (fun _ _ => trivial) q114_ (fun _ _ _ _ _  z110 c110 => eg_name (i := 7) sc_l_moments_by.nd) (fun _ _ _ _ _  z110 c110 hm110 => ets_one (et_not (et_B (ev_any (bs := ((heads).filter (fun (z111 : List Int) => decide ((z111.length : Int) = z110))).map (fun (z111 : List Int) => decide (i_ ∈ z111))) rfl B.any (lc_any (α := List Int) (β := Bool) (xs := heads) (p := fun (z111 : List Int) => decide ((z111.length : Int) = z110)) (f := fun (z111 : List Int) => decide (i_ ∈ z111)) (sl' := fun (z111 : List Int) => [some (En (α := List Int) locks), some (En (α := List (List Int)) heads), some (En (α := List Int) every), some (En (α := List Int) sizes), some (En (α := List Int) z111), some (.cell 0), some (En (α := Int) i_), some (En (α := Int) z110), none]) [("head", 4)] (lcm_pe rfl sc_l_moments_by.nd (blkOk_by rfl)) (ei_of (es_lst (ev_name (a := En (α := List (List Int)) heads) (i := 1)))) (fun _ _ => trivial) (q113_ z110 hm110) (fun _ _ _ _ _  z111 c111 => eg_name (i := 4) sc_l_moments_by.nd) (fun _ _ _ _ _  z111 c111 hm111 => ets_one (et_eqI (ev_len (α := Int) (xs := z111) B.len (ev_name (a := En (α := List Int) z111) (i := 4)) (.inl (rdl (α := Int)))) (ev_name (a := En (α := Int) z110) (i := 7)))) (fun _ _ _ _ _  z111 c111 hm111 hp111 => ev_in (is := z111) (ev_name (a := En (α := Int) i_) (i := 6)) (ev_name (a := En (α := List Int) z111) (i := 4)) (.inl (rdl (α := Int))))) (rdl (α := Bool)))))) (fun _ _ _ _ _  z110 c110 hm110 hp110 => ev_name (a := En (α := Int) z110) (i := 7))) (.inl (rdl (α := Int)))) (ev_int)) rfl rfl q115_)) (end_nx (fg_of (by exact And.intro (Or.inr rfl) (And.intro (Or.inr rfl) (And.intro (Or.inr rfl) (And.intro (Or.inr rfl) (And.intro (Or.inl rfl) (And.intro (Or.inr rfl) (And.intro (Or.inl rfl) (And.intro (Or.inl rfl) (And.intro (Or.inl rfl) (True.intro))))))))))))
def l_moments_by_6 (ends : List Int) (locks : List Int) (heads : List (List Int)) (every : List Int) (sizes : List Int) : List (Int × Int × Int) := (every).map (fun (z116 : Int) => (gI locks z116, (List.idxOf ((gI heads z116).length : Int) sizes : Int), gI ends z116))
def l_moments_by_6P (ends : List Int) (locks : List Int) (heads : List (List Int)) (every : List Int) (sizes : List Int) : Prop := (∀ z116 ∈ every, (InR z116 (locks).length) ∧ (InR z116 (heads).length) ∧ (((gI heads z116).length : Int) ∈ sizes) ∧ (InR z116 (ends).length)) ∧ ((every).length ≤ 100000)
theorem l_moments_by_6_w (ends : List Int) (locks : List Int) (heads : List (List Int)) (every : List Int) (sizes : List Int) (h : l_moments_by_6P ends locks heads every sizes) : WSs (X_l_moments_by P w K mg base f cdv Ar outer s H E) G ⟨[some (En (α := List Int) locks), some (En (α := List (List Int)) heads), some (En (α := List Int) every), some (En (α := List Int) sizes), none, some (.cell 0), none, none, none], [Cl (α := Int) ends]⟩ ((defBody s_l_moments_by).drop 4) (EndR R_l_moments_by (l_moments_by_6 ends locks heads every sizes)) := by
  obtain ⟨q121_, q122_⟩ := h
  exact wss_ret (EV.be (En (α := Tp (T3 Int Int Int)) ((every).map (fun (z116 : Int) => (gI locks z116, (List.idxOf ((gI heads z116).length : Int) sizes : Int), gI ends z116)))) (ev_tupL (ds := List.map (Enc.enc (α := T3 Int Int Int)) ((every).map (fun (z116 : Int) => (gI locks z116, (List.idxOf ((gI heads z116).length : Int) sizes : Int), gI ends z116)))) B.tuple (lc_all (α := Int) (β := T3 Int Int Int) (xs := every) (f := fun (z116 : Int) => (gI locks z116, (List.idxOf ((gI heads z116).length : Int) sizes : Int), gI ends z116)) (sl' := fun (z116 : Int) => [some (En (α := List Int) locks), some (En (α := List (List Int)) heads), some (En (α := List Int) every), some (En (α := List Int) sizes), none, some (.cell 0), none, none, some (En (α := Int) z116)]) [("j", 8)] (lcm_pe rfl sc_l_moments_by.nd (blkOk_by rfl)) (ei_of (es_lst (ev_name (a := En (α := List Int) every) (i := 2)))) (fun _ _ => trivial) q122_ (fun _ _ _ _ _  z116 c116 => eg_name (i := 8) sc_l_moments_by.nd) (fun _ _ _ _ _  z116 c116 hm116 => EV.be (En (α := T3 Int Int Int) (gI locks z116, (List.idxOf ((gI heads z116).length : Int) sizes : Int), gI ends z116)) (ev_tup (ds := [Enc.enc (α := Int) (gI locks z116), Enc.enc (α := Int) (List.idxOf ((gI heads z116).length : Int) sizes : Int), Enc.enc (α := Int) (gI ends z116)]) (ea_cons (ev_ixL (α := Int) (xs := locks) (ev_name (a := En (α := List Int) locks) (i := 0)) (ev_name (a := En (α := Int) z116) (i := 8)) ((rdl (α := Int))) (q121_ z116 hm116).1) (ea_cons (ev_index (is := sizes) (i := ((gI heads z116).length : Int)) (ev_name (a := En (α := List Int) sizes) (i := 3)) (ev_len (α := Int) (xs := gI heads z116) B.len (ev_ixL (α := List Int) (xs := heads) (ev_name (a := En (α := List (List Int)) heads) (i := 1)) (ev_name (a := En (α := Int) z116) (i := 8)) ((rdl (α := List Int))) (q121_ z116 hm116).2.1) (.inl (rdl (α := Int)))) ((rdl (α := Int))) (q121_ z116 hm116).2.2.1) (ea_cons (ev_ixL (α := Int) (xs := ends) (ev_name (a := .cell 0) (i := 5)) (ev_name (a := En (α := Int) z116) (i := 8)) ((rdc (α := Int) (xs := ends) (k := 0))) (q121_ z116 hm116).2.2.2) (ea_nil))))))) ((rdl (α := T3 Int Int Int))))) (ret_dat)
def l_moments_by_4 (ends : List Int) (locks : List Int) (heads : List (List Int)) (every : List Int) (sizes : List Int) : List (Int × Int × Int) := (fun (v : (List Int)) => l_moments_by_6 v locks heads every sizes) ((every).foldl (fun (v : (List Int)) (x : Int) => l_moments_by_5 v locks heads every sizes x) ends)
def l_moments_by_4P (ends : List Int) (locks : List Int) (heads : List (List Int)) (every : List Int) (sizes : List Int) : Prop := (loopP (fun (v : (List Int)) (x : Int) => l_moments_by_5 v locks heads every sizes x) (fun (v : (List Int)) (x : Int) => l_moments_by_5P v locks heads every sizes x) every ends) ∧ ((fun (v : (List Int)) => l_moments_by_6P v locks heads every sizes) ((every).foldl (fun (v : (List Int)) (x : Int) => l_moments_by_5 v locks heads every sizes x) ends))
theorem l_moments_by_4_w (ends : List Int) (locks : List Int) (heads : List (List Int)) (every : List Int) (sizes : List Int) (h : l_moments_by_4P ends locks heads every sizes) : WSs (X_l_moments_by P w K mg base f cdv Ar outer s H E) G ⟨[some (En (α := List Int) locks), some (En (α := List (List Int)) heads), some (En (α := List Int) every), some (En (α := List Int) sizes), none, some (.cell 0), none, none, none], [Cl (α := Int) ends]⟩ ((defBody s_l_moments_by).drop 3) (EndR R_l_moments_by (l_moments_by_4 ends locks heads every sizes)) := by
  obtain ⟨q123_, q124_⟩ := h
  exact wss_forN (α := Int) (xs := every) (EndR R_l_moments_by) (fun (v : (List Int)) (x : Int) => l_moments_by_5 v locks heads every sizes x) ends (fun (v : (List Int)) => ⟨[some (En (α := List Int) locks), some (En (α := List (List Int)) heads), some (En (α := List Int) every), some (En (α := List Int) sizes), none, some (.cell 0), none, none, none], [Cl (α := Int) v]⟩) (fun (v : (List Int)) => l_moments_by_6 v locks heads every sizes) rfl PassesOwn.never rfl (es_lst (ev_name (a := En (α := List Int) every) (i := 2))) (fg_of (by exact And.intro (Or.inr rfl) (And.intro (Or.inr rfl) (And.intro (Or.inr rfl) (And.intro (Or.inr rfl) (And.intro (Or.inl rfl) (And.intro (Or.inr rfl) (And.intro (Or.inl rfl) (And.intro (Or.inl rfl) (And.intro (Or.inl rfl) (True.intro))))))))))) (fun i x hx => ⟨_, _, eg_name (i := 6) sc_l_moments_by.nd, l_moments_by_5_w B hr hB (((every).take i).foldl (fun (v : (List Int)) (x : Int) => l_moments_by_5 v locks heads every sizes x) ends) locks heads every sizes x (q123_ i x hx)⟩) (l_moments_by_6_w B hr hB ((every).foldl (fun (v : (List Int)) (x : Int) => l_moments_by_5 v locks heads every sizes x) ends) locks heads every sizes q124_)
def l_moments_by_3 (locks : List Int) (heads : List (List Int)) (every : List Int) (sizes : List Int) : List (Int × Int × Int) := l_moments_by_4 [] locks heads every sizes
def l_moments_by_3P (locks : List Int) (heads : List (List Int)) (every : List Int) (sizes : List Int) : Prop := (l_moments_by_4P [] locks heads every sizes)
theorem l_moments_by_3_w (locks : List Int) (heads : List (List Int)) (every : List Int) (sizes : List Int) (h : l_moments_by_3P locks heads every sizes) : WSs (X_l_moments_by P w K mg base f cdv Ar outer s H E) G ⟨[some (En (α := List Int) locks), some (En (α := List (List Int)) heads), some (En (α := List Int) every), some (En (α := List Int) sizes), none, none, none, none, none], []⟩ ((defBody s_l_moments_by).drop 2) (EndR R_l_moments_by (l_moments_by_3 locks heads every sizes)) := by
  have q125_ := h
  exact wss_sn (sn_set (i := 5) sc_l_moments_by.nd (ev_lstC (as := []) ea_nil)) (l_moments_by_4_w B hr hB [] locks heads every sizes q125_)
def l_moments_by_2 (locks : List Int) (heads : List (List Int)) (every : List Int) : List (Int × Int × Int) := l_moments_by_3 locks heads every (setI ((heads).map (fun (z107 : List Int) => (z107.length : Int))))
def l_moments_by_2P (locks : List Int) (heads : List (List Int)) (every : List Int) : Prop := ((heads).length ≤ 100000) ∧ (((heads).map (fun (z107 : List Int) => (z107.length : Int))).length < 64) ∧ (l_moments_by_3P locks heads every (setI ((heads).map (fun (z107 : List Int) => (z107.length : Int)))))
theorem l_moments_by_2_w (locks : List Int) (heads : List (List Int)) (every : List Int) (h : l_moments_by_2P locks heads every) : WSs (X_l_moments_by P w K mg base f cdv Ar outer s H E) G ⟨[some (En (α := List Int) locks), some (En (α := List (List Int)) heads), some (En (α := List Int) every), none, none, none, none, none, none], []⟩ ((defBody s_l_moments_by).drop 1) (EndR R_l_moments_by (l_moments_by_2 locks heads every)) := by
  obtain ⟨q108_, q109_, q126_⟩ := h
  exact wss_sn (sn_set (i := 3) sc_l_moments_by.nd (ev_sortSet (is := (heads).map (fun (z107 : List Int) => (z107.length : Int))) rfl B.sorted B.set (lc_all (α := List Int) (β := Int) (xs := heads) (f := fun (z107 : List Int) => (z107.length : Int)) (sl' := fun (z107 : List Int) => [some (En (α := List Int) locks), some (En (α := List (List Int)) heads), some (En (α := List Int) every), none, some (En (α := List Int) z107), none, none, none, none]) [("head", 4)] (lcm_pe rfl sc_l_moments_by.nd (blkOk_by rfl)) (ei_of (es_lst (ev_name (a := En (α := List (List Int)) heads) (i := 1)))) (fun _ _ => trivial) q108_ (fun _ _ _ _ _  z107 c107 => eg_name (i := 4) sc_l_moments_by.nd) (fun _ _ _ _ _  z107 c107 hm107 => ev_len (α := Int) (xs := z107) B.len (ev_name (a := En (α := List Int) z107) (i := 4)) (.inl (rdl (α := Int))))) (rdl (α := Int)) q109_)) (l_moments_by_3_w B hr hB locks heads every (setI ((heads).map (fun (z107 : List Int) => (z107.length : Int)))) q126_)
def l_moments_by_1 (locks : List Int) (heads : List (List Int)) : List (Int × Int × Int) := l_moments_by_2 locks heads (rngL 0 ((locks.length : Int)).toNat)
def l_moments_by_1P (locks : List Int) (heads : List (List Int)) : Prop := ((0 : Int) ≤ (locks.length : Int) ∧ (locks.length : Int) ≤ 100000) ∧ (l_moments_by_2P locks heads (rngL 0 ((locks.length : Int)).toNat))
theorem l_moments_by_1_w (locks : List Int) (heads : List (List Int)) (h : l_moments_by_1P locks heads) : WSs (X_l_moments_by P w K mg base f cdv Ar outer s H E) G ⟨[some (En (α := List Int) locks), some (En (α := List (List Int)) heads), none, none, none, none, none, none, none], []⟩ (defBody s_l_moments_by) (EndR R_l_moments_by (l_moments_by_1 locks heads)) := by
  obtain ⟨q106_, q127_⟩ := h
  exact wss_sn (sn_set (i := 2) sc_l_moments_by.nd (ev_listR1 (n := (locks.length : Int)) rfl B.list B.range (ev_len (α := Int) (xs := locks) B.len (ev_name (a := En (α := List Int) locks) (i := 0)) (.inl (rdl (α := Int)))) q106_)) (l_moments_by_2_w B hr hB locks heads (rngL 0 ((locks.length : Int)).toNat) q127_)
def v_l_moments_by (locks : List Int) (heads : List (List Int)) : List (Int × Int × Int) := l_moments_by_1 locks heads
def P_l_moments_by (locks : List Int) (heads : List (List Int)) : Prop := l_moments_by_1P locks heads
def φ_l_moments_by : Ct := fun args cs r cs' => ∃ (locks : List Int) (heads : List (List Int)), args = [En (α := List Int) locks, En (α := List (List Int)) heads] ∧ cs = [] ∧ P_l_moments_by locks heads ∧ r = En (α := Tp (T3 Int Int Int)) (v_l_moments_by locks heads) ∧ cs' = []
omit hr hB in
theorem df_l_moments_by (T : Top K mg "_law_moments_by" s_l_moments_by ["locks", "heads"]) : Df P w K mg base CX0 (0 + 1) "_law_moments_by" ["locks", "heads"] φ_l_moments_by := by
  refine Df.mk' T sc_l_moments_by (fun args cs r cs' ⟨locks, heads, e1, e2, hP, e3, e4⟩ => by subst e1 e2 e3 e4; exact ⟨rfl, by first | exact Nat.le_refl _ | exact Nat.zero_le _⟩) (fun f cdv Ar outer s H E G args cs r cs' hr ⟨locks, heads, e1, e2, hP, e3, e4⟩ hB => ?_)
  subst e1 e2 e3 e4
  exact l_moments_by_1_w B hr hB locks heads hP
end
/-! ### _law_moments -/
section
abbrev s_l_moments : Stmt := topS 30
abbrev N_l_moments : List Str := ["rows", "every", "heads", "i", "j", "row"]
theorem sc_l_moments : FnScope N_l_moments ["rows"] (defScope s_l_moments) := ⟨rfl, rfl, rfl, by decide +kernel, rfl, by decide +kernel, by decide +kernel⟩
abbrev X_l_moments (P : Program) (w : World) (K : PySem.W.Frag) (mg : Str → Option Value) (base : Heap) (f : Addr) (cdv : Value) (Ar : Around) (outer : List Env) (s : Shared) (H : Hp) (E : XK) : Cx := (cxOf CX0 P w K mg base N_l_moments "_law_moments" (defScope s_l_moments) f cdv Ar outer s H E).nox
variable {P : Program} {w : World} {K : PySem.W.Frag} {mg : Str → Option Value} {base : Heap} {f : Addr} {cdv : Value} {Ar : Around} {outer : List Env} {s : Shared} {H : Hp} {E : XK} {G : Gh}
variable (B : Bi mg) (D_l_moments_by : Df P w K mg base CX0 1 "_law_moments_by" ["locks", "heads"] φ_l_moments_by) (hr : Room 1 (Ar.deeper (PyProof.Rows.envOfC "_law_moments" (defScope s_l_moments) s.heap.objs.size f cdv))) (hB : G.B.length = 0) 
include B D_l_moments_by hr hB 
abbrev R_l_moments : (List (Int × Int × Int)) → A → Ms → Prop := fun (v : List (Int × Int × Int)) (a : A) (S : Ms) => RetOk a S (En (α := Tp (T3 Int Int Int)) v) []
def l_moments_3 (rows : List (Int × Int × Int)) (heads : List (List Int)) : List (Int × Int × Int) := v_l_moments_by ((rows).map (fun (z137 : Int × Int × Int) => z137.1)) heads
def l_moments_3P (rows : List (Int × Int × Int)) (heads : List (List Int)) : Prop := ((rows).length ≤ 100000) ∧ (P_l_moments_by ((rows).map (fun (z137 : Int × Int × Int) => z137.1)) heads)
theorem l_moments_3_w (rows : List (Int × Int × Int)) (heads : List (List Int)) (h : l_moments_3P rows heads) : WSs (X_l_moments P w K mg base f cdv Ar outer s H E) G ⟨[some (En (α := Tp (T3 Int Int Int)) rows), none, some (En (α := List (List Int)) heads), none, none, none], []⟩ ((defBody s_l_moments).drop 2) (EndR R_l_moments (l_moments_3 rows heads)) := by
  obtain ⟨q138_, q139_⟩ := h
  exact wss_ret (ev_cf (φ := φ_l_moments_by) (ds := [Enc.enc (α := List Int) ((rows).map (fun (z137 : Int × Int × Int) => z137.1)), Enc.enc (α := List (List Int)) heads]) (r := Enc.enc (α := Tp (T3 Int Int Int)) (v_l_moments_by ((rows).map (fun (z137 : Int × Int × Int) => z137.1)) heads)) D_l_moments_by (hr.mono (by decide)) pass0 (ea_cons (lc_all (α := T3 Int Int Int) (β := Int) (xs := rows) (f := fun (z137 : Int × Int × Int) => z137.1) (sl' := fun (z137 : Int × Int × Int) => [some (En (α := Tp (T3 Int Int Int)) rows), none, some (En (α := List (List Int)) heads), none, none, some (En (α := T3 Int Int Int) z137)]) [("row", 5)] (lcm_pe rfl sc_l_moments.nd (blkOk_by rfl)) (ei_of (es_tup (ev_name (a := En (α := Tp (T3 Int Int Int)) rows) (i := 0)))) (fun _ _ => trivial) q138_ (fun _ _ _ _ _  z137 c137 => eg_name (i := 5) sc_l_moments.nd) (fun _ _ _ _ _  z137 c137 hm137 => ev_part (j := 0) (ds := [Enc.enc (α := Int) z137.1, Enc.enc (α := Int) z137.2.1, Enc.enc (α := Int) z137.2.2]) (ev_name (a := En (α := T3 Int Int Int) z137) (i := 5)) rfl)) (ea_cons (ev_name (a := En (α := List (List Int)) heads) (i := 2)) (ea_nil))) ⟨((rows).map (fun (z137 : Int × Int × Int) => z137.1)), heads, rfl, rfl, q139_, rfl, rfl⟩) (ret_dat)
def l_moments_2 (rows : List (Int × Int × Int)) (every : List Int) : List (Int × Int × Int) := l_moments_3 rows ((every).map (fun (z129 : Int) => ((every).filter (fun (z130 : Int) => decide (((gI rows z130).2.2) < ((gI rows z129).2.1)))).map (fun (z130 : Int) => z130)))
def l_moments_2P (rows : List (Int × Int × Int)) (every : List Int) : Prop := (∀ z129 ∈ every, (∀ z130 ∈ every, (InR z130 (rows).length) ∧ (InR z129 (rows).length)) ∧ ((every).length ≤ 100000)) ∧ ((every).length ≤ 100000) ∧ (l_moments_3P rows ((every).map (fun (z129 : Int) => ((every).filter (fun (z130 : Int) => decide (((gI rows z130).2.2) < ((gI rows z129).2.1)))).map (fun (z130 : Int) => z130))))
theorem l_moments_2_w (rows : List (Int × Int × Int)) (every : List Int) (h : l_moments_2P rows every) : WSs (X_l_moments P w K mg base f cdv Ar outer s H E) G ⟨[some (En (α := Tp (T3 Int Int Int)) rows), some (En (α := List Int) every), none, none, none, none], []⟩ ((defBody s_l_moments).drop 1) (EndR R_l_moments (l_moments_2 rows every)) := by
  obtain ⟨q135_, q136_, q140_⟩ := h
  exact wss_sn (sn_of_lc (i := 2) (lc_all (α := Int) (β := List Int) (xs := every) (f := fun (z129 : Int) => ((every).filter (fun (z130 : Int) => decide (((gI rows z130).2.2) < ((gI rows z129).2.1)))).map (fun (z130 : Int) => z130)) (sl' := fun (z129 : Int) => [some (En (α := Tp (T3 Int Int Int)) rows), some (En (α := List Int) every), none, none, some (En (α := Int) z129), none]) [("j", 4)] (lcm_set (i := 2) rfl sc_l_moments.nd (blkOk_by rfl) rfl rfl (sw_true rfl rfl rfl (by decide +kernel))) (ei_of (es_lst (ev_name (a := En (α := List Int) every) (i := 1)))) (fun _ _ => trivial) q136_ (fun _ _ _ _ _  z129 c129 => eg_name (i := 4) sc_l_moments.nd) (fun _ _ _ _ _  z129 c129 hm129 => lc_any (α := Int) (β := Int) (xs := every) (p := fun (z130 : Int) => decide (((gI rows z130).2.2) < ((gI rows z129).2.1))) (f := fun (z130 : Int) => z130) (sl' := fun (z130 : Int) => [some (En (α := Tp (T3 Int Int Int)) rows), some (En (α := List Int) every), none, some (En (α := Int) z130), some (En (α := Int) z129), none]) [("i", 3)] (lcm_pe rfl sc_l_moments.nd (blkOk_by rfl)) (ei_of (es_lst (ev_name (a := En (α := List Int) every) (i := 1)))) (fun _ _ => trivial) (q135_ z129 hm129).2 (fun _ _ _ _ _  z130 c130 => eg_name (i := 3) sc_l_moments.nd) (fun _ _ _ _ _  z130 c130 hm130 => ets_one (et_lt (ev_part (j := 2) (ds := [Enc.enc (α := Int) ((gI rows z130).1), Enc.enc (α := Int) ((gI rows z130).2.1), Enc.enc (α := Int) ((gI rows z130).2.2)]) (ev_ixT (α := T3 Int Int Int) (xs := rows) (ev_name (a := En (α := Tp (T3 Int Int Int)) rows) (i := 0)) (ev_name (a := En (α := Int) z130) (i := 3)) ((rdt (α := T3 Int Int Int))) ((q135_ z129 hm129).1 z130 hm130).1) rfl) (ev_part (j := 1) (ds := [Enc.enc (α := Int) ((gI rows z129).1), Enc.enc (α := Int) ((gI rows z129).2.1), Enc.enc (α := Int) ((gI rows z129).2.2)]) (ev_ixT (α := T3 Int Int Int) (xs := rows) (ev_name (a := En (α := Tp (T3 Int Int Int)) rows) (i := 0)) (ev_name (a := En (α := Int) z129) (i := 4)) ((rdt (α := T3 Int Int Int))) ((q135_ z129 hm129).1 z130 hm130).2) rfl))) (fun _ _ _ _ _  z130 c130 hm130 hp130 => ev_name (a := En (α := Int) z130) (i := 3))))) (wss_fg (fg_of (by exact And.intro (Or.inr rfl) (And.intro (Or.inl rfl) (And.intro (Or.inr rfl) (And.intro (Or.inl rfl) (And.intro (Or.inl rfl) (And.intro (Or.inl rfl) (True.intro)))))))) (l_moments_3_w B D_l_moments_by hr hB rows ((every).map (fun (z129 : Int) => ((every).filter (fun (z130 : Int) => decide (((gI rows z130).2.2) < ((gI rows z129).2.1)))).map (fun (z130 : Int) => z130))) q140_))
def l_moments_1 (rows : List (Int × Int × Int)) : List (Int × Int × Int) := l_moments_2 rows (rngL 0 ((rows.length : Int)).toNat)
def l_moments_1P (rows : List (Int × Int × Int)) : Prop := ((0 : Int) ≤ (rows.length : Int) ∧ (rows.length : Int) ≤ 100000) ∧ (l_moments_2P rows (rngL 0 ((rows.length : Int)).toNat))
theorem l_moments_1_w (rows : List (Int × Int × Int)) (h : l_moments_1P rows) : WSs (X_l_moments P w K mg base f cdv Ar outer s H E) G ⟨[some (En (α := Tp (T3 Int Int Int)) rows), none, none, none, none, none], []⟩ (defBody s_l_moments) (EndR R_l_moments (l_moments_1 rows)) := by
  obtain ⟨q128_, q141_⟩ := h
  exact wss_sn (sn_set (i := 1) sc_l_moments.nd (ev_listR1 (n := (rows.length : Int)) rfl B.list B.range (ev_len (α := T3 Int Int Int) (xs := rows) B.len (ev_name (a := En (α := Tp (T3 Int Int Int)) rows) (i := 0)) (.inr (rdt (α := T3 Int Int Int)))) q128_)) (l_moments_2_w B D_l_moments_by hr hB rows (rngL 0 ((rows.length : Int)).toNat) q141_)
def v_l_moments (rows : List (Int × Int × Int)) : List (Int × Int × Int) := l_moments_1 rows
def P_l_moments (rows : List (Int × Int × Int)) : Prop := l_moments_1P rows
def φ_l_moments : Ct := fun args cs r cs' => ∃ (rows : List (Int × Int × Int)), args = [En (α := Tp (T3 Int Int Int)) rows] ∧ cs = [] ∧ P_l_moments rows ∧ r = En (α := Tp (T3 Int Int Int)) (v_l_moments rows) ∧ cs' = []
omit hr hB in
theorem df_l_moments (T : Top K mg "_law_moments" s_l_moments ["rows"]) : Df P w K mg base CX0 (1 + 1) "_law_moments" ["rows"] φ_l_moments := by
  refine Df.mk' T sc_l_moments (fun args cs r cs' ⟨rows, e1, e2, hP, e3, e4⟩ => by subst e1 e2 e3 e4; exact ⟨rfl, by first | exact Nat.le_refl _ | exact Nat.zero_le _⟩) (fun f cdv Ar outer s H E G args cs r cs' hr ⟨rows, e1, e2, hP, e3, e4⟩ hB => ?_)
  subst e1 e2 e3 e4
  exact l_moments_1_w B D_l_moments_by hr hB rows hP
end
/-! ### _law_open -/
section
abbrev s_l_open : Stmt := topS 31
abbrev N_l_open : List Str := ["moments", "many", "lock", "first", "last", "found", "t", "lots", "w"]
theorem sc_l_open : FnScope N_l_open ["moments"] (defScope s_l_open) := ⟨rfl, rfl, rfl, by decide +kernel, rfl, by decide +kernel, by decide +kernel⟩
abbrev X_l_open (P : Program) (w : World) (K : PySem.W.Frag) (mg : Str → Option Value) (base : Heap) (f : Addr) (cdv : Value) (Ar : Around) (outer : List Env) (s : Shared) (H : Hp) (E : XK) : Cx := (cxOf CX0 P w K mg base N_l_open "_law_open" (defScope s_l_open) f cdv Ar outer s H E).nox
variable {P : Program} {w : World} {K : PySem.W.Frag} {mg : Str → Option Value} {base : Heap} {f : Addr} {cdv : Value} {Ar : Around} {outer : List Env} {s : Shared} {H : Hp} {E : XK} {G : Gh}
variable (B : Bi mg)  (hr : Room 0 (Ar.deeper (PyProof.Rows.envOfC "_law_open" (defScope s_l_open) s.heap.objs.size f cdv))) (hB : G.B.length = 0) 
include B  hr hB 
abbrev R_l_open : (List (List (Int × Int))) → A → Ms → Prop := fun (v : List (List (Int × Int))) (a : A) (S : Ms) => RetOk a S (En (α := List (Dc Int)) v) []
def l_open_7 (found : List (List (Int × Int))) (lots : List (Int × Int)) (moments : List (Int × Int × Int)) (t_ : Int) (w_ : Int) : (List (Int × Int)) := dput lots ((gI moments w_).1) w_
def l_open_7P (found : List (List (Int × Int))) (lots : List (Int × Int)) (moments : List (Int × Int × Int)) (t_ : Int) (w_ : Int) : Prop := (InR w_ (moments).length) ∧ ((lots).length < 100000)
theorem l_open_7_w (found : List (List (Int × Int))) (lots : List (Int × Int)) (moments : List (Int × Int × Int)) (t_ : Int) (w_ : Int) (h : l_open_7P found lots moments t_ w_) : WSs (X_l_open P w K mg base f cdv Ar outer s H E) G ⟨[some (En (α := Tp (T3 Int Int Int)) moments), none, none, none, none, some (.cell 0), some (En (α := Int) t_), some (.cell 1), some (En (α := Int) w_)], [Cl (α := Dc Int) found, Ck (α := Int) lots]⟩ (ifA ((forB ((forB ((defBody s_l_open).getD 2 passS)).getD 1 passS)).getD 0 passS)) (Thn (X_l_open P w K mg base f cdv Ar outer s H E) G ((forB ((forB ((defBody s_l_open).getD 2 passS)).getD 1 passS)).drop 1) (EndN (fun (v : (List (Int × Int))) => ⟨[some (En (α := Tp (T3 Int Int Int)) moments), none, none, none, none, some (.cell 0), some (En (α := Int) t_), some (.cell 1), none], [Cl (α := Dc Int) found, Ck (α := Int) v]⟩)) (l_open_7 found lots moments t_ w_)) := by
  obtain ⟨q152_, q153_⟩ := h
  exact wss_sn (sn_dput (α := Int) (d := lots) (u := w_) (hr.mono (by decide) : Room 0 _).u1 (ev_name (a := En (α := Int) w_) (i := 8)) (ev_name (a := .cell 1) (i := 7)) (ev_part (j := 0) (ds := [Enc.enc (α := Int) ((gI moments w_).1), Enc.enc (α := Int) ((gI moments w_).2.1), Enc.enc (α := Int) ((gI moments w_).2.2)]) (ev_ixT (α := T3 Int Int Int) (xs := moments) (ev_name (a := En (α := Tp (T3 Int Int Int)) moments) (i := 0)) (ev_name (a := En (α := Int) w_) (i := 8)) ((rdt (α := T3 Int Int Int))) q152_) rfl) rfl q153_) (end_thn (S' := ⟨[some (En (α := Tp (T3 Int Int Int)) moments), none, none, none, none, some (.cell 0), some (En (α := Int) t_), some (.cell 1), none], [Cl (α := Dc Int) found, Ck (α := Int) (dput lots ((gI moments w_).1) w_)]⟩) (fg_of (by exact And.intro (Or.inr rfl) (And.intro (Or.inl rfl) (And.intro (Or.inl rfl) (And.intro (Or.inl rfl) (And.intro (Or.inl rfl) (And.intro (Or.inr rfl) (And.intro (Or.inr rfl) (And.intro (Or.inr rfl) (And.intro (Or.inl rfl) (True.intro))))))))))) (end_nx (fg_of (by exact And.intro (Or.inr rfl) (And.intro (Or.inl rfl) (And.intro (Or.inl rfl) (And.intro (Or.inl rfl) (And.intro (Or.inl rfl) (And.intro (Or.inr rfl) (And.intro (Or.inr rfl) (And.intro (Or.inr rfl) (And.intro (Or.inl rfl) (True.intro)))))))))))))
def l_open_6 (found : List (List (Int × Int))) (lots : List (Int × Int)) (moments : List (Int × Int × Int)) (t_ : Int) (w_ : Int) : (List (Int × Int)) := cond (decide (((gI moments w_).2.1) ≤ t_) && decide (t_ ≤ ((gI moments w_).2.2))) (l_open_7 found lots moments t_ w_) lots
def l_open_6P (found : List (List (Int × Int))) (lots : List (Int × Int)) (moments : List (Int × Int × Int)) (t_ : Int) (w_ : Int) : Prop := (InR w_ (moments).length) ∧ (decide (((gI moments w_).2.1) ≤ t_) = true → (InR w_ (moments).length)) ∧ ((decide (((gI moments w_).2.1) ≤ t_) && decide (t_ ≤ ((gI moments w_).2.2))) = true → (l_open_7P found lots moments t_ w_))
theorem l_open_6_w (found : List (List (Int × Int))) (lots : List (Int × Int)) (moments : List (Int × Int × Int)) (t_ : Int) (w_ : Int) (h : l_open_6P found lots moments t_ w_) : WSs (X_l_open P w K mg base f cdv Ar outer s H E) G ⟨[some (En (α := Tp (T3 Int Int Int)) moments), none, none, none, none, some (.cell 0), some (En (α := Int) t_), some (.cell 1), some (En (α := Int) w_)], [Cl (α := Dc Int) found, Ck (α := Int) lots]⟩ (forB ((forB ((defBody s_l_open).getD 2 passS)).getD 1 passS)) (EndN (fun (v : (List (Int × Int))) => ⟨[some (En (α := Tp (T3 Int Int Int)) moments), none, none, none, none, some (.cell 0), some (En (α := Int) t_), some (.cell 1), none], [Cl (α := Dc Int) found, Ck (α := Int) v]⟩) (l_open_6 found lots moments t_ w_)) := by
  obtain ⟨q148_, q151_, q156_⟩ := h
  exact wss_ifM (EndN (fun (v : (List (Int × Int))) => ⟨[some (En (α := Tp (T3 Int Int Int)) moments), none, none, none, none, some (.cell 0), some (En (α := Int) t_), some (.cell 1), none], [Cl (α := Dc Int) found, Ck (α := Int) v]⟩)) (p := decide (((gI moments w_).2.1) ≤ t_) && decide (t_ ≤ ((gI moments w_).2.2))) (m1 := l_open_7 found lots moments t_ w_) (m2 := lots) rfl (et_chain (f := fun i j => decide (i ≤ j)) (g := fun i j => decide (i ≤ j)) (i := (gI moments w_).2.1) (j := t_) (k := (gI moments w_).2.2) op_le op_le (ev_part (j := 1) (ds := [Enc.enc (α := Int) ((gI moments w_).1), Enc.enc (α := Int) ((gI moments w_).2.1), Enc.enc (α := Int) ((gI moments w_).2.2)]) (ev_ixT (α := T3 Int Int Int) (xs := moments) (ev_name (a := En (α := Tp (T3 Int Int Int)) moments) (i := 0)) (ev_name (a := En (α := Int) w_) (i := 8)) ((rdt (α := T3 Int Int Int))) q148_) rfl) (ev_name (a := En (α := Int) t_) (i := 6)) (fun hp150_ => ev_part (j := 2) (ds := [Enc.enc (α := Int) ((gI moments w_).1), Enc.enc (α := Int) ((gI moments w_).2.1), Enc.enc (α := Int) ((gI moments w_).2.2)]) (ev_ixT (α := T3 Int Int Int) (xs := moments) (ev_name (a := En (α := Tp (T3 Int Int Int)) moments) (i := 0)) (ev_name (a := En (α := Int) w_) (i := 8)) ((rdt (α := T3 Int Int Int))) (q151_ hp150_)) rfl)) (fun hp155_ => l_open_7_w B hr hB found lots moments t_ w_ (q156_ hp155_)) (fun hp157_ => end_thn (S' := ⟨[some (En (α := Tp (T3 Int Int Int)) moments), none, none, none, none, some (.cell 0), some (En (α := Int) t_), some (.cell 1), none], [Cl (α := Dc Int) found, Ck (α := Int) lots]⟩) (fg_of (by exact And.intro (Or.inr rfl) (And.intro (Or.inl rfl) (And.intro (Or.inl rfl) (And.intro (Or.inl rfl) (And.intro (Or.inl rfl) (And.intro (Or.inr rfl) (And.intro (Or.inr rfl) (And.intro (Or.inr rfl) (And.intro (Or.inl rfl) (True.intro))))))))))) (end_nx (fg_of (by exact And.intro (Or.inr rfl) (And.intro (Or.inl rfl) (And.intro (Or.inl rfl) (And.intro (Or.inl rfl) (And.intro (Or.inl rfl) (And.intro (Or.inr rfl) (And.intro (Or.inr rfl) (And.intro (Or.inr rfl) (And.intro (Or.inl rfl) (True.intro)))))))))))))
def l_open_8 (found : List (List (Int × Int))) (lots : List (Int × Int)) (moments : List (Int × Int × Int)) : (List (List (Int × Int))) := found ++ [lots]
def l_open_8P (found : List (List (Int × Int))) (lots : List (Int × Int)) (moments : List (Int × Int × Int)) : Prop := ((found).length < 100000)
theorem l_open_8_w (found : List (List (Int × Int))) (lots : List (Int × Int)) (moments : List (Int × Int × Int)) (h : l_open_8P found lots moments) : WSs (X_l_open P w K mg base f cdv Ar outer s H E) G ⟨[some (En (α := Tp (T3 Int Int Int)) moments), none, none, none, none, some (.cell 0), none, some (.cell 1), none], [Cl (α := Dc Int) found, Ck (α := Int) lots]⟩ ((forB ((defBody s_l_open).getD 2 passS)).drop 2) (EndN (fun (v : (List (List (Int × Int)))) => ⟨[some (En (α := Tp (T3 Int Int Int)) moments), none, none, none, none, some (.cell 0), none, none, none], [Cl (α := Dc Int) v]⟩) (l_open_8 found lots moments)) := by
  have q158_ := h
  exact wss_sn (sn_expr (ev_appC (α := Dc Int) (xs := found) (ev_name (a := .cell 0) (i := 5)) (ev_name (a := .cell 1) (i := 7)) rfl q158_)) (wss_thaw (j := 1) (sl' := [some (En (α := Tp (T3 Int Int Int)) moments), none, none, none, none, some (.cell 0), none, some (En (α := Dc Int) lots), none]) (cs' := [Cl (α := Dc Int) (found ++ [lots])]) (cs := [.lst ((List.map (α := Dc Int) (fun x => A.dat (Enc.enc (α := Dc Int) x)) found) ++ [.cell 1])]) (Nat.le_trans (Nat.le_of_eq hB) (by decide)) rfl (asd_k (α := Int) (d := lots)) rfl (.cons (thw_a rfl) (.nil)) (end_nx (fg_of (by exact And.intro (Or.inr rfl) (And.intro (Or.inl rfl) (And.intro (Or.inl rfl) (And.intro (Or.inl rfl) (And.intro (Or.inl rfl) (And.intro (Or.inr rfl) (And.intro (Or.inl rfl) (And.intro (Or.inl rfl) (And.intro (Or.inl rfl) (True.intro)))))))))))))
def l_open_5 (found : List (List (Int × Int))) (lots : List (Int × Int)) (moments : List (Int × Int × Int)) (t_ : Int) : (List (List (Int × Int))) := (fun (v : (List (Int × Int))) => l_open_8 found v moments) ((rngL 0 ((moments.length : Int)).toNat).foldl (fun (v : (List (Int × Int))) (x : Int) => l_open_6 found v moments t_ x) lots)
def l_open_5P (found : List (List (Int × Int))) (lots : List (Int × Int)) (moments : List (Int × Int × Int)) (t_ : Int) : Prop := (RgOk (moments.length : Int)) ∧ (loopP (fun (v : (List (Int × Int))) (x : Int) => l_open_6 found v moments t_ x) (fun (v : (List (Int × Int))) (x : Int) => l_open_6P found v moments t_ x) (rngL 0 ((moments.length : Int)).toNat) lots) ∧ ((fun (v : (List (Int × Int))) => l_open_8P found v moments) ((rngL 0 ((moments.length : Int)).toNat).foldl (fun (v : (List (Int × Int))) (x : Int) => l_open_6 found v moments t_ x) lots))
theorem l_open_5_w (found : List (List (Int × Int))) (lots : List (Int × Int)) (moments : List (Int × Int × Int)) (t_ : Int) (h : l_open_5P found lots moments t_) : WSs (X_l_open P w K mg base f cdv Ar outer s H E) G ⟨[some (En (α := Tp (T3 Int Int Int)) moments), none, none, none, none, some (.cell 0), some (En (α := Int) t_), some (.cell 1), none], [Cl (α := Dc Int) found, Ck (α := Int) lots]⟩ ((forB ((defBody s_l_open).getD 2 passS)).drop 1) (EndN (fun (v : (List (List (Int × Int)))) => ⟨[some (En (α := Tp (T3 Int Int Int)) moments), none, none, none, none, some (.cell 0), none, none, none], [Cl (α := Dc Int) v]⟩) (l_open_5 found lots moments t_)) := by
  obtain ⟨q147_, q159_, q160_⟩ := h
  exact wss_forN (α := Int) (xs := rngL 0 ((moments.length : Int)).toNat) (EndN (fun (v : (List (List (Int × Int)))) => ⟨[some (En (α := Tp (T3 Int Int Int)) moments), none, none, none, none, some (.cell 0), none, none, none], [Cl (α := Dc Int) v]⟩)) (fun (v : (List (Int × Int))) (x : Int) => l_open_6 found v moments t_ x) lots (fun (v : (List (Int × Int))) => ⟨[some (En (α := Tp (T3 Int Int Int)) moments), none, none, none, none, some (.cell 0), some (En (α := Int) t_), some (.cell 1), none], [Cl (α := Dc Int) found, Ck (α := Int) v]⟩) (fun (v : (List (Int × Int))) => l_open_8 found v moments) rfl PassesOwn.never rfl (es_rng1 B.range (ev_len (α := T3 Int Int Int) (xs := moments) B.len (ev_name (a := En (α := Tp (T3 Int Int Int)) moments) (i := 0)) (.inr (rdt (α := T3 Int Int Int)))) q147_) (fg_of (by exact And.intro (Or.inr rfl) (And.intro (Or.inl rfl) (And.intro (Or.inl rfl) (And.intro (Or.inl rfl) (And.intro (Or.inl rfl) (And.intro (Or.inr rfl) (And.intro (Or.inr rfl) (And.intro (Or.inr rfl) (And.intro (Or.inl rfl) (True.intro))))))))))) (fun i x hx => ⟨_, _, eg_name (i := 8) sc_l_open.nd, l_open_6_w B hr hB found ((((rngL 0 ((moments.length : Int)).toNat)).take i).foldl (fun (v : (List (Int × Int))) (x : Int) => l_open_6 found v moments t_ x) lots) moments t_ x (q159_ i x hx)⟩) (wss_fg (fg_of (by exact And.intro (Or.inr rfl) (And.intro (Or.inl rfl) (And.intro (Or.inl rfl) (And.intro (Or.inl rfl) (And.intro (Or.inl rfl) (And.intro (Or.inr rfl) (And.intro (Or.inl rfl) (And.intro (Or.inr rfl) (And.intro (Or.inl rfl) (True.intro))))))))))) (l_open_8_w B hr hB found ((rngL 0 ((moments.length : Int)).toNat).foldl (fun (v : (List (Int × Int))) (x : Int) => l_open_6 found v moments t_ x) lots) moments q160_))
def l_open_4 (found : List (List (Int × Int))) (moments : List (Int × Int × Int)) (t_ : Int) : (List (List (Int × Int))) := l_open_5 found [] moments t_
def l_open_4P (found : List (List (Int × Int))) (moments : List (Int × Int × Int)) (t_ : Int) : Prop := (l_open_5P found [] moments t_)
theorem l_open_4_w (found : List (List (Int × Int))) (moments : List (Int × Int × Int)) (t_ : Int) (h : l_open_4P found moments t_) : WSs (X_l_open P w K mg base f cdv Ar outer s H E) G ⟨[some (En (α := Tp (T3 Int Int Int)) moments), none, none, none, none, some (.cell 0), some (En (α := Int) t_), none, none], [Cl (α := Dc Int) found]⟩ (forB ((defBody s_l_open).getD 2 passS)) (EndN (fun (v : (List (List (Int × Int)))) => ⟨[some (En (α := Tp (T3 Int Int Int)) moments), none, none, none, none, some (.cell 0), none, none, none], [Cl (α := Dc Int) v]⟩) (l_open_4 found moments t_)) := by
  have q161_ := h
  exact wss_sn (sn_set (i := 7) sc_l_open.nd (ev_dnewC)) (l_open_5_w B hr hB found [] moments t_ q161_)
def l_open_9 (found : List (List (Int × Int))) : List (List (Int × Int)) := found
def l_open_9P (found : List (List (Int × Int))) : Prop := True
theorem l_open_9_w (found : List (List (Int × Int))) (h : l_open_9P found) : WSs (X_l_open P w K mg base f cdv Ar outer s H E) G ⟨[none, none, none, none, none, some (.cell 0), none, none, none], [Cl (α := Dc Int) found]⟩ ((defBody s_l_open).drop 3) (EndR R_l_open (l_open_9 found)) := by
  exact wss_ret (ev_name (a := .cell 0) (i := 5)) (ret_lst (α := Dc Int) (xs := found) (k := 0) rfl)
def l_open_3 (found : List (List (Int × Int))) (moments : List (Int × Int × Int)) (many : Int) : List (List (Int × Int)) := (fun (v : (List (List (Int × Int)))) => l_open_9 v) ((rngL 0 (many).toNat).foldl (fun (v : (List (List (Int × Int)))) (x : Int) => l_open_4 v moments x) found)
def l_open_3P (found : List (List (Int × Int))) (moments : List (Int × Int × Int)) (many : Int) : Prop := (RgOk many) ∧ (loopP (fun (v : (List (List (Int × Int)))) (x : Int) => l_open_4 v moments x) (fun (v : (List (List (Int × Int)))) (x : Int) => l_open_4P v moments x) (rngL 0 (many).toNat) found) ∧ ((fun (v : (List (List (Int × Int)))) => l_open_9P v) ((rngL 0 (many).toNat).foldl (fun (v : (List (List (Int × Int)))) (x : Int) => l_open_4 v moments x) found))
theorem l_open_3_w (found : List (List (Int × Int))) (moments : List (Int × Int × Int)) (many : Int) (h : l_open_3P found moments many) : WSs (X_l_open P w K mg base f cdv Ar outer s H E) G ⟨[some (En (α := Tp (T3 Int Int Int)) moments), some (En (α := Int) many), none, none, none, some (.cell 0), none, none, none], [Cl (α := Dc Int) found]⟩ ((defBody s_l_open).drop 2) (EndR R_l_open (l_open_3 found moments many)) := by
  obtain ⟨q146_, q162_, q163_⟩ := h
  exact wss_forN (α := Int) (xs := rngL 0 (many).toNat) (EndR R_l_open) (fun (v : (List (List (Int × Int)))) (x : Int) => l_open_4 v moments x) found (fun (v : (List (List (Int × Int)))) => ⟨[some (En (α := Tp (T3 Int Int Int)) moments), none, none, none, none, some (.cell 0), none, none, none], [Cl (α := Dc Int) v]⟩) (fun (v : (List (List (Int × Int)))) => l_open_9 v) rfl PassesOwn.never rfl (es_rng1 B.range (ev_name (a := En (α := Int) many) (i := 1)) q146_) (fg_of (by exact And.intro (Or.inr rfl) (And.intro (Or.inl rfl) (And.intro (Or.inl rfl) (And.intro (Or.inl rfl) (And.intro (Or.inl rfl) (And.intro (Or.inr rfl) (And.intro (Or.inl rfl) (And.intro (Or.inl rfl) (And.intro (Or.inl rfl) (True.intro))))))))))) (fun i x hx => ⟨_, _, eg_name (i := 6) sc_l_open.nd, l_open_4_w B hr hB ((((rngL 0 (many).toNat)).take i).foldl (fun (v : (List (List (Int × Int)))) (x : Int) => l_open_4 v moments x) found) moments x (q162_ i x hx)⟩) (wss_fg (fg_of (by exact And.intro (Or.inl rfl) (And.intro (Or.inl rfl) (And.intro (Or.inl rfl) (And.intro (Or.inl rfl) (And.intro (Or.inl rfl) (And.intro (Or.inr rfl) (And.intro (Or.inl rfl) (And.intro (Or.inl rfl) (And.intro (Or.inl rfl) (True.intro))))))))))) (l_open_9_w B hr hB ((rngL 0 (many).toNat).foldl (fun (v : (List (List (Int × Int)))) (x : Int) => l_open_4 v moments x) found) q163_))
def l_open_2 (moments : List (Int × Int × Int)) (many : Int) : List (List (Int × Int)) := l_open_3 [] moments many
def l_open_2P (moments : List (Int × Int × Int)) (many : Int) : Prop := (l_open_3P [] moments many)
theorem l_open_2_w (moments : List (Int × Int × Int)) (many : Int) (h : l_open_2P moments many) : WSs (X_l_open P w K mg base f cdv Ar outer s H E) G ⟨[some (En (α := Tp (T3 Int Int Int)) moments), some (En (α := Int) many), none, none, none, none, none, none, none], []⟩ ((defBody s_l_open).drop 1) (EndR R_l_open (l_open_2 moments many)) := by
  have q164_ := h
  exact wss_sn (sn_set (i := 5) sc_l_open.nd (ev_lstC (as := []) ea_nil)) (l_open_3_w B hr hB [] moments many q164_)
def l_open_1 (moments : List (Int × Int × Int)) : List (List (Int × Int)) := l_open_2 moments (maxL ([(0 : Int)] ++ ((moments).map (fun (z142 : Int × Int × Int) => z142.2.2 + (1 : Int)))))
def l_open_1P (moments : List (Int × Int × Int)) : Prop := ((moments).length ≤ 100000) ∧ (([(0 : Int)]).length + ((moments).map (fun (z142 : Int × Int × Int) => z142.2.2 + (1 : Int))).length ≤ 100000) ∧ (([(0 : Int)] ++ ((moments).map (fun (z142 : Int × Int × Int) => z142.2.2 + (1 : Int)))) ≠ []) ∧ (l_open_2P moments (maxL ([(0 : Int)] ++ ((moments).map (fun (z142 : Int × Int × Int) => z142.2.2 + (1 : Int))))))
theorem l_open_1_w (moments : List (Int × Int × Int)) (h : l_open_1P moments) : WSs (X_l_open P w K mg base f cdv Ar outer s H E) G ⟨[some (En (α := Tp (T3 Int Int Int)) moments), none, none, none, none, none, none, none, none], []⟩ (defBody s_l_open) (EndR R_l_open (l_open_1 moments)) := by
  obtain ⟨q143_, q144_, q145_, q165_⟩ := h
  exact wss_sn (sn_set (i := 1) sc_l_open.nd (ev_max (is := [(0 : Int)] ++ ((moments).map (fun (z142 : Int × Int × Int) => z142.2.2 + (1 : Int)))) rfl B.max (ev_cat (α := Int) (xs := [(0 : Int)]) (ys := (moments).map (fun (z142 : Int × Int × Int) => z142.2.2 + (1 : Int))) (EV.be (En (α := List Int) [(0 : Int)]) (ev_lst (ds := [Enc.enc (α := Int) (0 : Int)]) (ea_cons (ev_int) (ea_nil)))) (lc_all (α := T3 Int Int Int) (β := Int) (xs := moments) (f := fun (z142 : Int × Int × Int) => z142.2.2 + (1 : Int)) (sl' := fun (z142 : Int × Int × Int) => [some (En (α := Tp (T3 Int Int Int)) moments), none, some (En (α := Int) z142.1), some (En (α := Int) z142.2.1), some (En (α := Int) z142.2.2), none, none, none, none]) [("lock", 2), ("first", 3), ("last", 4)] (lcm_pe rfl sc_l_open.nd (blkOk_by rfl)) (ei_of (es_tup (ev_name (a := En (α := Tp (T3 Int Int Int)) moments) (i := 0)))) (fun _ _ => trivial) q143_ (fun _ _ _ _ _  z142 c142 => eg_tup (ds := [Enc.enc (α := Int) z142.1, Enc.enc (α := Int) z142.2.1, Enc.enc (α := Int) z142.2.2]) rfl (egs_cons (eg_name (i := 2) sc_l_open.nd) (egs_cons (eg_name (i := 3) sc_l_open.nd) (egs_cons (eg_name (i := 4) sc_l_open.nd) (egs_nil))))) (fun _ _ _ _ _  z142 c142 hm142 => ev_add (ev_name (a := En (α := Int) z142.2.2) (i := 4)) (ev_int))) (rdm (α := Int)) (rdm (α := Int)) q144_) (rdl (α := Int)) q145_)) (l_open_2_w B hr hB moments (maxL ([(0 : Int)] ++ ((moments).map (fun (z142 : Int × Int × Int) => z142.2.2 + (1 : Int))))) q165_)
def v_l_open (moments : List (Int × Int × Int)) : List (List (Int × Int)) := l_open_1 moments
def P_l_open (moments : List (Int × Int × Int)) : Prop := l_open_1P moments
def φ_l_open : Ct := fun args cs r cs' => ∃ (moments : List (Int × Int × Int)), args = [En (α := Tp (T3 Int Int Int)) moments] ∧ cs = [] ∧ P_l_open moments ∧ r = En (α := List (Dc Int)) (v_l_open moments) ∧ cs' = []
omit hr hB in
theorem df_l_open (T : Top K mg "_law_open" s_l_open ["moments"]) : Df P w K mg base CX0 (0 + 1) "_law_open" ["moments"] φ_l_open := by
  refine Df.mk' T sc_l_open (fun args cs r cs' ⟨moments, e1, e2, hP, e3, e4⟩ => by subst e1 e2 e3 e4; exact ⟨rfl, by first | exact Nat.le_refl _ | exact Nat.zero_le _⟩) (fun f cdv Ar outer s H E G args cs r cs' hr ⟨moments, e1, e2, hP, e3, e4⟩ hB => ?_)
  subst e1 e2 e3 e4
  exact l_open_1_w B hr hB moments hP
end
/-! ### _law_lots -/
section
abbrev s_l_lots : Stmt := topS 32
abbrev N_l_lots : List Str := ["many", "rows", "w", "row"]
theorem sc_l_lots : FnScope N_l_lots ["many"] (defScope s_l_lots) := ⟨rfl, rfl, rfl, by decide +kernel, rfl, by decide +kernel, by decide +kernel⟩
abbrev X_l_lots (P : Program) (w : World) (K : PySem.W.Frag) (mg : Str → Option Value) (base : Heap) (f : Addr) (cdv : Value) (Ar : Around) (outer : List Env) (s : Shared) (H : Hp) (E : XK) : Cx := (cxOf CX0 P w K mg base N_l_lots "_law_lots" (defScope s_l_lots) f cdv Ar outer s H E).nox
variable {P : Program} {w : World} {K : PySem.W.Frag} {mg : Str → Option Value} {base : Heap} {f : Addr} {cdv : Value} {Ar : Around} {outer : List Env} {s : Shared} {H : Hp} {E : XK} {G : Gh}
variable (B : Bi mg)  (hr : Room 0 (Ar.deeper (PyProof.Rows.envOfC "_law_lots" (defScope s_l_lots) s.heap.objs.size f cdv))) (hB : G.B.length = 0) 
include B  hr hB 
abbrev R_l_lots : (List (List Int)) → A → Ms → Prop := fun (v : List (List Int)) (a : A) (S : Ms) => RetOk a S (En (α := List (Tp Int)) v) []
def l_lots_3 (rows : List (List Int)) (w_ : Int) : (List (List Int)) := rows ++ ((rows).map (fun (z167 : List Int) => z167 ++ [w_]))
def l_lots_3P (rows : List (List Int)) (w_ : Int) : Prop := (∀ z167 ∈ rows, ((z167).length + ([w_]).length ≤ 100000)) ∧ ((rows).length ≤ 100000) ∧ ((rows).length + ((rows).map (fun (z167 : List Int) => z167 ++ [w_])).length ≤ 100000)
theorem l_lots_3_w (rows : List (List Int)) (w_ : Int) (h : l_lots_3P rows w_) : WSs (X_l_lots P w K mg base f cdv Ar outer s H E) G ⟨[none, some (En (α := List (Tp Int)) rows), some (En (α := Int) w_), none], []⟩ (forB ((defBody s_l_lots).getD 1 passS)) (EndN (fun (v : (List (List Int))) => ⟨[none, some (En (α := List (Tp Int)) v), none, none], []⟩) (l_lots_3 rows w_)) := by
  obtain ⟨q169_, q170_, q171_⟩ := h
  exact wss_sn (sn_set (i := 1) sc_l_lots.nd (ev_cat (α := Tp Int) (xs := rows) (ys := (rows).map (fun (z167 : List Int) => z167 ++ [w_])) (ev_name (a := En (α := List (Tp Int)) rows) (i := 1)) (lc_all (α := Tp Int) (β := Tp Int) (xs := rows) (f := fun (z167 : List Int) => z167 ++ [w_]) (sl' := fun (z167 : List Int) => [none, some (En (α := List (Tp Int)) rows), some (En (α := Int) w_), some (En (α := Tp Int) z167)]) [("row", 3)] (lcm_pe rfl sc_l_lots.nd (blkOk_by rfl)) (ei_of (es_lst (ev_name (a := En (α := List (Tp Int)) rows) (i := 1)))) (fun _ _ => trivial) q170_ (fun _ _ _ _ _  z167 c167 => eg_name (i := 3) sc_l_lots.nd) (fun _ _ _ _ _  z167 c167 hm167 => ev_catT (α := Int) (xs := z167) (ys := [w_]) (ev_name (a := En (α := Tp Int) z167) (i := 3)) (EV.be (En (α := Tp Int) [w_]) (ev_tup (ds := [Enc.enc (α := Int) w_]) (ea_cons (ev_name (a := En (α := Int) w_) (i := 2)) (ea_nil)))) (q169_ z167 hm167))) (rdm (α := Tp Int)) (rdm (α := Tp Int)) q171_)) (end_nx (fg_of (by exact And.intro (Or.inl rfl) (And.intro (Or.inr rfl) (And.intro (Or.inl rfl) (And.intro (Or.inl rfl) (True.intro)))))))
def l_lots_4 (rows : List (List Int)) : List (List Int) := rows
def l_lots_4P (rows : List (List Int)) : Prop := True
theorem l_lots_4_w (rows : List (List Int)) (h : l_lots_4P rows) : WSs (X_l_lots P w K mg base f cdv Ar outer s H E) G ⟨[none, some (En (α := List (Tp Int)) rows), none, none], []⟩ ((defBody s_l_lots).drop 2) (EndR R_l_lots (l_lots_4 rows)) := by
  exact wss_ret (ev_name (a := En (α := List (Tp Int)) rows) (i := 1)) (ret_dat)
def l_lots_2 (many : Int) (rows : List (List Int)) : List (List Int) := (fun (v : (List (List Int))) => l_lots_4 v) ((rngL 0 (many).toNat).foldl (fun (v : (List (List Int))) (x : Int) => l_lots_3 v x) rows)
def l_lots_2P (many : Int) (rows : List (List Int)) : Prop := (RgOk many) ∧ (loopP (fun (v : (List (List Int))) (x : Int) => l_lots_3 v x) (fun (v : (List (List Int))) (x : Int) => l_lots_3P v x) (rngL 0 (many).toNat) rows) ∧ ((fun (v : (List (List Int))) => l_lots_4P v) ((rngL 0 (many).toNat).foldl (fun (v : (List (List Int))) (x : Int) => l_lots_3 v x) rows))
theorem l_lots_2_w (many : Int) (rows : List (List Int)) (h : l_lots_2P many rows) : WSs (X_l_lots P w K mg base f cdv Ar outer s H E) G ⟨[some (En (α := Int) many), some (En (α := List (Tp Int)) rows), none, none], []⟩ ((defBody s_l_lots).drop 1) (EndR R_l_lots (l_lots_2 many rows)) := by
  obtain ⟨q166_, q172_, q173_⟩ := h
  exact wss_forN (α := Int) (xs := rngL 0 (many).toNat) (EndR R_l_lots) (fun (v : (List (List Int))) (x : Int) => l_lots_3 v x) rows (fun (v : (List (List Int))) => ⟨[none, some (En (α := List (Tp Int)) v), none, none], []⟩) (fun (v : (List (List Int))) => l_lots_4 v) rfl PassesOwn.never rfl (es_rng1 B.range (ev_name (a := En (α := Int) many) (i := 0)) q166_) (fg_of (by exact And.intro (Or.inl rfl) (And.intro (Or.inr rfl) (And.intro (Or.inl rfl) (And.intro (Or.inl rfl) (True.intro)))))) (fun i x hx => ⟨_, _, eg_name (i := 2) sc_l_lots.nd, l_lots_3_w B hr hB ((((rngL 0 (many).toNat)).take i).foldl (fun (v : (List (List Int))) (x : Int) => l_lots_3 v x) rows) x (q172_ i x hx)⟩) (l_lots_4_w B hr hB ((rngL 0 (many).toNat).foldl (fun (v : (List (List Int))) (x : Int) => l_lots_3 v x) rows) q173_)
def l_lots_1 (many : Int) : List (List Int) := l_lots_2 many [[]]
def l_lots_1P (many : Int) : Prop := (l_lots_2P many [[]])
theorem l_lots_1_w (many : Int) (h : l_lots_1P many) : WSs (X_l_lots P w K mg base f cdv Ar outer s H E) G ⟨[some (En (α := Int) many), none, none, none], []⟩ (defBody s_l_lots) (EndR R_l_lots (l_lots_1 many)) := by
  have q174_ := h
  exact wss_sn (sn_set (i := 1) sc_l_lots.nd (EV.be (En (α := List (Tp Int)) [[]]) (ev_lst (ds := [Enc.enc (α := Tp Int) []]) (ea_cons (EV.be (En (α := Tp Int) []) (ev_tup (ds := []) ea_nil)) (ea_nil))))) (l_lots_2_w B hr hB many [[]] q174_)
def v_l_lots (many : Int) : List (List Int) := l_lots_1 many
def P_l_lots (many : Int) : Prop := l_lots_1P many
def φ_l_lots : Ct := fun args cs r cs' => ∃ (many : Int), args = [En (α := Int) many] ∧ cs = [] ∧ P_l_lots many ∧ r = En (α := List (Tp Int)) (v_l_lots many) ∧ cs' = []
omit hr hB in
theorem df_l_lots (T : Top K mg "_law_lots" s_l_lots ["many"]) : Df P w K mg base CX0 (0 + 1) "_law_lots" ["many"] φ_l_lots := by
  refine Df.mk' T sc_l_lots (fun args cs r cs' ⟨many, e1, e2, hP, e3, e4⟩ => by subst e1 e2 e3 e4; exact ⟨rfl, by first | exact Nat.le_refl _ | exact Nat.zero_le _⟩) (fun f cdv Ar outer s H E G args cs r cs' hr ⟨many, e1, e2, hP, e3, e4⟩ hB => ?_)
  subst e1 e2 e3 e4
  exact l_lots_1_w B hr hB many hP
end
/-! ### _law_meet -/
section
abbrev s_l_meet : Stmt := topS 33
abbrev N_l_meet : List Str := ["rows", "left", "i", "j"]
theorem sc_l_meet : FnScope N_l_meet ["rows", "left"] (defScope s_l_meet) := ⟨rfl, rfl, rfl, by decide +kernel, rfl, by decide +kernel, by decide +kernel⟩
abbrev X_l_meet (P : Program) (w : World) (K : PySem.W.Frag) (mg : Str → Option Value) (base : Heap) (f : Addr) (cdv : Value) (Ar : Around) (outer : List Env) (s : Shared) (H : Hp) (E : XK) : Cx := (cxOf CX0 P w K mg base N_l_meet "_law_meet" (defScope s_l_meet) f cdv Ar outer s H E).nox
variable {P : Program} {w : World} {K : PySem.W.Frag} {mg : Str → Option Value} {base : Heap} {f : Addr} {cdv : Value} {Ar : Around} {outer : List Env} {s : Shared} {H : Hp} {E : XK} {G : Gh}
variable (B : Bi mg)  (hr : Room 0 (Ar.deeper (PyProof.Rows.envOfC "_law_meet" (defScope s_l_meet) s.heap.objs.size f cdv))) (hB : G.B.length = 0) 
include B  hr hB 
abbrev R_l_meet : Bool → A → Ms → Prop := fun (v : Bool) (a : A) (S : Ms) => RetOk a S (En (α := Bool) v) []
def l_meet_3 (rows : List (Int × Int × Int)) (left : List Int) : Flow' Bool Unit := .ret false
def l_meet_3P (rows : List (Int × Int × Int)) (left : List Int) : Prop := True
theorem l_meet_3_w (rows : List (Int × Int × Int)) (left : List Int) (h : l_meet_3P rows left) : WSs (X_l_meet P w K mg base f cdv Ar outer s H E) G ⟨[some (En (α := Tp (T3 Int Int Int)) rows), some (En (α := List Int) left), none, none], []⟩ (ifA ((forB ((defBody s_l_meet).getD 0 passS)).getD 0 passS)) (Thn (X_l_meet P w K mg base f cdv Ar outer s H E) G ((forB ((defBody s_l_meet).getD 0 passS)).drop 1) (EndL (ρ := Bool) (fun (v : Unit) => ⟨[some (En (α := Tp (T3 Int Int Int)) rows), some (En (α := List Int) left), none, none], []⟩) R_l_meet) (l_meet_3 rows left)) := by
  exact wss_ret (ev_bl) ⟨_, rfl, ret_dat⟩
def l_meet_2 (rows : List (Int × Int × Int)) (left : List Int) (i_ : Int) : Flow' Bool Unit := cond (((left).map (fun (z175 : Int) => decide (((gI rows i_).2.2) < ((gI rows z175).2.1)))).any id) (l_meet_3 rows left) (.next ())
def l_meet_2P (rows : List (Int × Int × Int)) (left : List Int) (i_ : Int) : Prop := (∀ z175 ∈ left, (InR i_ (rows).length) ∧ (InR z175 (rows).length)) ∧ ((left).length ≤ 100000) ∧ ((((left).map (fun (z175 : Int) => decide (((gI rows i_).2.2) < ((gI rows z175).2.1)))).any id) = true → (l_meet_3P rows left))
theorem l_meet_2_w (rows : List (Int × Int × Int)) (left : List Int) (i_ : Int) (h : l_meet_2P rows left i_) : WSs (X_l_meet P w K mg base f cdv Ar outer s H E) G ⟨[some (En (α := Tp (T3 Int Int Int)) rows), some (En (α := List Int) left), some (En (α := Int) i_), none], []⟩ (forB ((defBody s_l_meet).getD 0 passS)) (EndL (ρ := Bool) (fun (v : Unit) => ⟨[some (En (α := Tp (T3 Int Int Int)) rows), some (En (α := List Int) left), none, none], []⟩) R_l_meet (l_meet_2 rows left i_)) := by
  obtain ⟨q178_, q179_, q182_⟩ := h
  exact wss_ifM (EndL (ρ := Bool) (fun (v : Unit) => ⟨[some (En (α := Tp (T3 Int Int Int)) rows), some (En (α := List Int) left), none, none], []⟩) R_l_meet) (p := ((left).map (fun (z175 : Int) => decide (((gI rows i_).2.2) < ((gI rows z175).2.1)))).any id) (m1 := l_meet_3 rows left) (m2 := .next ()) rfl (et_B (ev_any (bs := (left).map (fun (z175 : Int) => decide (((gI rows i_).2.2) < ((gI rows z175).2.1)))) rfl B.any (lc_all (α := Int) (β := Bool) (xs := left) (f := fun (z175 : Int) => decide (((gI rows i_).2.2) < ((gI rows z175).2.1))) (sl' := fun (z175 : Int) => [some (En (α := Tp (T3 Int Int Int)) rows), some (En (α := List Int) left), some (En (α := Int) i_), some (En (α := Int) z175)]) [("j", 3)] (lcm_pe rfl sc_l_meet.nd (blkOk_by rfl)) (ei_of (es_lst (ev_name (a := En (α := List Int) left) (i := 1)))) (fun _ _ => trivial) q179_ (fun _ _ _ _ _  z175 c175 => eg_name (i := 3) sc_l_meet.nd) (fun _ _ _ _ _  z175 c175 hm175 => ev_lt (ev_part (j := 2) (ds := [Enc.enc (α := Int) ((gI rows i_).1), Enc.enc (α := Int) ((gI rows i_).2.1), Enc.enc (α := Int) ((gI rows i_).2.2)]) (ev_ixT (α := T3 Int Int Int) (xs := rows) (ev_name (a := En (α := Tp (T3 Int Int Int)) rows) (i := 0)) (ev_name (a := En (α := Int) i_) (i := 2)) ((rdt (α := T3 Int Int Int))) (q178_ z175 hm175).1) rfl) (ev_part (j := 1) (ds := [Enc.enc (α := Int) ((gI rows z175).1), Enc.enc (α := Int) ((gI rows z175).2.1), Enc.enc (α := Int) ((gI rows z175).2.2)]) (ev_ixT (α := T3 Int Int Int) (xs := rows) (ev_name (a := En (α := Tp (T3 Int Int Int)) rows) (i := 0)) (ev_name (a := En (α := Int) z175) (i := 3)) ((rdt (α := T3 Int Int Int))) (q178_ z175 hm175).2) rfl))) (rdl (α := Bool)))) (fun hp181_ => wss_fg (fg_of (by exact And.intro (Or.inr rfl) (And.intro (Or.inr rfl) (And.intro (Or.inl rfl) (And.intro (Or.inl rfl) (True.intro)))))) (l_meet_3_w B hr hB rows left (q182_ hp181_))) (fun hp183_ => end_thn (S' := ⟨[some (En (α := Tp (T3 Int Int Int)) rows), some (En (α := List Int) left), none, none], []⟩) (fg_of (by exact And.intro (Or.inr rfl) (And.intro (Or.inr rfl) (And.intro (Or.inl rfl) (And.intro (Or.inl rfl) (True.intro)))))) (end_nx ⟨_, rfl, fg_of (by exact And.intro (Or.inr rfl) (And.intro (Or.inr rfl) (And.intro (Or.inl rfl) (And.intro (Or.inl rfl) (True.intro)))))⟩))
def l_meet_4  : Bool := true
def l_meet_4P  : Prop := True
theorem l_meet_4_w  (h : l_meet_4P ) : WSs (X_l_meet P w K mg base f cdv Ar outer s H E) G ⟨[none, none, none, none], []⟩ ((defBody s_l_meet).drop 1) (EndR R_l_meet (l_meet_4 )) := by
  exact wss_ret (ev_bl) (ret_dat)
def l_meet_1 (rows : List (Int × Int × Int)) (left : List Int) : Bool := (loopF (fun (v : Unit) (x : Int) => l_meet_2 rows left x) left ()).fin (id) (fun (v : Unit) => l_meet_4 )
def l_meet_1P (rows : List (Int × Int × Int)) (left : List Int) : Prop := (loopFP (fun (v : Unit) (x : Int) => l_meet_2 rows left x) (fun (v : Unit) (x : Int) => l_meet_2P rows left x) left ()) ∧ (∀ v, (loopF (fun (v : Unit) (x : Int) => l_meet_2 rows left x) left () = .next v ∨ loopF (fun (v : Unit) (x : Int) => l_meet_2 rows left x) left () = .brk v) → (fun (v : Unit) => l_meet_4P ) v)
theorem l_meet_1_w (rows : List (Int × Int × Int)) (left : List Int) (h : l_meet_1P rows left) : WSs (X_l_meet P w K mg base f cdv Ar outer s H E) G ⟨[some (En (α := Tp (T3 Int Int Int)) rows), some (En (α := List Int) left), none, none], []⟩ (defBody s_l_meet) (EndR R_l_meet (l_meet_1 rows left)) := by
  obtain ⟨q184_, q185_⟩ := h
  exact wss_forM (α := Int) (xs := left) (EndR R_l_meet) (fun (v : Unit) (x : Int) => l_meet_2 rows left x) () (fun (v : Unit) => ⟨[some (En (α := Tp (T3 Int Int Int)) rows), some (En (α := List Int) left), none, none], []⟩) R_l_meet (id) (fun (v : Unit) => l_meet_4 ) rfl PassesOwn.never rfl (es_lst (ev_name (a := En (α := List Int) left) (i := 1))) (fg_of (by exact And.intro (Or.inr rfl) (And.intro (Or.inr rfl) (And.intro (Or.inl rfl) (And.intro (Or.inl rfl) (True.intro)))))) (fun i x v hx hv => ⟨_, _, eg_name (i := 2) sc_l_meet.nd, l_meet_2_w B hr hB rows left x (q184_ i x v hx hv)⟩) (fun _ _ _ h => h) (fun v hv => wss_fg (fg_of (by exact And.intro (Or.inl rfl) (And.intro (Or.inl rfl) (And.intro (Or.inl rfl) (And.intro (Or.inl rfl) (True.intro)))))) (l_meet_4_w B hr hB  (q185_ v hv)))
def v_l_meet (rows : List (Int × Int × Int)) (left : List Int) : Bool := l_meet_1 rows left
def P_l_meet (rows : List (Int × Int × Int)) (left : List Int) : Prop := l_meet_1P rows left
def φ_l_meet : Ct := fun args cs r cs' => ∃ (rows : List (Int × Int × Int)) (left : List Int), args = [En (α := Tp (T3 Int Int Int)) rows, En (α := List Int) left] ∧ cs = [] ∧ P_l_meet rows left ∧ r = En (α := Bool) (v_l_meet rows left) ∧ cs' = []
omit hr hB in
theorem df_l_meet (T : Top K mg "_law_meet" s_l_meet ["rows", "left"]) : Df P w K mg base CX0 (0 + 1) "_law_meet" ["rows", "left"] φ_l_meet := by
  refine Df.mk' T sc_l_meet (fun args cs r cs' ⟨rows, left, e1, e2, hP, e3, e4⟩ => by subst e1 e2 e3 e4; exact ⟨rfl, by first | exact Nat.le_refl _ | exact Nat.zero_le _⟩) (fun f cdv Ar outer s H E G args cs r cs' hr ⟨rows, left, e1, e2, hP, e3, e4⟩ hB => ?_)
  subst e1 e2 e3 e4
  exact l_meet_1_w B hr hB rows left hP
end
/-! ### layers_of -/
section
abbrev s_layers_of : Stmt := topS 9
abbrev N_layers_of : List Str := ["line", "found", "opened", "now", "gave", "deed", "lock", "row"]
theorem sc_layers_of : FnScope N_layers_of ["line"] (defScope s_layers_of) := ⟨rfl, rfl, rfl, by decide +kernel, rfl, by decide +kernel, by decide +kernel⟩
abbrev X_layers_of (P : Program) (w : World) (K : PySem.W.Frag) (mg : Str → Option Value) (base : Heap) (f : Addr) (cdv : Value) (Ar : Around) (outer : List Env) (s : Shared) (H : Hp) (E : XK) : Cx := (cxOf CX0 P w K mg base N_layers_of "layers_of" (defScope s_layers_of) f cdv Ar outer s H E).nox
variable {P : Program} {w : World} {K : PySem.W.Frag} {mg : Str → Option Value} {base : Heap} {f : Addr} {cdv : Value} {Ar : Around} {outer : List Env} {s : Shared} {H : Hp} {E : XK} {G : Gh}
variable (B : Bi mg)  (hr : Room 0 (Ar.deeper (PyProof.Rows.envOfC "layers_of" (defScope s_layers_of) s.heap.objs.size f cdv))) (hB : G.B.length = 0) 
include B  hr hB 
abbrev R_layers_of : (List (Int × Int × Int)) → A → Ms → Prop := fun (v : List (Int × Int × Int)) (a : A) (S : Ms) => RetOk a S (En (α := Tp (T3 Int Int Int)) v) []
abbrev LayS := (List (Int × Int × Int) × List (Int × Int)) × Int × Bool
def layers_f (v : LayS) (x : Int × Int) : LayS :=
  cond (decide (x.1 = 0)) ((v.1.1 ++ [(x.2, v.2.1 + Ab.b2i v.2.2, v.2.1 + Ab.b2i v.2.2)], dput v.1.2 x.2 (v.1.1.length : Int)), v.2.1 + Ab.b2i v.2.2, decide (x.1 = 1))
    ((v.1.1.modify ((dgetO v.1.2 x.2).getD 0).toNat (fun r => (r.1, r.2.1, v.2.1)), ddel v.1.2 x.2), v.2.1, decide (x.1 = 1))
def layers_ok (v : LayS) (x : Int × Int) : Prop := v.1.1.length < 100000 ∧ v.1.2.length < 100000 ∧ (x.1 ≠ 0 → ∃ i : Nat, dgetO v.1.2 x.2 = some (i : Int) ∧ i < v.1.1.length)
def v_layers_of (line : List (Int × Int)) : List (Int × Int × Int) := (line.foldl layers_f (([], []), (0 : Int), false)).1.1
def P_layers_of (line : List (Int × Int)) : Prop := loopP layers_f layers_ok line (([], []), (0 : Int), false) ∧ (v_layers_of line).length ≤ 100000
abbrev LayT (line : List (Int × Int)) (v : LayS) : Ms := Trw [some (En (α := Tp (Int × Int)) line), some (.cell 0), some (.cell 1), some (En (α := Int) v.2.1), some (En (α := Bool) v.2.2), none, none, none] v.1
theorem layers_of_body_w (line : List (Int × Int)) (v : LayS) (x : Int × Int) (h : layers_ok v x) : WSs (X_layers_of P w K mg base f cdv Ar outer s H E) G (Trw [some (En (α := Tp (Int × Int)) line), some (.cell 0), some (.cell 1), some (En (α := Int) v.2.1), some (En (α := Bool) v.2.2), some (En (α := Int) x.1), some (En (α := Int) x.2), none] v.1) (forB ((defBody s_layers_of).getD 1 passS)) (EndN (LayT line) (layers_f v x)) := by
  obtain ⟨h2, h3, h4⟩ := h
  refine wss_ifM (EndN (LayT line)) (p := decide (x.1 = 0)) (m1 := ((v.1.1 ++ [(x.2, v.2.1 + Ab.b2i v.2.2, v.2.1 + Ab.b2i v.2.2)], dput v.1.2 x.2 (v.1.1.length : Int)), v.2.1 + Ab.b2i v.2.2, decide (x.1 = 1))) (m2 := ((v.1.1.modify ((dgetO v.1.2 x.2).getD 0).toNat (fun r => (r.1, r.2.1, v.2.1)), ddel v.1.2 x.2), v.2.1, decide (x.1 = 1))) rfl (et_eqI (ev_name (a := En (α := Int) x.1) (i := 5)) (ev_gint (i := 0) B.HOLD)) (fun hp => ?_) (fun hp => ?_)
  · refine wss_sn (sn_set (i := 3) sc_layers_of.nd (ev_add (ev_name (a := En (α := Int) v.2.1) (i := 3)) (ev_intB B.int (ev_name (a := En (α := Bool) v.2.2) (i := 4))))) ?_
    refine wss_sn (sn_dput (α := Int) (d := v.1.2) (u := (v.1.1.length : Int)) (hr.mono (by decide) : Room 0 _).u1 (ev_lenA (as := refs 2 (v.1.1.map toL).length) B.len (ev_name (a := .cell 0) (i := 1)) rfl (by rw [refs_len, List.length_map])) (ev_name (a := .cell 1) (i := 2)) (ev_name (a := En (α := Int) x.2) (i := 6)) rfl h3) ?_
    refine wss_sn (sn_addRow (r := [x.2, v.2.1 + Ab.b2i v.2.2, v.2.1 + Ab.b2i v.2.2]) (rows := v.1.1.map toL) (d := dput v.1.2 x.2 (v.1.1.length : Int)) (sl := [some (En (α := Tp (Int × Int)) line), some (.cell 0), some (.cell 1), some (En (α := Int) (v.2.1 + Ab.b2i v.2.2)), some (En (α := Bool) v.2.2), some (En (α := Int) x.1), some (En (α := Int) x.2), none]) (ev_name (a := .cell 0) (i := 1)) (ea_cons (ev_name (a := En (α := Int) x.2) (i := 6)) (ea_cons (ev_name (a := En (α := Int) (v.2.1 + Ab.b2i v.2.2)) (i := 3)) (ea_cons (ev_name (a := En (α := Int) (v.2.1 + Ab.b2i v.2.2)) (i := 3)) ea_nil))) (Nat.le_of_ble_eq_true rfl) (by rw [List.length_map]; exact h2)) ?_
    refine end_thn (Fg.refl _) (wss_sn (sn_set (i := 4) sc_layers_of.nd (ev_eqI (ev_name (a := En (α := Int) x.1) (i := 5)) (ev_gint (i := 1) B.GIVE))) (end_nx ?_))
    show Fg _ (Trw _ (v.1.1 ++ [(x.2, v.2.1 + Ab.b2i v.2.2, v.2.1 + Ab.b2i v.2.2)], _))
    unfold Trw
    rw [List.map_append]
    exact fg_of (by exact And.intro (Or.inr rfl) (And.intro (Or.inr rfl) (And.intro (Or.inr rfl) (And.intro (Or.inr rfl) (And.intro (Or.inr rfl) (And.intro (Or.inl rfl) (And.intro (Or.inl rfl) (And.intro (Or.inl rfl) True.intro))))))))
  · obtain ⟨i, k1, k2⟩ := h4 (of_decide_eq_false hp)
    have hi : v.1.1[i]? = some v.1.1[i] := List.getElem?_eq_getElem k2
    refine wss_sn (sn_setRow (rows := v.1.1.map toL) (d := v.1.2) (j := x.2) (i := i) (r := toL v.1.1[i]) (sl := [some (En (α := Tp (Int × Int)) line), some (.cell 0), some (.cell 1), some (En (α := Int) v.2.1), some (En (α := Bool) v.2.2), some (En (α := Int) x.1), some (En (α := Int) x.2), none]) (ev_name (a := En (α := Int) v.2.1) (i := 3)) (ev_name (a := .cell 0) (i := 1)) (ev_dpop (α := Int) (u := (i : Int)) (d := v.1.2) (ev_name (a := .cell 1) (i := 2)) (ev_name (a := En (α := Int) x.2) (i := 6)) rfl ⟨_, rfl⟩ k1) (by rw [List.getElem?_map, hi]; rfl) (by show 2 < 3; decide)) ?_
    refine end_thn (Fg.refl _) (wss_sn (sn_set (i := 4) sc_layers_of.nd (ev_eqI (ev_name (a := En (α := Int) x.1) (i := 5)) (ev_gint (i := 1) B.GIVE))) (end_nx ?_))
    show Fg _ (Trw _ (v.1.1.modify ((dgetO v.1.2 x.2).getD 0).toNat _, _))
    rw [k1, toL_mod i v.2.1 v.1.1 hi]
    exact fg_of (by exact And.intro (Or.inr rfl) (And.intro (Or.inr rfl) (And.intro (Or.inr rfl) (And.intro (Or.inr rfl) (And.intro (Or.inr rfl) (And.intro (Or.inl rfl) (And.intro (Or.inl rfl) (And.intro (Or.inl rfl) True.intro))))))))
theorem layers_of_top_w (line : List (Int × Int)) (h : P_layers_of line) : WSs (X_layers_of P w K mg base f cdv Ar outer s H E) G ⟨[some (En (α := Tp (Int × Int)) line), none, none, none, none, none, none, none], []⟩ (defBody s_layers_of) (EndR R_layers_of (v_layers_of line)) := by
  obtain ⟨h2, h3⟩ := h
  refine wss_sn (sn_tupC rfl (ea_cons (ev_lstC (as := []) ea_nil) (ea_cons ev_dnewC (ea_cons ev_int (ea_cons ev_bl ea_nil)))) (egs_cons (eg_name (i := 1) sc_layers_of.nd) (egs_cons (eg_name (i := 2) sc_layers_of.nd) (egs_cons (eg_name (i := 3) sc_layers_of.nd) (egs_cons (eg_name (i := 4) sc_layers_of.nd) egs_nil))))) ?_
  refine wss_forN (α := Int × Int) (xs := line) (EndR R_layers_of) layers_f (([], []), (0 : Int), false) (LayT line) (fun v => v.1.1) rfl PassesOwn.never rfl (es_tup (ev_name (a := En (α := Tp (Int × Int)) line) (i := 0))) (Fg.refl _) (fun i x hx => ⟨_, _, eg_tup (ds := [Enc.enc (α := Int) x.1, Enc.enc (α := Int) x.2]) rfl (egs_cons (eg_name (i := 5) sc_layers_of.nd) (egs_cons (eg_name (i := 6) sc_layers_of.nd) egs_nil)), layers_of_body_w B hr hB line _ x (h2 i x hx)⟩) ?_
  have hv : (List.foldl layers_f (([], []), (0 : Int), false) line).1.1.length ≤ 100000 := h3
  generalize List.foldl layers_f (([], []), (0 : Int), false) line = v at hv ⊢
  have th := wss_thawRows (X := (X_layers_of P w K mg base f cdv Ar outer s H E)) (G := G) (sl := [some (En (α := Tp (Int × Int)) line), some (.cell 0), some (.cell 1), some (En (α := Int) v.2.1), some (En (α := Bool) v.2.2), none, none, none]) (sts := (defBody s_layers_of).drop 2) (E := EndR R_layers_of v.1.1) (by omega) (v.1.1.map toL) [] v.1.2 (fun i k e => by
    match i, e with
    | 0, e => cases e
    | 1, e => cases e; decide
    | 2, e => cases e; decide
    | 3, e => cases e
    | 4, e => cases e
    | 5, e => cases e
    | 6, e => cases e
    | 7, e => cases e
    | n + 8, e => cases e)
  rw [List.map_nil, List.append_nil, List.append_nil] at th
  refine th ?_
  refine wss_ret (EV.be (En (α := Tp (Tp Int)) (v.1.1.map toL)) (ev_tupL (ds := List.map (Enc.enc (α := Tp Int)) (v.1.1.map toL)) B.tuple (EV.to (lc_all (α := List Int) (β := Tp Int) (xs := v.1.1.map toL) (f := fun r => r) (sl' := fun r => [some (En (α := Tp (Int × Int)) line), some (.cell 0), some (.cell 1), some (En (α := Int) v.2.1), some (En (α := Bool) v.2.2), none, none, some (En (α := List Int) r)]) [("row", 7)] (lcm_pe rfl sc_layers_of.nd (blkOk_by rfl)) (ei_cl (xs := v.1.1.map toL) (ev_name (a := .cell 0) (i := 1)) rfl) (fun _ _ => rfl) (by rw [List.length_map]; exact hv) (fun _ _ _ _ _ x c => eg_name (i := 7) sc_layers_of.nd) (fun _ _ _ _ _ x c hm => ev_tupL (ds := List.map (Enc.enc (α := Int)) x) B.tuple (ev_name (a := En (α := List Int) x) (i := 7)) (rdl (α := Int)))) (congrArg (fun z : List (List Int) => En (α := List (Tp Int)) z) (List.map_id' (v.1.1.map toL)))) (rdl (α := Tp Int)))) ?_
  show RetOk _ _ (En (α := Tp (T3 Int Int Int)) v.1.1) []
  rw [enc_toL]
  exact ret_dat
def φ_layers_of : Ct := fun args cs r cs' => ∃ (line : List (Int × Int)), args = [En (α := Tp (Int × Int)) line] ∧ cs = [] ∧ P_layers_of line ∧ r = En (α := Tp (T3 Int Int Int)) (v_layers_of line) ∧ cs' = []
omit hr hB in
theorem df_layers_of (T : Top K mg "layers_of" s_layers_of ["line"]) : Df P w K mg base CX0 (0 + 1) "layers_of" ["line"] φ_layers_of := by
  refine Df.mk' T sc_layers_of (fun args cs r cs' ⟨line, e1, e2, hP, e3, e4⟩ => by subst e1 e2 e3 e4; exact ⟨rfl, by first | exact Nat.le_refl _ | exact Nat.zero_le _⟩) (fun f cdv Ar outer s H E G args cs r cs' hr ⟨line, e1, e2, hP, e3, e4⟩ hB => ?_)
  subst e1 e2 e3 e4
  exact layers_of_top_w B hr hB line hP
end
/-! ### many_layers -/
section
abbrev s_many_layers : Stmt := topS 10
abbrev N_many_layers : List Str := ["line", "places", "place"]
theorem sc_many_layers : FnScope N_many_layers ["line"] (defScope s_many_layers) := ⟨rfl, rfl, rfl, by decide +kernel, rfl, by decide +kernel, by decide +kernel⟩
abbrev X_many_layers (P : Program) (w : World) (K : PySem.W.Frag) (mg : Str → Option Value) (base : Heap) (f : Addr) (cdv : Value) (Ar : Around) (outer : List Env) (s : Shared) (H : Hp) (E : XK) : Cx := (cxOf CX0 P w K mg base N_many_layers "many_layers" (defScope s_many_layers) f cdv Ar outer s H E).nox
variable {P : Program} {w : World} {K : PySem.W.Frag} {mg : Str → Option Value} {base : Heap} {f : Addr} {cdv : Value} {Ar : Around} {outer : List Env} {s : Shared} {H : Hp} {E : XK} {G : Gh}
variable (B : Bi mg)  (hr : Room 0 (Ar.deeper (PyProof.Rows.envOfC "many_layers" (defScope s_many_layers) s.heap.objs.size f cdv))) (hB : G.B.length = 0) 
include B  hr hB 
abbrev R_many_layers : Int → A → Ms → Prop := fun (v : Int) (a : A) (S : Ms) => RetOk a S (En (α := Int) v) []
def many_layers_2 (line : List (Int × Int)) (places : Int × Int) : Int := ((((rngL places.1 (places.2 - places.1).toNat).filter (fun (z188 : Int) => (decide (((gI line (z188 - (1 : Int))).1) = (1 : Int))) && (decide (((gI line z188).1) = (0 : Int))))).map (fun (z188 : Int) => z188)).length : Int) + (Ab.b2i (!decide (line = [])))
def many_layers_2P (line : List (Int × Int)) (places : Int × Int) : Prop := (RgOk places.1) ∧ (RgOk places.2) ∧ (∀ z188 ∈ (rngL places.1 (places.2 - places.1).toNat), (InR (z188 - (1 : Int)) (line).length) ∧ ((decide (((gI line (z188 - (1 : Int))).1) = (1 : Int))) = true → (InR z188 (line).length))) ∧ ((rngL places.1 (places.2 - places.1).toNat).length ≤ 100000)
theorem many_layers_2_w (line : List (Int × Int)) (places : Int × Int) (h : many_layers_2P line places) : WSs (X_many_layers P w K mg base f cdv Ar outer s H E) G ⟨[some (En (α := Tp (Int × Int)) line), some (En (α := Rg) places), none], []⟩ ((defBody s_many_layers).drop 1) (EndR R_many_layers (many_layers_2 line places)) := by
  obtain ⟨q186_, q187_, q193_, q194_⟩ := h
  exact wss_ret (ev_add (ev_len (α := Int) (xs := ((rngL places.1 (places.2 - places.1).toNat).filter (fun (z188 : Int) => (decide (((gI line (z188 - (1 : Int))).1) = (1 : Int))) && (decide (((gI line z188).1) = (0 : Int))))).map (fun (z188 : Int) => z188)) B.len (lc_any (α := Int) (β := Int) (xs := rngL places.1 (places.2 - places.1).toNat) (p := fun (z188 : Int) => (decide (((gI line (z188 - (1 : Int))).1) = (1 : Int))) && (decide (((gI line z188).1) = (0 : Int)))) (f := fun (z188 : Int) => z188) (sl' := fun (z188 : Int) => [some (En (α := Tp (Int × Int)) line), some (En (α := Rg) places), some (En (α := Int) z188)]) [("place", 2)] (lcm_pe rfl sc_many_layers.nd (blkOk_by rfl)) (ei_of (es_rngV (lo := places.1) (hi := places.2) (ev_name (a := En (α := Rg) places) (i := 1)) q186_ q187_)) (fun _ _ => trivial) q194_ (fun _ _ _ _ _  z188 c188 => eg_name (i := 2) sc_many_layers.nd) (fun _ _ _ _ _  z188 c188 hm188 => ets_one (et_w (ew_and (p := decide (((gI line (z188 - (1 : Int))).1) = (1 : Int))) (q := decide (((gI line z188).1) = (0 : Int))) (et_eqI (ev_part (j := 0) (ds := [Enc.enc (α := Int) ((gI line (z188 - (1 : Int))).1), Enc.enc (α := Int) ((gI line (z188 - (1 : Int))).2)]) (ev_ixT (α := Int × Int) (xs := line) (ev_name (a := En (α := Tp (Int × Int)) line) (i := 0)) (ev_sub (ev_name (a := En (α := Int) z188) (i := 2)) (ev_int)) ((rdt (α := Int × Int))) (q193_ z188 hm188).1) rfl) (ev_gint (i := 1) B.GIVE)) (fun hp191_ => ew_and1 (et_eqI (ev_part (j := 0) (ds := [Enc.enc (α := Int) ((gI line z188).1), Enc.enc (α := Int) ((gI line z188).2)]) (ev_ixT (α := Int × Int) (xs := line) (ev_name (a := En (α := Tp (Int × Int)) line) (i := 0)) (ev_name (a := En (α := Int) z188) (i := 2)) ((rdt (α := Int × Int))) ((q193_ z188 hm188).2 hp191_)) rfl) (ev_gint (i := 0) B.HOLD)))))) (fun _ _ _ _ _  z188 c188 hm188 hp188 => ev_name (a := En (α := Int) z188) (i := 2))) (.inl (rdl (α := Int)))) (ev_intB B.int (ev_neD (α := Tp (Int × Int)) (u := line) (w := []) (hr.mono (by decide) : Room 0 _).units (ev_name (a := En (α := Tp (Int × Int)) line) (i := 0)) (EV.be (En (α := Tp (Int × Int)) []) (ev_tup (ds := []) ea_nil))))) (ret_dat)
def many_layers_1 (line : List (Int × Int)) : Int := many_layers_2 line ((1 : Int), (line.length : Int))
def many_layers_1P (line : List (Int × Int)) : Prop := (many_layers_2P line ((1 : Int), (line.length : Int)))
theorem many_layers_1_w (line : List (Int × Int)) (h : many_layers_1P line) : WSs (X_many_layers P w K mg base f cdv Ar outer s H E) G ⟨[some (En (α := Tp (Int × Int)) line), none, none], []⟩ (defBody s_many_layers) (EndR R_many_layers (many_layers_1 line)) := by
  have q195_ := h
  exact wss_sn (sn_set (i := 1) sc_many_layers.nd (EV.be (En (α := Rg) ((1 : Int), (line.length : Int))) (ev_rng2 B.range (ev_int) (ev_len (α := Int × Int) (xs := line) B.len (ev_name (a := En (α := Tp (Int × Int)) line) (i := 0)) (.inr (rdt (α := Int × Int))))))) (many_layers_2_w B hr hB line ((1 : Int), (line.length : Int)) q195_)
def v_many_layers (line : List (Int × Int)) : Int := many_layers_1 line
def P_many_layers (line : List (Int × Int)) : Prop := many_layers_1P line
def φ_many_layers : Ct := fun args cs r cs' => ∃ (line : List (Int × Int)), args = [En (α := Tp (Int × Int)) line] ∧ cs = [] ∧ P_many_layers line ∧ r = En (α := Int) (v_many_layers line) ∧ cs' = []
omit hr hB in
theorem df_many_layers (T : Top K mg "many_layers" s_many_layers ["line"]) : Df P w K mg base CX0 (0 + 1) "many_layers" ["line"] φ_many_layers := by
  refine Df.mk' T sc_many_layers (fun args cs r cs' ⟨line, e1, e2, hP, e3, e4⟩ => by subst e1 e2 e3 e4; exact ⟨rfl, by first | exact Nat.le_refl _ | exact Nat.zero_le _⟩) (fun f cdv Ar outer s H E G args cs r cs' hr ⟨line, e1, e2, hP, e3, e4⟩ hB => ?_)
  subst e1 e2 e3 e4
  exact many_layers_1_w B hr hB line hP
end
/-! ### locks_of -/
section
abbrev s_locks_of : Stmt := topS 7
abbrev N_locks_of : List Str := ["line", "deed", "lock"]
theorem sc_locks_of : FnScope N_locks_of ["line"] (defScope s_locks_of) := ⟨rfl, rfl, rfl, by decide +kernel, rfl, by decide +kernel, by decide +kernel⟩
abbrev X_locks_of (P : Program) (w : World) (K : PySem.W.Frag) (mg : Str → Option Value) (base : Heap) (f : Addr) (cdv : Value) (Ar : Around) (outer : List Env) (s : Shared) (H : Hp) (E : XK) : Cx := (cxOf CX0 P w K mg base N_locks_of "locks_of" (defScope s_locks_of) f cdv Ar outer s H E).nox
variable {P : Program} {w : World} {K : PySem.W.Frag} {mg : Str → Option Value} {base : Heap} {f : Addr} {cdv : Value} {Ar : Around} {outer : List Env} {s : Shared} {H : Hp} {E : XK} {G : Gh}
variable (B : Bi mg)  (hr : Room 0 (Ar.deeper (PyProof.Rows.envOfC "locks_of" (defScope s_locks_of) s.heap.objs.size f cdv))) (hB : G.B.length = 0) 
include B  hr hB 
abbrev R_locks_of : (List Int) → A → Ms → Prop := fun (v : List Int) (a : A) (S : Ms) => RetOk a S (En (α := Tp Int) v) []
def locks_of_1 (line : List (Int × Int)) : List Int := ((line).filter (fun (z196 : Int × Int) => decide (z196.1 = (0 : Int)))).map (fun (z196 : Int × Int) => z196.2)
def locks_of_1P (line : List (Int × Int)) : Prop := ((line).length ≤ 100000)
theorem locks_of_1_w (line : List (Int × Int)) (h : locks_of_1P line) : WSs (X_locks_of P w K mg base f cdv Ar outer s H E) G ⟨[some (En (α := Tp (Int × Int)) line), none, none], []⟩ (defBody s_locks_of) (EndR R_locks_of (locks_of_1 line)) := by
  have q197_ := h
  exact wss_ret (EV.be (En (α := Tp Int) (((line).filter (fun (z196 : Int × Int) => decide (z196.1 = (0 : Int)))).map (fun (z196 : Int × Int) => z196.2))) (ev_tupL (ds := List.map (Enc.enc (α := Int)) (((line).filter (fun (z196 : Int × Int) => decide (z196.1 = (0 : Int)))).map (fun (z196 : Int × Int) => z196.2))) B.tuple (lc_any (α := Int × Int) (β := Int) (xs := line) (p := fun (z196 : Int × Int) => decide (z196.1 = (0 : Int))) (f := fun (z196 : Int × Int) => z196.2) (sl' := fun (z196 : Int × Int) => [some (En (α := Tp (Int × Int)) line), some (En (α := Int) z196.1), some (En (α := Int) z196.2)]) [("deed", 1), ("lock", 2)] (lcm_pe rfl sc_locks_of.nd (blkOk_by rfl)) (ei_of (es_tup (ev_name (a := En (α := Tp (Int × Int)) line) (i := 0)))) (fun _ _ => trivial) q197_ (fun _ _ _ _ _  z196 c196 => eg_tup (ds := [Enc.enc (α := Int) z196.1, Enc.enc (α := Int) z196.2]) rfl (egs_cons (eg_name (i := 1) sc_locks_of.nd) (egs_cons (eg_name (i := 2) sc_locks_of.nd) (egs_nil)))) (fun _ _ _ _ _  z196 c196 hm196 => ets_one (et_eqI (ev_name (a := En (α := Int) z196.1) (i := 1)) (ev_gint (i := 0) B.HOLD))) (fun _ _ _ _ _  z196 c196 hm196 hp196 => ev_name (a := En (α := Int) z196.2) (i := 2))) ((rdl (α := Int))))) (ret_dat)
def v_locks_of (line : List (Int × Int)) : List Int := locks_of_1 line
def P_locks_of (line : List (Int × Int)) : Prop := locks_of_1P line
def φ_locks_of : Ct := fun args cs r cs' => ∃ (line : List (Int × Int)), args = [En (α := Tp (Int × Int)) line] ∧ cs = [] ∧ P_locks_of line ∧ r = En (α := Tp Int) (v_locks_of line) ∧ cs' = []
omit hr hB in
theorem df_locks_of (T : Top K mg "locks_of" s_locks_of ["line"]) : Df P w K mg base CX0 (0 + 1) "locks_of" ["line"] φ_locks_of := by
  refine Df.mk' T sc_locks_of (fun args cs r cs' ⟨line, e1, e2, hP, e3, e4⟩ => by subst e1 e2 e3 e4; exact ⟨rfl, by first | exact Nat.le_refl _ | exact Nat.zero_le _⟩) (fun f cdv Ar outer s H E G args cs r cs' hr ⟨line, e1, e2, hP, e3, e4⟩ hB => ?_)
  subst e1 e2 e3 e4
  exact locks_of_1_w B hr hB line hP
end
/-! ### windows_of -/
section
abbrev s_windows_of : Stmt := topS 6
abbrev N_windows_of : List Str := ["line", "found", "opened", "place", "deed", "lock", "row"]
theorem sc_windows_of : FnScope N_windows_of ["line"] (defScope s_windows_of) := ⟨rfl, rfl, rfl, by decide +kernel, rfl, by decide +kernel, by decide +kernel⟩
abbrev X_windows_of (P : Program) (w : World) (K : PySem.W.Frag) (mg : Str → Option Value) (base : Heap) (f : Addr) (cdv : Value) (Ar : Around) (outer : List Env) (s : Shared) (H : Hp) (E : XK) : Cx := (cxOf CX0 P w K mg base N_windows_of "windows_of" (defScope s_windows_of) f cdv Ar outer s H E).nox
variable {P : Program} {w : World} {K : PySem.W.Frag} {mg : Str → Option Value} {base : Heap} {f : Addr} {cdv : Value} {Ar : Around} {outer : List Env} {s : Shared} {H : Hp} {E : XK} {G : Gh}
variable (B : Bi mg)  (hr : Room 0 (Ar.deeper (PyProof.Rows.envOfC "windows_of" (defScope s_windows_of) s.heap.objs.size f cdv))) (hB : G.B.length = 0) 
include B  hr hB 
abbrev R_windows_of : (List (Int × Int × Int)) → A → Ms → Prop := fun (v : List (Int × Int × Int)) (a : A) (S : Ms) => RetOk a S (En (α := Tp (T3 Int Int Int)) v) []
def windows_f (line : List (Int × Int)) (v : List (Int × Int × Int) × List (Int × Int)) (place : Int) : List (Int × Int × Int) × List (Int × Int) :=
  cond (decide ((gI line place).1 = 0)) (v.1 ++ [((gI line place).2, place, place)], dput v.2 (gI line place).2 (v.1.length : Int)) (v.1.modify ((dgetO v.2 (gI line place).2).getD 0).toNat (fun r => (r.1, r.2.1, place)), ddel v.2 (gI line place).2)
def windows_ok (line : List (Int × Int)) (v : List (Int × Int × Int) × List (Int × Int)) (place : Int) : Prop :=
  InR place line.length ∧ v.1.length < 100000 ∧ v.2.length < 100000 ∧ ((gI line place).1 ≠ 0 → ∃ i : Nat, dgetO v.2 (gI line place).2 = some (i : Int) ∧ i < v.1.length)
def v_windows_of (line : List (Int × Int)) : List (Int × Int × Int) := ((rngL 0 ((line.length : Int)).toNat).foldl (windows_f line) ([], [])).1
def P_windows_of (line : List (Int × Int)) : Prop := RgOk (line.length : Int) ∧ loopP (windows_f line) (windows_ok line) (rngL 0 ((line.length : Int)).toNat) ([], []) ∧ (v_windows_of line).length ≤ 100000
theorem windows_of_body_w (line : List (Int × Int)) (v : List (Int × Int × Int) × List (Int × Int)) (place : Int) (h : windows_ok line v place) : WSs (X_windows_of P w K mg base f cdv Ar outer s H E) G (Trw [some (En (α := Tp (Int × Int)) line), some (.cell 0), some (.cell 1), some (En (α := Int) place), none, none, none] v) (forB ((defBody s_windows_of).getD 1 passS)) (EndN (fun v => Trw [some (En (α := Tp (Int × Int)) line), some (.cell 0), some (.cell 1), none, none, none, none] v) (windows_f line v place)) := by
  obtain ⟨h1, h2, h3, h4⟩ := h
  refine wss_sn (sn_asg (ev_ixT (α := Int × Int) (xs := line) (ev_name (a := En (α := Tp (Int × Int)) line) (i := 0)) (ev_name (a := En (α := Int) place) (i := 3)) (rdt (α := Int × Int)) h1) (eg_tup (ds := [Enc.enc (α := Int) (gI line place).1, Enc.enc (α := Int) (gI line place).2]) rfl (egs_cons (eg_name (i := 4) sc_windows_of.nd) (egs_cons (eg_name (i := 5) sc_windows_of.nd) egs_nil)))) ?_
  refine wss_ifM (EndN (fun v => Trw [some (En (α := Tp (Int × Int)) line), some (.cell 0), some (.cell 1), none, none, none, none] v)) (p := decide ((gI line place).1 = 0)) (m1 := (v.1 ++ [((gI line place).2, place, place)], dput v.2 (gI line place).2 (v.1.length : Int))) (m2 := (v.1.modify ((dgetO v.2 (gI line place).2).getD 0).toNat (fun r => (r.1, r.2.1, place)), ddel v.2 (gI line place).2)) rfl (et_eqI (ev_name (a := En (α := Int) (gI line place).1) (i := 4)) (ev_gint (i := 0) B.HOLD)) (fun hp => ?_) (fun hp => ?_)
  · refine wss_sn (sn_dput (α := Int) (d := v.2) (u := (v.1.length : Int)) (hr.mono (by decide) : Room 0 _).u1 (ev_lenA (as := refs 2 (v.1.map toL).length) B.len (ev_name (a := .cell 0) (i := 1)) rfl (by rw [refs_len, List.length_map])) (ev_name (a := .cell 1) (i := 2)) (ev_name (a := En (α := Int) (gI line place).2) (i := 5)) rfl h3) ?_
    refine wss_sn (sn_addRow (r := [(gI line place).2, place, place]) (rows := v.1.map toL) (d := dput v.2 (gI line place).2 (v.1.length : Int)) (sl := [some (En (α := Tp (Int × Int)) line), some (.cell 0), some (.cell 1), some (En (α := Int) place), some (En (α := Int) (gI line place).1), some (En (α := Int) (gI line place).2), none]) (ev_name (a := .cell 0) (i := 1)) (ea_cons (ev_name (a := En (α := Int) (gI line place).2) (i := 5)) (ea_cons (ev_name (a := En (α := Int) place) (i := 3)) (ea_cons (ev_name (a := En (α := Int) place) (i := 3)) ea_nil))) (Nat.le_of_ble_eq_true rfl) (by rw [List.length_map]; exact h2)) ?_
    refine end_thn (Fg.refl _) (end_nx ?_)
    show Fg _ (Trw _ (v.1 ++ [((gI line place).2, place, place)], _))
    unfold Trw
    rw [List.map_append]
    exact fg_of (by exact And.intro (Or.inr rfl) (And.intro (Or.inr rfl) (And.intro (Or.inr rfl) (And.intro (Or.inl rfl) (And.intro (Or.inl rfl) (And.intro (Or.inl rfl) (And.intro (Or.inl rfl) True.intro)))))))
  · obtain ⟨i, k1, k2⟩ := h4 (of_decide_eq_false hp)
    have hi : v.1[i]? = some v.1[i] := List.getElem?_eq_getElem k2
    refine wss_sn (sn_setRow (rows := v.1.map toL) (d := v.2) (j := (gI line place).2) (i := i) (r := toL v.1[i]) (sl := [some (En (α := Tp (Int × Int)) line), some (.cell 0), some (.cell 1), some (En (α := Int) place), some (En (α := Int) (gI line place).1), some (En (α := Int) (gI line place).2), none]) (ev_name (a := En (α := Int) place) (i := 3)) (ev_name (a := .cell 0) (i := 1)) (ev_dpop (α := Int) (u := (i : Int)) (d := v.2) (ev_name (a := .cell 1) (i := 2)) (ev_name (a := En (α := Int) (gI line place).2) (i := 5)) rfl ⟨_, rfl⟩ k1) (by rw [List.getElem?_map, hi]; rfl) (by show 2 < 3; decide)) ?_
    refine end_thn (Fg.refl _) (end_nx ?_)
    show Fg _ (Trw _ (v.1.modify ((dgetO v.2 (gI line place).2).getD 0).toNat _, _))
    rw [k1, toL_mod i place v.1 hi]
    exact fg_of (by exact And.intro (Or.inr rfl) (And.intro (Or.inr rfl) (And.intro (Or.inr rfl) (And.intro (Or.inl rfl) (And.intro (Or.inl rfl) (And.intro (Or.inl rfl) (And.intro (Or.inl rfl) True.intro)))))))
theorem windows_of_top_w (line : List (Int × Int)) (h : P_windows_of line) : WSs (X_windows_of P w K mg base f cdv Ar outer s H E) G ⟨[some (En (α := Tp (Int × Int)) line), none, none, none, none, none, none], []⟩ (defBody s_windows_of) (EndR R_windows_of (v_windows_of line)) := by
  obtain ⟨h1, h2, h3⟩ := h
  refine wss_sn (sn_par2 (i := 1) (j := 2) rfl sc_windows_of.nd (ea_cons (ev_lstC (as := []) ea_nil) (ea_cons ev_dnewC ea_nil))) ?_
  refine wss_forN (α := Int) (xs := rngL 0 ((line.length : Int)).toNat) (EndR R_windows_of) (windows_f line) ([], []) (fun v => Trw [some (En (α := Tp (Int × Int)) line), some (.cell 0), some (.cell 1), none, none, none, none] v) (fun v => v.1) rfl PassesOwn.never rfl (es_rng1 B.range (ev_len (α := Int × Int) (xs := line) B.len (ev_name (a := En (α := Tp (Int × Int)) line) (i := 0)) (.inr (rdt (α := Int × Int)))) h1) (Fg.refl _) (fun i x hx => ⟨_, _, eg_name (i := 3) sc_windows_of.nd, windows_of_body_w B hr hB line _ x (h2 i x hx)⟩) ?_
  have hv : (List.foldl (windows_f line) ([], []) (rngL 0 ((line.length : Int)).toNat)).1.length ≤ 100000 := h3
  generalize List.foldl (windows_f line) ([], []) (rngL 0 ((line.length : Int)).toNat) = v at hv ⊢
  have th := wss_thawRows (X := (X_windows_of P w K mg base f cdv Ar outer s H E)) (G := G) (sl := [some (En (α := Tp (Int × Int)) line), some (.cell 0), some (.cell 1), none, none, none, none]) (sts := (defBody s_windows_of).drop 2) (E := EndR R_windows_of v.1) (by omega) (v.1.map toL) [] v.2 (fun i k e => by
    match i, e with
    | 0, e => cases e
    | 1, e => cases e; decide
    | 2, e => cases e; decide
    | 3, e => cases e
    | 4, e => cases e
    | 5, e => cases e
    | 6, e => cases e
    | n + 7, e => cases e)
  rw [List.map_nil, List.append_nil, List.append_nil] at th
  refine th ?_
  refine wss_ret (EV.be (En (α := Tp (Tp Int)) (v.1.map toL)) (ev_tupL (ds := List.map (Enc.enc (α := Tp Int)) (v.1.map toL)) B.tuple (EV.to (lc_all (α := List Int) (β := Tp Int) (xs := v.1.map toL) (f := fun r => r) (sl' := fun r => [some (En (α := Tp (Int × Int)) line), some (.cell 0), some (.cell 1), none, none, none, some (En (α := List Int) r)]) [("row", 6)] (lcm_pe rfl sc_windows_of.nd (blkOk_by rfl)) (ei_cl (xs := v.1.map toL) (ev_name (a := .cell 0) (i := 1)) rfl) (fun _ _ => rfl) (by rw [List.length_map]; exact hv) (fun _ _ _ _ _ x c => eg_name (i := 6) sc_windows_of.nd) (fun _ _ _ _ _ x c hm => ev_tupL (ds := List.map (Enc.enc (α := Int)) x) B.tuple (ev_name (a := En (α := List Int) x) (i := 6)) (rdl (α := Int)))) (congrArg (fun z : List (List Int) => En (α := List (Tp Int)) z) (List.map_id' (v.1.map toL)))) (rdl (α := Tp Int)))) ?_
  show RetOk _ _ (En (α := Tp (T3 Int Int Int)) v.1) []
  rw [enc_toL]
  exact ret_dat
def φ_windows_of : Ct := fun args cs r cs' => ∃ (line : List (Int × Int)), args = [En (α := Tp (Int × Int)) line] ∧ cs = [] ∧ P_windows_of line ∧ r = En (α := Tp (T3 Int Int Int)) (v_windows_of line) ∧ cs' = []
omit hr hB in
theorem df_windows_of (T : Top K mg "windows_of" s_windows_of ["line"]) : Df P w K mg base CX0 (0 + 1) "windows_of" ["line"] φ_windows_of := by
  refine Df.mk' T sc_windows_of (fun args cs r cs' ⟨line, e1, e2, hP, e3, e4⟩ => by subst e1 e2 e3 e4; exact ⟨rfl, by first | exact Nat.le_refl _ | exact Nat.zero_le _⟩) (fun f cdv Ar outer s H E G args cs r cs' hr ⟨line, e1, e2, hP, e3, e4⟩ hB => ?_)
  subst e1 e2 e3 e4
  exact windows_of_top_w B hr hB line hP
end
/-! ### before_of -/
section
abbrev s_before_of : Stmt := topS 8
abbrev N_before_of : List Str := ["line", "rows", "i", "j"]
theorem sc_before_of : FnScope N_before_of ["line"] (defScope s_before_of) := ⟨rfl, rfl, rfl, by decide +kernel, rfl, by decide +kernel, by decide +kernel⟩
abbrev X_before_of (P : Program) (w : World) (K : PySem.W.Frag) (mg : Str → Option Value) (base : Heap) (f : Addr) (cdv : Value) (Ar : Around) (outer : List Env) (s : Shared) (H : Hp) (E : XK) : Cx := (cxOf CX0 P w K mg base N_before_of "before_of" (defScope s_before_of) f cdv Ar outer s H E).nox
variable {P : Program} {w : World} {K : PySem.W.Frag} {mg : Str → Option Value} {base : Heap} {f : Addr} {cdv : Value} {Ar : Around} {outer : List Env} {s : Shared} {H : Hp} {E : XK} {G : Gh}
variable (B : Bi mg) (D_windows_of : Df P w K mg base CX0 1 "windows_of" ["line"] φ_windows_of) (hr : Room 1 (Ar.deeper (PyProof.Rows.envOfC "before_of" (defScope s_before_of) s.heap.objs.size f cdv))) (hB : G.B.length = 0) 
include B D_windows_of hr hB 
abbrev R_before_of : (List (Int × Int)) → A → Ms → Prop := fun (v : List (Int × Int)) (a : A) (S : Ms) => RetOk a S (En (α := Tp (Int × Int)) v) []
def before_of_2 (rows : List (Int × Int × Int)) : List (Int × Int) := ((rngL 0 ((rows.length : Int)).toNat).filter (fun (z200 : Int) => true)).flatMap (fun (z200 : Int) => ((rngL 0 ((rows.length : Int)).toNat).filter (fun (y200 : Int) => decide (((gI rows z200).2.2) < ((gI rows y200).2.1)))).map (fun (y200 : Int) => (z200, y200)))
def before_of_2P (rows : List (Int × Int × Int)) : Prop := (RgOk (rows.length : Int)) ∧ (∀ z200 ∈ (rngL 0 ((rows.length : Int)).toNat), true = true → (RgOk (rows.length : Int))) ∧ (∀ z200 ∈ (rngL 0 ((rows.length : Int)).toNat), true = true → ∀ y200 ∈ (rngL 0 ((rows.length : Int)).toNat), (InR z200 (rows).length) ∧ (InR y200 (rows).length)) ∧ (((rngL 0 ((rows.length : Int)).toNat).flatMap (fun (z200 : Int) => rngL 0 ((rows.length : Int)).toNat)).length ≤ 100000)
theorem before_of_2_w (rows : List (Int × Int × Int)) (h : before_of_2P rows) : WSs (X_before_of P w K mg base f cdv Ar outer s H E) G ⟨[none, some (En (α := Tp (T3 Int Int Int)) rows), none, none], []⟩ ((defBody s_before_of).drop 1) (EndR R_before_of (before_of_2 rows)) := by
  obtain ⟨q199_, q204_, q205_, q206_⟩ := h
  exact wss_ret (EV.be (En (α := Tp (Int × Int)) (((rngL 0 ((rows.length : Int)).toNat).filter (fun (z200 : Int) => true)).flatMap (fun (z200 : Int) => ((rngL 0 ((rows.length : Int)).toNat).filter (fun (y200 : Int) => decide (((gI rows z200).2.2) < ((gI rows y200).2.1)))).map (fun (y200 : Int) => (z200, y200))))) (ev_tupL (ds := List.map (Enc.enc (α := Int × Int)) (((rngL 0 ((rows.length : Int)).toNat).filter (fun (z200 : Int) => true)).flatMap (fun (z200 : Int) => ((rngL 0 ((rows.length : Int)).toNat).filter (fun (y200 : Int) => decide (((gI rows z200).2.2) < ((gI rows y200).2.1)))).map (fun (y200 : Int) => (z200, y200))))) B.tuple (lc2_any (α := Int) (β := Int × Int) (δ := Int) (xs := rngL 0 ((rows.length : Int)).toNat) (p := fun (z200 : Int) => true) (ys := fun (z200 : Int) => rngL 0 ((rows.length : Int)).toNat) (p1 := fun (z200 : Int) (y200 : Int) => decide (((gI rows z200).2.2) < ((gI rows y200).2.1))) (f := fun (z200 : Int) (y200 : Int) => (z200, y200)) (sl' := fun (z200 : Int) => [none, some (En (α := Tp (T3 Int Int Int)) rows), some (En (α := Int) z200), none]) (sl2 := fun (z200 : Int) (y200 : Int) => [none, some (En (α := Tp (T3 Int Int Int)) rows), some (En (α := Int) z200), some (En (α := Int) y200)]) [("i", 2), ("j", 3)] [3] (lcm2_pe rfl sc_before_of.nd (blkOk_by rfl) (by decide)) (ei_of (es_rng1 B.range (ev_len (α := T3 Int Int Int) (xs := rows) B.len (ev_name (a := En (α := Tp (T3 Int Int Int)) rows) (i := 1)) (.inr (rdt (α := T3 Int Int Int)))) q199_)) (fun _ _ => trivial) q206_ (fun _ _ _ _ _  z200 c200 => (eg_name (i := 2) sc_before_of.nd).more (by decide)) (fun _ _ _ _ _  z200 c200 hm200 => ets_nil) (fun _ _ _ _ _  z200 c200 hm200 hp200 => ei_of (es_rng1 B.range (ev_len (α := T3 Int Int Int) (xs := rows) B.len (ev_name (a := En (α := Tp (T3 Int Int Int)) rows) (i := 1)) (.inr (rdt (α := T3 Int Int Int)))) (q204_ z200 hm200 hp200))) (fun _ _ _ => trivial) (fun _ _ _ _ _  z200 y200 c200 => eg_name (i := 3) sc_before_of.nd) (fun _ _ _ _ _  z200 y200 c200 hm200 hp200 hy200 => ets_one (et_lt (ev_part (j := 2) (ds := [Enc.enc (α := Int) ((gI rows z200).1), Enc.enc (α := Int) ((gI rows z200).2.1), Enc.enc (α := Int) ((gI rows z200).2.2)]) (ev_ixT (α := T3 Int Int Int) (xs := rows) (ev_name (a := En (α := Tp (T3 Int Int Int)) rows) (i := 1)) (ev_name (a := En (α := Int) z200) (i := 2)) ((rdt (α := T3 Int Int Int))) (q205_ z200 hm200 hp200 y200 hy200).1) rfl) (ev_part (j := 1) (ds := [Enc.enc (α := Int) ((gI rows y200).1), Enc.enc (α := Int) ((gI rows y200).2.1), Enc.enc (α := Int) ((gI rows y200).2.2)]) (ev_ixT (α := T3 Int Int Int) (xs := rows) (ev_name (a := En (α := Tp (T3 Int Int Int)) rows) (i := 1)) (ev_name (a := En (α := Int) y200) (i := 3)) ((rdt (α := T3 Int Int Int))) (q205_ z200 hm200 hp200 y200 hy200).2) rfl))) (fun _ _ _ _ _  z200 y200 c200 hm200 hp200 hy200 hq200 => EV.be (En (α := Int × Int) (z200, y200)) (ev_tup (ds := [Enc.enc (α := Int) z200, Enc.enc (α := Int) y200]) (ea_cons (ev_name (a := En (α := Int) z200) (i := 2)) (ea_cons (ev_name (a := En (α := Int) y200) (i := 3)) (ea_nil)))))) ((rdl (α := Int × Int))))) (ret_dat)
def before_of_1 (line : List (Int × Int)) : List (Int × Int) := before_of_2 (v_windows_of line)
def before_of_1P (line : List (Int × Int)) : Prop := (P_windows_of line) ∧ (before_of_2P (v_windows_of line))
theorem before_of_1_w (line : List (Int × Int)) (h : before_of_1P line) : WSs (X_before_of P w K mg base f cdv Ar outer s H E) G ⟨[some (En (α := Tp (Int × Int)) line), none, none, none], []⟩ (defBody s_before_of) (EndR R_before_of (before_of_1 line)) := by
  obtain ⟨q198_, q207_⟩ := h
  exact wss_sn (sn_set (i := 1) sc_before_of.nd (ev_cf (φ := φ_windows_of) (ds := [Enc.enc (α := Tp (Int × Int)) line]) (r := Enc.enc (α := Tp (T3 Int Int Int)) (v_windows_of line)) D_windows_of (hr.mono (by decide)) pass0 (ea_cons (ev_name (a := En (α := Tp (Int × Int)) line) (i := 0)) (ea_nil)) ⟨line, rfl, rfl, q198_, rfl, rfl⟩)) (wss_fg (fg_of (by exact And.intro (Or.inl rfl) (And.intro (Or.inr rfl) (And.intro (Or.inl rfl) (And.intro (Or.inl rfl) (True.intro)))))) (before_of_2_w B D_windows_of hr hB (v_windows_of line) q207_))
def v_before_of (line : List (Int × Int)) : List (Int × Int) := before_of_1 line
def P_before_of (line : List (Int × Int)) : Prop := before_of_1P line
def φ_before_of : Ct := fun args cs r cs' => ∃ (line : List (Int × Int)), args = [En (α := Tp (Int × Int)) line] ∧ cs = [] ∧ P_before_of line ∧ r = En (α := Tp (Int × Int)) (v_before_of line) ∧ cs' = []
omit hr hB in
theorem df_before_of (T : Top K mg "before_of" s_before_of ["line"]) : Df P w K mg base CX0 (1 + 1) "before_of" ["line"] φ_before_of := by
  refine Df.mk' T sc_before_of (fun args cs r cs' ⟨line, e1, e2, hP, e3, e4⟩ => by subst e1 e2 e3 e4; exact ⟨rfl, by first | exact Nat.le_refl _ | exact Nat.zero_le _⟩) (fun f cdv Ar outer s H E G args cs r cs' hr ⟨line, e1, e2, hP, e3, e4⟩ hB => ?_)
  subst e1 e2 e3 e4
  exact before_of_1_w B D_windows_of hr hB line hP
end
/-! ### open_at -/
section
abbrev s_open_at : Stmt := topS 12
abbrev N_open_at : List Str := ["line", "rows", "found", "layer", "w"]
theorem sc_open_at : FnScope N_open_at ["line"] (defScope s_open_at) := ⟨rfl, rfl, rfl, by decide +kernel, rfl, by decide +kernel, by decide +kernel⟩
abbrev X_open_at (P : Program) (w : World) (K : PySem.W.Frag) (mg : Str → Option Value) (base : Heap) (f : Addr) (cdv : Value) (Ar : Around) (outer : List Env) (s : Shared) (H : Hp) (E : XK) : Cx := (cxOf CX0 P w K mg base N_open_at "open_at" (defScope s_open_at) f cdv Ar outer s H E).nox
variable {P : Program} {w : World} {K : PySem.W.Frag} {mg : Str → Option Value} {base : Heap} {f : Addr} {cdv : Value} {Ar : Around} {outer : List Env} {s : Shared} {H : Hp} {E : XK} {G : Gh}
variable (B : Bi mg) (D_layers_of : Df P w K mg base CX0 1 "layers_of" ["line"] φ_layers_of) (D_many_layers : Df P w K mg base CX0 1 "many_layers" ["line"] φ_many_layers) (hr : Room 1 (Ar.deeper (PyProof.Rows.envOfC "open_at" (defScope s_open_at) s.heap.objs.size f cdv))) (hB : G.B.length = 0) 
include B D_layers_of D_many_layers hr hB 
abbrev R_open_at : (List (List (Int × Int))) → A → Ms → Prop := fun (v : List (List (Int × Int))) (a : A) (S : Ms) => RetOk a S (En (α := List (Dc Int)) v) []
def open_at_4 (found : List (List (Int × Int))) (rows : List (Int × Int × Int)) (layer : Int) : (List (List (Int × Int))) := found ++ [dcV (fun (z212 : Int) => decide (((gI rows z212).2.1) ≤ layer) && decide (layer ≤ ((gI rows z212).2.2))) (fun (z212 : Int) => (gI rows z212).1) (fun (z212 : Int) => z212) (rngL 0 ((rows.length : Int)).toNat)]
def open_at_4P (found : List (List (Int × Int))) (rows : List (Int × Int × Int)) (layer : Int) : Prop := (RgOk (rows.length : Int)) ∧ (∀ z212 ∈ (rngL 0 ((rows.length : Int)).toNat), (InR z212 (rows).length) ∧ (decide (((gI rows z212).2.1) ≤ layer) = true → (InR z212 (rows).length))) ∧ (∀ z212 ∈ (rngL 0 ((rows.length : Int)).toNat), (decide (((gI rows z212).2.1) ≤ layer) && decide (layer ≤ ((gI rows z212).2.2))) = true → (InR z212 (rows).length)) ∧ ((rngL 0 ((rows.length : Int)).toNat).length ≤ 100000) ∧ ((found).length < 100000)
theorem open_at_4_w (found : List (List (Int × Int))) (rows : List (Int × Int × Int)) (layer : Int) (h : open_at_4P found rows layer) : WSs (X_open_at P w K mg base f cdv Ar outer s H E) G ⟨[none, some (En (α := Tp (T3 Int Int Int)) rows), some (.cell 0), some (En (α := Int) layer), none], [Cl (α := Dc Int) found]⟩ (forB ((defBody s_open_at).getD 2 passS)) (EndN (fun (v : (List (List (Int × Int)))) => ⟨[none, some (En (α := Tp (T3 Int Int Int)) rows), some (.cell 0), none, none], [Cl (α := Dc Int) v]⟩) (open_at_4 found rows layer)) := by
  obtain ⟨q211_, q218_, q219_, q220_, q221_⟩ := h
  exact wss_sn (sn_expr (ev_append (α := Dc Int) (xs0 := found) (xs := found) (u := dcV (fun (z212 : Int) => decide (((gI rows z212).2.1) ≤ layer) && decide (layer ≤ ((gI rows z212).2.2))) (fun (z212 : Int) => (gI rows z212).1) (fun (z212 : Int) => z212) (rngL 0 ((rows.length : Int)).toNat)) (ev_name (a := .cell 0) (i := 2)) (ev_dc (α := Int) (β := Int) (xs := rngL 0 ((rows.length : Int)).toNat) (p := fun (z212 : Int) => decide (((gI rows z212).2.1) ≤ layer) && decide (layer ≤ ((gI rows z212).2.2))) (kf := fun (z212 : Int) => (gI rows z212).1) (vf := fun (z212 : Int) => z212) (sl' := fun (z212 : Int) => [none, some (En (α := Tp (T3 Int Int Int)) rows), some (.cell 0), some (En (α := Int) layer), some (En (α := Int) z212)]) [("w", 4)] rfl sc_open_at.nd (blkOk_by rfl) (ei_of (es_rng1 B.range (ev_len (α := T3 Int Int Int) (xs := rows) B.len (ev_name (a := En (α := Tp (T3 Int Int Int)) rows) (i := 1)) (.inr (rdt (α := T3 Int Int Int)))) q211_)) (fun _ _ => trivial) q220_ (fun _ _ _ _ _  z212 c212 => eg_name (i := 4) sc_open_at.nd) (fun _ _ _ _ _  z212 c212 hm212 => ets_one (et_chain (f := fun i j => decide (i ≤ j)) (g := fun i j => decide (i ≤ j)) (i := (gI rows z212).2.1) (j := layer) (k := (gI rows z212).2.2) op_le op_le (ev_part (j := 1) (ds := [Enc.enc (α := Int) ((gI rows z212).1), Enc.enc (α := Int) ((gI rows z212).2.1), Enc.enc (α := Int) ((gI rows z212).2.2)]) (ev_ixT (α := T3 Int Int Int) (xs := rows) (ev_name (a := En (α := Tp (T3 Int Int Int)) rows) (i := 1)) (ev_name (a := En (α := Int) z212) (i := 4)) ((rdt (α := T3 Int Int Int))) (q218_ z212 hm212).1) rfl) (ev_name (a := En (α := Int) layer) (i := 3)) (fun hp215_ => ev_part (j := 2) (ds := [Enc.enc (α := Int) ((gI rows z212).1), Enc.enc (α := Int) ((gI rows z212).2.1), Enc.enc (α := Int) ((gI rows z212).2.2)]) (ev_ixT (α := T3 Int Int Int) (xs := rows) (ev_name (a := En (α := Tp (T3 Int Int Int)) rows) (i := 1)) (ev_name (a := En (α := Int) z212) (i := 4)) ((rdt (α := T3 Int Int Int))) ((q218_ z212 hm212).2 hp215_)) rfl))) (fun _ _ _ _ _  z212 c212 hm212 hp212 => ev_part (j := 0) (ds := [Enc.enc (α := Int) ((gI rows z212).1), Enc.enc (α := Int) ((gI rows z212).2.1), Enc.enc (α := Int) ((gI rows z212).2.2)]) (ev_ixT (α := T3 Int Int Int) (xs := rows) (ev_name (a := En (α := Tp (T3 Int Int Int)) rows) (i := 1)) (ev_name (a := En (α := Int) z212) (i := 4)) ((rdt (α := T3 Int Int Int))) (q219_ z212 hm212 hp212)) rfl) (fun _ _ _ _ _  z212 c212 hm212 hp212 => ev_name (a := En (α := Int) z212) (i := 4))) rfl rfl q221_)) (end_nx (fg_of (by exact And.intro (Or.inl rfl) (And.intro (Or.inr rfl) (And.intro (Or.inr rfl) (And.intro (Or.inl rfl) (And.intro (Or.inl rfl) (True.intro))))))))
def open_at_5 (found : List (List (Int × Int))) : List (List (Int × Int)) := found
def open_at_5P (found : List (List (Int × Int))) : Prop := True
theorem open_at_5_w (found : List (List (Int × Int))) (h : open_at_5P found) : WSs (X_open_at P w K mg base f cdv Ar outer s H E) G ⟨[none, none, some (.cell 0), none, none], [Cl (α := Dc Int) found]⟩ ((defBody s_open_at).drop 3) (EndR R_open_at (open_at_5 found)) := by
  exact wss_ret (ev_name (a := .cell 0) (i := 2)) (ret_lst (α := Dc Int) (xs := found) (k := 0) rfl)
def open_at_3 (found : List (List (Int × Int))) (line : List (Int × Int)) (rows : List (Int × Int × Int)) : List (List (Int × Int)) := (fun (v : (List (List (Int × Int)))) => open_at_5 v) ((rngL 0 (v_many_layers line).toNat).foldl (fun (v : (List (List (Int × Int)))) (x : Int) => open_at_4 v rows x) found)
def open_at_3P (found : List (List (Int × Int))) (line : List (Int × Int)) (rows : List (Int × Int × Int)) : Prop := (P_many_layers line) ∧ (RgOk (v_many_layers line)) ∧ (loopP (fun (v : (List (List (Int × Int)))) (x : Int) => open_at_4 v rows x) (fun (v : (List (List (Int × Int)))) (x : Int) => open_at_4P v rows x) (rngL 0 (v_many_layers line).toNat) found) ∧ ((fun (v : (List (List (Int × Int)))) => open_at_5P v) ((rngL 0 (v_many_layers line).toNat).foldl (fun (v : (List (List (Int × Int)))) (x : Int) => open_at_4 v rows x) found))
theorem open_at_3_w (found : List (List (Int × Int))) (line : List (Int × Int)) (rows : List (Int × Int × Int)) (h : open_at_3P found line rows) : WSs (X_open_at P w K mg base f cdv Ar outer s H E) G ⟨[some (En (α := Tp (Int × Int)) line), some (En (α := Tp (T3 Int Int Int)) rows), some (.cell 0), none, none], [Cl (α := Dc Int) found]⟩ ((defBody s_open_at).drop 2) (EndR R_open_at (open_at_3 found line rows)) := by
  obtain ⟨q209_, q210_, q222_, q223_⟩ := h
  exact wss_forN (α := Int) (xs := rngL 0 (v_many_layers line).toNat) (EndR R_open_at) (fun (v : (List (List (Int × Int)))) (x : Int) => open_at_4 v rows x) found (fun (v : (List (List (Int × Int)))) => ⟨[none, some (En (α := Tp (T3 Int Int Int)) rows), some (.cell 0), none, none], [Cl (α := Dc Int) v]⟩) (fun (v : (List (List (Int × Int)))) => open_at_5 v) rfl PassesOwn.never rfl (es_rng1 B.range (ev_cf (φ := φ_many_layers) (ds := [Enc.enc (α := Tp (Int × Int)) line]) (r := Enc.enc (α := Int) (v_many_layers line)) D_many_layers (hr.mono (by decide)) pass0 (ea_cons (ev_name (a := En (α := Tp (Int × Int)) line) (i := 0)) (ea_nil)) ⟨line, rfl, rfl, q209_, rfl, rfl⟩) q210_) (fg_of (by exact And.intro (Or.inl rfl) (And.intro (Or.inr rfl) (And.intro (Or.inr rfl) (And.intro (Or.inl rfl) (And.intro (Or.inl rfl) (True.intro))))))) (fun i x hx => ⟨_, _, eg_name (i := 3) sc_open_at.nd, open_at_4_w B D_layers_of D_many_layers hr hB ((((rngL 0 (v_many_layers line).toNat)).take i).foldl (fun (v : (List (List (Int × Int)))) (x : Int) => open_at_4 v rows x) found) rows x (q222_ i x hx)⟩) (wss_fg (fg_of (by exact And.intro (Or.inl rfl) (And.intro (Or.inl rfl) (And.intro (Or.inr rfl) (And.intro (Or.inl rfl) (And.intro (Or.inl rfl) (True.intro))))))) (open_at_5_w B D_layers_of D_many_layers hr hB ((rngL 0 (v_many_layers line).toNat).foldl (fun (v : (List (List (Int × Int)))) (x : Int) => open_at_4 v rows x) found) q223_))
def open_at_2 (line : List (Int × Int)) (rows : List (Int × Int × Int)) : List (List (Int × Int)) := open_at_3 [] line rows
def open_at_2P (line : List (Int × Int)) (rows : List (Int × Int × Int)) : Prop := (open_at_3P [] line rows)
theorem open_at_2_w (line : List (Int × Int)) (rows : List (Int × Int × Int)) (h : open_at_2P line rows) : WSs (X_open_at P w K mg base f cdv Ar outer s H E) G ⟨[some (En (α := Tp (Int × Int)) line), some (En (α := Tp (T3 Int Int Int)) rows), none, none, none], []⟩ ((defBody s_open_at).drop 1) (EndR R_open_at (open_at_2 line rows)) := by
  have q224_ := h
  exact wss_sn (sn_set (i := 2) sc_open_at.nd (ev_lstC (as := []) ea_nil)) (open_at_3_w B D_layers_of D_many_layers hr hB [] line rows q224_)
def open_at_1 (line : List (Int × Int)) : List (List (Int × Int)) := open_at_2 line (v_layers_of line)
def open_at_1P (line : List (Int × Int)) : Prop := (P_layers_of line) ∧ (open_at_2P line (v_layers_of line))
theorem open_at_1_w (line : List (Int × Int)) (h : open_at_1P line) : WSs (X_open_at P w K mg base f cdv Ar outer s H E) G ⟨[some (En (α := Tp (Int × Int)) line), none, none, none, none], []⟩ (defBody s_open_at) (EndR R_open_at (open_at_1 line)) := by
  obtain ⟨q208_, q225_⟩ := h
  exact wss_sn (sn_set (i := 1) sc_open_at.nd (ev_cf (φ := φ_layers_of) (ds := [Enc.enc (α := Tp (Int × Int)) line]) (r := Enc.enc (α := Tp (T3 Int Int Int)) (v_layers_of line)) D_layers_of (hr.mono (by decide)) pass0 (ea_cons (ev_name (a := En (α := Tp (Int × Int)) line) (i := 0)) (ea_nil)) ⟨line, rfl, rfl, q208_, rfl, rfl⟩)) (open_at_2_w B D_layers_of D_many_layers hr hB line (v_layers_of line) q225_)
def v_open_at (line : List (Int × Int)) : List (List (Int × Int)) := open_at_1 line
def P_open_at (line : List (Int × Int)) : Prop := open_at_1P line
def φ_open_at : Ct := fun args cs r cs' => ∃ (line : List (Int × Int)), args = [En (α := Tp (Int × Int)) line] ∧ cs = [] ∧ P_open_at line ∧ r = En (α := List (Dc Int)) (v_open_at line) ∧ cs' = []
omit hr hB in
theorem df_open_at (T : Top K mg "open_at" s_open_at ["line"]) : Df P w K mg base CX0 (1 + 1) "open_at" ["line"] φ_open_at := by
  refine Df.mk' T sc_open_at (fun args cs r cs' ⟨line, e1, e2, hP, e3, e4⟩ => by subst e1 e2 e3 e4; exact ⟨rfl, by first | exact Nat.le_refl _ | exact Nat.zero_le _⟩) (fun f cdv Ar outer s H E G args cs r cs' hr ⟨line, e1, e2, hP, e3, e4⟩ hB => ?_)
  subst e1 e2 e3 e4
  exact open_at_1_w B D_layers_of D_many_layers hr hB line hP
end
/-! ### need_layer -/
section
abbrev s_need_layer : Stmt := topS 14
abbrev N_need_layer : List Str := ["line", "layer"]
theorem sc_need_layer : FnScope N_need_layer ["line", "layer"] (defScope s_need_layer) := ⟨rfl, rfl, rfl, by decide +kernel, rfl, by decide +kernel, by decide +kernel⟩
abbrev X_need_layer (P : Program) (w : World) (K : PySem.W.Frag) (mg : Str → Option Value) (base : Heap) (f : Addr) (cdv : Value) (Ar : Around) (outer : List Env) (s : Shared) (H : Hp) (E : XK) : Cx := (cxOf CX0 P w K mg base N_need_layer "need_layer" (defScope s_need_layer) f cdv Ar outer s H E).nox
variable {P : Program} {w : World} {K : PySem.W.Frag} {mg : Str → Option Value} {base : Heap} {f : Addr} {cdv : Value} {Ar : Around} {outer : List Env} {s : Shared} {H : Hp} {E : XK} {G : Gh}
variable (B : Bi mg) (D_many_layers : Df P w K mg base CX0 1 "many_layers" ["line"] φ_many_layers) (hr : Room 1 (Ar.deeper (PyProof.Rows.envOfC "need_layer" (defScope s_need_layer) s.heap.objs.size f cdv))) (hB : G.B.length = 0) 
include B D_many_layers hr hB 
abbrev R_need_layer : Unit → A → Ms → Prop := fun (v : Unit) (a : A) (S : Ms) => RetOk a S (En (α := Unit) v) []
def need_layer_2  : Unit := default
def need_layer_2P  : Prop := False
theorem need_layer_2_w  (h : need_layer_2P ) : WSs (X_need_layer P w K mg base f cdv Ar outer s H E) G ⟨[none, none], []⟩ (ifA ((defBody s_need_layer).getD 0 passS)) (Thn (X_need_layer P w K mg base f cdv Ar outer s H E) G ((defBody s_need_layer).drop 1) (EndR R_need_layer) (need_layer_2 )) := by
  have q227_ := h
  exact q227_.elim
def need_layer_1 (line : List (Int × Int)) (layer : Int) : Unit := cond (decide ((v_many_layers line) ≤ layer)) need_layer_2 ()
def need_layer_1P (line : List (Int × Int)) (layer : Int) : Prop := (P_many_layers line) ∧ ((decide ((v_many_layers line) ≤ layer)) = true → need_layer_2P)
theorem need_layer_1_w (line : List (Int × Int)) (layer : Int) (h : need_layer_1P line layer) : WSs (X_need_layer P w K mg base f cdv Ar outer s H E) G ⟨[some (En (α := Tp (Int × Int)) line), some (En (α := Int) layer)], []⟩ (defBody s_need_layer) (EndR R_need_layer (need_layer_1 line layer)) := by
  obtain ⟨q226_, q230_⟩ := h
  exact wss_ifM (EndR R_need_layer) (p := decide ((v_many_layers line) ≤ layer)) (m1 := need_layer_2 ) (m2 := ()) rfl (et_ge (ev_name (a := En (α := Int) layer) (i := 1)) (ev_cf (φ := φ_many_layers) (ds := [Enc.enc (α := Tp (Int × Int)) line]) (r := Enc.enc (α := Int) (v_many_layers line)) D_many_layers (hr.mono (by decide)) pass0 (ea_cons (ev_name (a := En (α := Tp (Int × Int)) line) (i := 0)) (ea_nil)) ⟨line, rfl, rfl, q226_, rfl, rfl⟩)) (fun hp229_ => wss_fg (fg_of (by exact And.intro (Or.inl rfl) (And.intro (Or.inl rfl) (True.intro)))) (need_layer_2_w B D_many_layers hr hB  (q230_ hp229_))) (fun hp231_ => end_thn (S' := ⟨[none, none], []⟩) (fg_of (by exact And.intro (Or.inl rfl) (And.intro (Or.inl rfl) (True.intro)))) (end_nx ret_dat))
def v_need_layer (line : List (Int × Int)) (layer : Int) : Unit := need_layer_1 line layer
def P_need_layer (line : List (Int × Int)) (layer : Int) : Prop := need_layer_1P line layer
def φ_need_layer : Ct := fun args cs r cs' => ∃ (line : List (Int × Int)) (layer : Int), args = [En (α := Tp (Int × Int)) line, En (α := Int) layer] ∧ cs = [] ∧ P_need_layer line layer ∧ r = En (α := Unit) (v_need_layer line layer) ∧ cs' = []
omit hr hB in
theorem df_need_layer (T : Top K mg "need_layer" s_need_layer ["line", "layer"]) : Df P w K mg base CX0 (1 + 1) "need_layer" ["line", "layer"] φ_need_layer := by
  refine Df.mk' T sc_need_layer (fun args cs r cs' ⟨line, layer, e1, e2, hP, e3, e4⟩ => by subst e1 e2 e3 e4; exact ⟨rfl, by first | exact Nat.le_refl _ | exact Nat.zero_le _⟩) (fun f cdv Ar outer s H E G args cs r cs' hr ⟨line, layer, e1, e2, hP, e3, e4⟩ hB => ?_)
  subst e1 e2 e3 e4
  exact need_layer_1_w B D_many_layers hr hB line layer hP
end
/-! ### alive_at -/
section
abbrev s_alive_at : Stmt := topS 15
abbrev N_alive_at : List Str := ["line", "layer"]
theorem sc_alive_at : FnScope N_alive_at ["line", "layer"] (defScope s_alive_at) := ⟨rfl, rfl, rfl, by decide +kernel, rfl, by decide +kernel, by decide +kernel⟩
abbrev X_alive_at (P : Program) (w : World) (K : PySem.W.Frag) (mg : Str → Option Value) (base : Heap) (f : Addr) (cdv : Value) (Ar : Around) (outer : List Env) (s : Shared) (H : Hp) (E : XK) : Cx := (cxOf CX0 P w K mg base N_alive_at "alive_at" (defScope s_alive_at) f cdv Ar outer s H E).nox
variable {P : Program} {w : World} {K : PySem.W.Frag} {mg : Str → Option Value} {base : Heap} {f : Addr} {cdv : Value} {Ar : Around} {outer : List Env} {s : Shared} {H : Hp} {E : XK} {G : Gh}
variable (B : Bi mg) (D_need_layer : Df P w K mg base CX0 2 "need_layer" ["line", "layer"] φ_need_layer) (D_open_at : Df P w K mg base CX0 2 "open_at" ["line"] φ_open_at) (hr : Room 2 (Ar.deeper (PyProof.Rows.envOfC "alive_at" (defScope s_alive_at) s.heap.objs.size f cdv))) (hB : G.B.length = 0) 
include B D_need_layer D_open_at hr hB 
abbrev R_alive_at : (List Int) → A → Ms → Prop := fun (v : List Int) (a : A) (S : Ms) => RetOk a S (En (α := Tp Int) v) []
def alive_at_2 (line : List (Int × Int)) (layer : Int) : List Int := sortI ((gI (v_open_at line) layer).map (fun (z : Int × Int) => z.2))
def alive_at_2P (line : List (Int × Int)) (layer : Int) : Prop := (P_open_at line) ∧ (InR layer (v_open_at line).length) ∧ ((gI (v_open_at line) layer).length < 64)
theorem alive_at_2_w (line : List (Int × Int)) (layer : Int) (h : alive_at_2P line layer) : WSs (X_alive_at P w K mg base f cdv Ar outer s H E) G ⟨[some (En (α := Tp (Int × Int)) line), some (En (α := Int) layer)], []⟩ ((defBody s_alive_at).drop 1) (EndR R_alive_at (alive_at_2 line layer)) := by
  obtain ⟨q233_, q234_, q235_⟩ := h
  exact wss_ret (EV.be (En (α := Tp Int) (sortI ((gI (v_open_at line) layer).map (fun (z : Int × Int) => z.2)))) (ev_tupL (ds := List.map (Enc.enc (α := Int)) (sortI ((gI (v_open_at line) layer).map (fun (z : Int × Int) => z.2)))) B.tuple (ev_sortV (d := gI (v_open_at line) layer) rfl B.sorted (ev_ixL (α := Dc Int) (xs := v_open_at line) (ev_cf (φ := φ_open_at) (ds := [Enc.enc (α := Tp (Int × Int)) line]) (r := Enc.enc (α := List (Dc Int)) (v_open_at line)) D_open_at (hr.mono (by decide)) pass0 (ea_cons (ev_name (a := En (α := Tp (Int × Int)) line) (i := 0)) (ea_nil)) ⟨line, rfl, rfl, q233_, rfl, rfl⟩) (ev_name (a := En (α := Int) layer) (i := 1)) ((rdl (α := Dc Int))) q234_) q235_) ((rdl (α := Int))))) (ret_dat)
def alive_at_1 (line : List (Int × Int)) (layer : Int) : List Int := alive_at_2 line layer
def alive_at_1P (line : List (Int × Int)) (layer : Int) : Prop := (P_need_layer line layer) ∧ (alive_at_2P line layer)
theorem alive_at_1_w (line : List (Int × Int)) (layer : Int) (h : alive_at_1P line layer) : WSs (X_alive_at P w K mg base f cdv Ar outer s H E) G ⟨[some (En (α := Tp (Int × Int)) line), some (En (α := Int) layer)], []⟩ (defBody s_alive_at) (EndR R_alive_at (alive_at_1 line layer)) := by
  obtain ⟨q232_, q236_⟩ := h
  exact wss_sn (sn_expr (ev_cf (φ := φ_need_layer) (ds := [Enc.enc (α := Tp (Int × Int)) line, Enc.enc (α := Int) layer]) (r := Enc.enc (α := Unit) (v_need_layer line layer)) D_need_layer (hr.mono (by decide)) pass0 (ea_cons (ev_name (a := En (α := Tp (Int × Int)) line) (i := 0)) (ea_cons (ev_name (a := En (α := Int) layer) (i := 1)) (ea_nil))) ⟨line, layer, rfl, rfl, q232_, rfl, rfl⟩)) (alive_at_2_w B D_need_layer D_open_at hr hB line layer q236_)
def v_alive_at (line : List (Int × Int)) (layer : Int) : List Int := alive_at_1 line layer
def P_alive_at (line : List (Int × Int)) (layer : Int) : Prop := alive_at_1P line layer
def φ_alive_at : Ct := fun args cs r cs' => ∃ (line : List (Int × Int)) (layer : Int), args = [En (α := Tp (Int × Int)) line, En (α := Int) layer] ∧ cs = [] ∧ P_alive_at line layer ∧ r = En (α := Tp Int) (v_alive_at line layer) ∧ cs' = []
omit hr hB in
theorem df_alive_at (T : Top K mg "alive_at" s_alive_at ["line", "layer"]) : Df P w K mg base CX0 (2 + 1) "alive_at" ["line", "layer"] φ_alive_at := by
  refine Df.mk' T sc_alive_at (fun args cs r cs' ⟨line, layer, e1, e2, hP, e3, e4⟩ => by subst e1 e2 e3 e4; exact ⟨rfl, by first | exact Nat.le_refl _ | exact Nat.zero_le _⟩) (fun f cdv Ar outer s H E G args cs r cs' hr ⟨line, layer, e1, e2, hP, e3, e4⟩ hB => ?_)
  subst e1 e2 e3 e4
  exact alive_at_1_w B D_need_layer D_open_at hr hB line layer hP
end
/-! ### moved_for -/
section
abbrev s_moved_for : Stmt := topS 16
abbrev N_moved_for : List Str := ["line", "layer", "alive", "w"]
theorem sc_moved_for : FnScope N_moved_for ["line", "layer"] (defScope s_moved_for) := ⟨rfl, rfl, rfl, by decide +kernel, rfl, by decide +kernel, by decide +kernel⟩
abbrev X_moved_for (P : Program) (w : World) (K : PySem.W.Frag) (mg : Str → Option Value) (base : Heap) (f : Addr) (cdv : Value) (Ar : Around) (outer : List Env) (s : Shared) (H : Hp) (E : XK) : Cx := (cxOf CX0 P w K mg base N_moved_for "moved_for" (defScope s_moved_for) f cdv Ar outer s H E).nox
variable {P : Program} {w : World} {K : PySem.W.Frag} {mg : Str → Option Value} {base : Heap} {f : Addr} {cdv : Value} {Ar : Around} {outer : List Env} {s : Shared} {H : Hp} {E : XK} {G : Gh}
variable (B : Bi mg) (D_alive_at : Df P w K mg base CX0 3 "alive_at" ["line", "layer"] φ_alive_at) (D_locks_of : Df P w K mg base CX0 1 "locks_of" ["line"] φ_locks_of) (hr : Room 3 (Ar.deeper (PyProof.Rows.envOfC "moved_for" (defScope s_moved_for) s.heap.objs.size f cdv))) (hB : G.B.length = 0) 
include B D_alive_at D_locks_of hr hB 
abbrev R_moved_for : (List Int) → A → Ms → Prop := fun (v : List Int) (a : A) (S : Ms) => RetOk a S (En (α := Tp Int) v) []
def moved_for_2 (line : List (Int × Int)) (alive : List Int) : List Int := ((rngL 0 (((v_locks_of line).length : Int)).toNat).filter (fun (z240 : Int) => !decide (z240 ∈ alive))).map (fun (z240 : Int) => z240)
def moved_for_2P (line : List (Int × Int)) (alive : List Int) : Prop := (P_locks_of line) ∧ (RgOk ((v_locks_of line).length : Int)) ∧ ((rngL 0 (((v_locks_of line).length : Int)).toNat).length ≤ 100000)
theorem moved_for_2_w (line : List (Int × Int)) (alive : List Int) (h : moved_for_2P line alive) : WSs (X_moved_for P w K mg base f cdv Ar outer s H E) G ⟨[some (En (α := Tp (Int × Int)) line), none, some (En (α := Tp Int) alive), none], []⟩ ((defBody s_moved_for).drop 1) (EndR R_moved_for (moved_for_2 line alive)) := by
  obtain ⟨q238_, q239_, q241_⟩ := h
  exact wss_ret (EV.be (En (α := Tp Int) (((rngL 0 (((v_locks_of line).length : Int)).toNat).filter (fun (z240 : Int) => !decide (z240 ∈ alive))).map (fun (z240 : Int) => z240))) (ev_tupL (ds := List.map (Enc.enc (α := Int)) (((rngL 0 (((v_locks_of line).length : Int)).toNat).filter (fun (z240 : Int) => !decide (z240 ∈ alive))).map (fun (z240 : Int) => z240))) B.tuple (lc_any (α := Int) (β := Int) (xs := rngL 0 (((v_locks_of line).length : Int)).toNat) (p := fun (z240 : Int) => !decide (z240 ∈ alive)) (f := fun (z240 : Int) => z240) (sl' := fun (z240 : Int) => [some (En (α := Tp (Int × Int)) line), none, some (En (α := Tp Int) alive), some (En (α := Int) z240)]) [("w", 3)] (lcm_pe rfl sc_moved_for.nd (blkOk_by rfl)) (ei_of (es_rng1 B.range (ev_len (α := Int) (xs := v_locks_of line) B.len (ev_cf (φ := φ_locks_of) (ds := [Enc.enc (α := Tp (Int × Int)) line]) (r := Enc.enc (α := Tp Int) (v_locks_of line)) D_locks_of (hr.mono (by decide)) pass0 (ea_cons (ev_name (a := En (α := Tp (Int × Int)) line) (i := 0)) (ea_nil)) ⟨line, rfl, rfl, q238_, rfl, rfl⟩) (.inr (rdt (α := Int)))) q239_)) (fun _ _ => trivial) q241_ (fun _ _ _ _ _  z240 c240 => eg_name (i := 3) sc_moved_for.nd) (fun _ _ _ _ _  z240 c240 hm240 => ets_one (et_nin (is := alive) (ev_name (a := En (α := Int) z240) (i := 3)) (ev_name (a := En (α := Tp Int) alive) (i := 2)) (.inr (rdt (α := Int))))) (fun _ _ _ _ _  z240 c240 hm240 hp240 => ev_name (a := En (α := Int) z240) (i := 3))) ((rdl (α := Int))))) (ret_dat)
def moved_for_1 (line : List (Int × Int)) (layer : Int) : List Int := moved_for_2 line (v_alive_at line layer)
def moved_for_1P (line : List (Int × Int)) (layer : Int) : Prop := (P_alive_at line layer) ∧ (moved_for_2P line (v_alive_at line layer))
theorem moved_for_1_w (line : List (Int × Int)) (layer : Int) (h : moved_for_1P line layer) : WSs (X_moved_for P w K mg base f cdv Ar outer s H E) G ⟨[some (En (α := Tp (Int × Int)) line), some (En (α := Int) layer), none, none], []⟩ (defBody s_moved_for) (EndR R_moved_for (moved_for_1 line layer)) := by
  obtain ⟨q237_, q242_⟩ := h
  exact wss_sn (sn_set (i := 2) sc_moved_for.nd (ev_cf (φ := φ_alive_at) (ds := [Enc.enc (α := Tp (Int × Int)) line, Enc.enc (α := Int) layer]) (r := Enc.enc (α := Tp Int) (v_alive_at line layer)) D_alive_at (hr.mono (by decide)) pass0 (ea_cons (ev_name (a := En (α := Tp (Int × Int)) line) (i := 0)) (ea_cons (ev_name (a := En (α := Int) layer) (i := 1)) (ea_nil))) ⟨line, layer, rfl, rfl, q237_, rfl, rfl⟩)) (wss_fg (fg_of (by exact And.intro (Or.inr rfl) (And.intro (Or.inl rfl) (And.intro (Or.inr rfl) (And.intro (Or.inl rfl) (True.intro)))))) (moved_for_2_w B D_alive_at D_locks_of hr hB line (v_alive_at line layer) q242_))
def v_moved_for (line : List (Int × Int)) (layer : Int) : List Int := moved_for_1 line layer
def P_moved_for (line : List (Int × Int)) (layer : Int) : Prop := moved_for_1P line layer
def φ_moved_for : Ct := fun args cs r cs' => ∃ (line : List (Int × Int)) (layer : Int), args = [En (α := Tp (Int × Int)) line, En (α := Int) layer] ∧ cs = [] ∧ P_moved_for line layer ∧ r = En (α := Tp Int) (v_moved_for line layer) ∧ cs' = []
omit hr hB in
theorem df_moved_for (T : Top K mg "moved_for" s_moved_for ["line", "layer"]) : Df P w K mg base CX0 (3 + 1) "moved_for" ["line", "layer"] φ_moved_for := by
  refine Df.mk' T sc_moved_for (fun args cs r cs' ⟨line, layer, e1, e2, hP, e3, e4⟩ => by subst e1 e2 e3 e4; exact ⟨rfl, by first | exact Nat.le_refl _ | exact Nat.zero_le _⟩) (fun f cdv Ar outer s H E G args cs r cs' hr ⟨line, layer, e1, e2, hP, e3, e4⟩ hB => ?_)
  subst e1 e2 e3 e4
  exact moved_for_1_w B D_alive_at D_locks_of hr hB line layer hP
end
/-! ### is_enough_moved -/
section
abbrev s_is_enough_moved : Stmt := topS 17
abbrev N_is_enough_moved : List Str := ["line", "windows", "i", "j"]
theorem sc_is_enough_moved : FnScope N_is_enough_moved ["line", "windows"] (defScope s_is_enough_moved) := ⟨rfl, rfl, rfl, by decide +kernel, rfl, by decide +kernel, by decide +kernel⟩
abbrev X_is_enough_moved (P : Program) (w : World) (K : PySem.W.Frag) (mg : Str → Option Value) (base : Heap) (f : Addr) (cdv : Value) (Ar : Around) (outer : List Env) (s : Shared) (H : Hp) (E : XK) : Cx := (cxOf CX0 P w K mg base N_is_enough_moved "is_enough_moved" (defScope s_is_enough_moved) f cdv Ar outer s H E).nox
variable {P : Program} {w : World} {K : PySem.W.Frag} {mg : Str → Option Value} {base : Heap} {f : Addr} {cdv : Value} {Ar : Around} {outer : List Env} {s : Shared} {H : Hp} {E : XK} {G : Gh}
variable (B : Bi mg) (D_before_of : Df P w K mg base CX0 2 "before_of" ["line"] φ_before_of) (hr : Room 2 (Ar.deeper (PyProof.Rows.envOfC "is_enough_moved" (defScope s_is_enough_moved) s.heap.objs.size f cdv))) (hB : G.B.length = 0) 
include B D_before_of hr hB 
abbrev R_is_enough_moved : Bool → A → Ms → Prop := fun (v : Bool) (a : A) (S : Ms) => RetOk a S (En (α := Bool) v) []
def is_enough_moved_1 (line : List (Int × Int)) (windows : List Int) : Bool := ((v_before_of line).map (fun (z244 : Int × Int) => (decide (z244.1 ∈ windows)) || (decide (z244.2 ∈ windows)))).all id
def is_enough_moved_1P (line : List (Int × Int)) (windows : List Int) : Prop := (P_before_of line) ∧ ((v_before_of line).length ≤ 100000)
theorem is_enough_moved_1_w (line : List (Int × Int)) (windows : List Int) (h : is_enough_moved_1P line windows) : WSs (X_is_enough_moved P w K mg base f cdv Ar outer s H E) G ⟨[some (En (α := Tp (Int × Int)) line), some (En (α := Tp Int) windows), none, none], []⟩ (defBody s_is_enough_moved) (EndR R_is_enough_moved (is_enough_moved_1 line windows)) := by
  obtain ⟨q243_, q246_⟩ := h
  exact wss_ret (ev_all (bs := (v_before_of line).map (fun (z244 : Int × Int) => (decide (z244.1 ∈ windows)) || (decide (z244.2 ∈ windows)))) rfl B.all (lc_all (α := Int × Int) (β := Bool) (xs := v_before_of line) (f := fun (z244 : Int × Int) => (decide (z244.1 ∈ windows)) || (decide (z244.2 ∈ windows))) (sl' := fun (z244 : Int × Int) => [some (En (α := Tp (Int × Int)) line), some (En (α := Tp Int) windows), some (En (α := Int) z244.1), some (En (α := Int) z244.2)]) [("i", 2), ("j", 3)] (lcm_pe rfl sc_is_enough_moved.nd (blkOk_by rfl)) (ei_of (es_tup (ev_cf (φ := φ_before_of) (ds := [Enc.enc (α := Tp (Int × Int)) line]) (r := Enc.enc (α := Tp (Int × Int)) (v_before_of line)) D_before_of (hr.mono (by decide)) pass0 (ea_cons (ev_name (a := En (α := Tp (Int × Int)) line) (i := 0)) (ea_nil)) ⟨line, rfl, rfl, q243_, rfl, rfl⟩))) (fun _ _ => trivial) q246_ (fun _ _ _ _ _  z244 c244 => eg_tup (ds := [Enc.enc (α := Int) z244.1, Enc.enc (α := Int) z244.2]) rfl (egs_cons (eg_name (i := 2) sc_is_enough_moved.nd) (egs_cons (eg_name (i := 3) sc_is_enough_moved.nd) (egs_nil)))) (fun _ _ _ _ _  z244 c244 hm244 => ev_or (p := decide (z244.1 ∈ windows)) (q := decide (z244.2 ∈ windows)) (ev_in (is := windows) (ev_name (a := En (α := Int) z244.1) (i := 2)) (ev_name (a := En (α := Tp Int) windows) (i := 1)) (.inr (rdt (α := Int)))) (fun hp245_ => ev_b1 (ev_in (is := windows) (ev_name (a := En (α := Int) z244.2) (i := 3)) (ev_name (a := En (α := Tp Int) windows) (i := 1)) (.inr (rdt (α := Int))))))) (rdl (α := Bool))) (ret_dat)
def v_is_enough_moved (line : List (Int × Int)) (windows : List Int) : Bool := is_enough_moved_1 line windows
def P_is_enough_moved (line : List (Int × Int)) (windows : List Int) : Prop := is_enough_moved_1P line windows
def φ_is_enough_moved : Ct := fun args cs r cs' => ∃ (line : List (Int × Int)) (windows : List Int), args = [En (α := Tp (Int × Int)) line, En (α := Tp Int) windows] ∧ cs = [] ∧ P_is_enough_moved line windows ∧ r = En (α := Bool) (v_is_enough_moved line windows) ∧ cs' = []
omit hr hB in
theorem df_is_enough_moved (T : Top K mg "is_enough_moved" s_is_enough_moved ["line", "windows"]) : Df P w K mg base CX0 (2 + 1) "is_enough_moved" ["line", "windows"] φ_is_enough_moved := by
  refine Df.mk' T sc_is_enough_moved (fun args cs r cs' ⟨line, windows, e1, e2, hP, e3, e4⟩ => by subst e1 e2 e3 e4; exact ⟨rfl, by first | exact Nat.le_refl _ | exact Nat.zero_le _⟩) (fun f cdv Ar outer s H E G args cs r cs' hr ⟨line, windows, e1, e2, hP, e3, e4⟩ hB => ?_)
  subst e1 e2 e3 e4
  exact is_enough_moved_1_w B D_before_of hr hB line windows hP
end
/-! ### price_for -/
section
abbrev s_price_for : Stmt := topS 18
abbrev N_price_for : List Str := ["line", "layer", "prices", "locks", "w"]
theorem sc_price_for : FnScope N_price_for ["line", "layer", "prices"] (defScope s_price_for) := ⟨rfl, rfl, rfl, by decide +kernel, rfl, by decide +kernel, by decide +kernel⟩
abbrev X_price_for (P : Program) (w : World) (K : PySem.W.Frag) (mg : Str → Option Value) (base : Heap) (f : Addr) (cdv : Value) (Ar : Around) (outer : List Env) (s : Shared) (H : Hp) (E : XK) : Cx := (cxOf CX0 P w K mg base N_price_for "price_for" (defScope s_price_for) f cdv Ar outer s H E).nox
variable {P : Program} {w : World} {K : PySem.W.Frag} {mg : Str → Option Value} {base : Heap} {f : Addr} {cdv : Value} {Ar : Around} {outer : List Env} {s : Shared} {H : Hp} {E : XK} {G : Gh}
variable (B : Bi mg) (D_locks_of : Df P w K mg base CX0 1 "locks_of" ["line"] φ_locks_of) (D_moved_for : Df P w K mg base CX0 4 "moved_for" ["line", "layer"] φ_moved_for) (hr : Room 4 (Ar.deeper (PyProof.Rows.envOfC "price_for" (defScope s_price_for) s.heap.objs.size f cdv))) (hB : G.B.length = 0) 
include B D_locks_of D_moved_for hr hB 
abbrev R_price_for : Int → A → Ms → Prop := fun (v : Int) (a : A) (S : Ms) => RetOk a S (En (α := Int) v) []
def price_for_2 (line : List (Int × Int)) (layer : Int) (prices : List Int) (locks : List Int) : Int := ((v_moved_for line layer).map (fun (z249 : Int) => gI prices (gI locks z249))).sum
def price_for_2P (line : List (Int × Int)) (layer : Int) (prices : List Int) (locks : List Int) : Prop := (P_moved_for line layer) ∧ (∀ z249 ∈ (v_moved_for line layer), (InR z249 (locks).length) ∧ (InR (gI locks z249) (prices).length)) ∧ ((v_moved_for line layer).length ≤ 100000)
theorem price_for_2_w (line : List (Int × Int)) (layer : Int) (prices : List Int) (locks : List Int) (h : price_for_2P line layer prices locks) : WSs (X_price_for P w K mg base f cdv Ar outer s H E) G ⟨[some (En (α := Tp (Int × Int)) line), some (En (α := Int) layer), some (En (α := Tp Int) prices), some (En (α := Tp Int) locks), none], []⟩ ((defBody s_price_for).drop 1) (EndR R_price_for (price_for_2 line layer prices locks)) := by
  obtain ⟨q248_, q252_, q253_⟩ := h
  exact wss_ret (ev_sum (is := (v_moved_for line layer).map (fun (z249 : Int) => gI prices (gI locks z249))) rfl B.sum (lc_all (α := Int) (β := Int) (xs := v_moved_for line layer) (f := fun (z249 : Int) => gI prices (gI locks z249)) (sl' := fun (z249 : Int) => [some (En (α := Tp (Int × Int)) line), some (En (α := Int) layer), some (En (α := Tp Int) prices), some (En (α := Tp Int) locks), some (En (α := Int) z249)]) [("w", 4)] (lcm_pe rfl sc_price_for.nd (blkOk_by rfl)) (ei_of (es_tup (ev_cf (φ := φ_moved_for) (ds := [Enc.enc (α := Tp (Int × Int)) line, Enc.enc (α := Int) layer]) (r := Enc.enc (α := Tp Int) (v_moved_for line layer)) D_moved_for (hr.mono (by decide)) pass0 (ea_cons (ev_name (a := En (α := Tp (Int × Int)) line) (i := 0)) (ea_cons (ev_name (a := En (α := Int) layer) (i := 1)) (ea_nil))) ⟨line, layer, rfl, rfl, q248_, rfl, rfl⟩))) (fun _ _ => trivial) q253_ (fun _ _ _ _ _  z249 c249 => eg_name (i := 4) sc_price_for.nd) (fun _ _ _ _ _  z249 c249 hm249 => ev_ixT (α := Int) (xs := prices) (ev_name (a := En (α := Tp Int) prices) (i := 2)) (ev_ixT (α := Int) (xs := locks) (ev_name (a := En (α := Tp Int) locks) (i := 3)) (ev_name (a := En (α := Int) z249) (i := 4)) ((rdt (α := Int))) (q252_ z249 hm249).1) ((rdt (α := Int))) (q252_ z249 hm249).2)) (rdl (α := Int))) (ret_dat)
def price_for_1 (line : List (Int × Int)) (layer : Int) (prices : List Int) : Int := price_for_2 line layer prices (v_locks_of line)
def price_for_1P (line : List (Int × Int)) (layer : Int) (prices : List Int) : Prop := (P_locks_of line) ∧ (price_for_2P line layer prices (v_locks_of line))
theorem price_for_1_w (line : List (Int × Int)) (layer : Int) (prices : List Int) (h : price_for_1P line layer prices) : WSs (X_price_for P w K mg base f cdv Ar outer s H E) G ⟨[some (En (α := Tp (Int × Int)) line), some (En (α := Int) layer), some (En (α := Tp Int) prices), none, none], []⟩ (defBody s_price_for) (EndR R_price_for (price_for_1 line layer prices)) := by
  obtain ⟨q247_, q254_⟩ := h
  exact wss_sn (sn_set (i := 3) sc_price_for.nd (ev_cf (φ := φ_locks_of) (ds := [Enc.enc (α := Tp (Int × Int)) line]) (r := Enc.enc (α := Tp Int) (v_locks_of line)) D_locks_of (hr.mono (by decide)) pass0 (ea_cons (ev_name (a := En (α := Tp (Int × Int)) line) (i := 0)) (ea_nil)) ⟨line, rfl, rfl, q247_, rfl, rfl⟩)) (price_for_2_w B D_locks_of D_moved_for hr hB line layer prices (v_locks_of line) q254_)
def v_price_for (line : List (Int × Int)) (layer : Int) (prices : List Int) : Int := price_for_1 line layer prices
def P_price_for (line : List (Int × Int)) (layer : Int) (prices : List Int) : Prop := price_for_1P line layer prices
def φ_price_for : Ct := fun args cs r cs' => ∃ (line : List (Int × Int)) (layer : Int) (prices : List Int), args = [En (α := Tp (Int × Int)) line, En (α := Int) layer, En (α := Tp Int) prices] ∧ cs = [] ∧ P_price_for line layer prices ∧ r = En (α := Int) (v_price_for line layer prices) ∧ cs' = []
omit hr hB in
theorem df_price_for (T : Top K mg "price_for" s_price_for ["line", "layer", "prices"]) : Df P w K mg base CX0 (4 + 1) "price_for" ["line", "layer", "prices"] φ_price_for := by
  refine Df.mk' T sc_price_for (fun args cs r cs' ⟨line, layer, prices, e1, e2, hP, e3, e4⟩ => by subst e1 e2 e3 e4; exact ⟨rfl, by first | exact Nat.le_refl _ | exact Nat.zero_le _⟩) (fun f cdv Ar outer s H E G args cs r cs' hr ⟨line, layer, prices, e1, e2, hP, e3, e4⟩ hB => ?_)
  subst e1 e2 e3 e4
  exact price_for_1_w B D_locks_of D_moved_for hr hB line layer prices hP
end
/-! ### fewest_moved -/
section
abbrev s_fewest_moved : Stmt := topS 19
abbrev N_fewest_moved : List Str := ["line", "prices", "rows", "layer"]
theorem sc_fewest_moved : FnScope N_fewest_moved ["line", "prices"] (defScope s_fewest_moved) := ⟨rfl, rfl, rfl, by decide +kernel, rfl, by decide +kernel, by decide +kernel⟩
abbrev X_fewest_moved (P : Program) (w : World) (K : PySem.W.Frag) (mg : Str → Option Value) (base : Heap) (f : Addr) (cdv : Value) (Ar : Around) (outer : List Env) (s : Shared) (H : Hp) (E : XK) : Cx := (cxOf CX0 P w K mg base N_fewest_moved "fewest_moved" (defScope s_fewest_moved) f cdv Ar outer s H E).nox
variable {P : Program} {w : World} {K : PySem.W.Frag} {mg : Str → Option Value} {base : Heap} {f : Addr} {cdv : Value} {Ar : Around} {outer : List Env} {s : Shared} {H : Hp} {E : XK} {G : Gh}
variable (B : Bi mg) (D_price_for : Df P w K mg base CX0 5 "price_for" ["line", "layer", "prices"] φ_price_for) (D_many_layers : Df P w K mg base CX0 1 "many_layers" ["line"] φ_many_layers) (hr : Room 5 (Ar.deeper (PyProof.Rows.envOfC "fewest_moved" (defScope s_fewest_moved) s.heap.objs.size f cdv))) (hB : G.B.length = 0) 
include B D_price_for D_many_layers hr hB 
abbrev R_fewest_moved : (Option (Int × Int)) → A → Ms → Prop := fun (v : Option (Int × Int)) (a : A) (S : Ms) => RetOk a S (En (α := Option (Int × Int)) v) []
def fewest_moved_2 (rows : List (Int × Int)) : Option (Int × Int) := cond (!decide (rows = [])) (some (minP rows)) none
def fewest_moved_2P (rows : List (Int × Int)) : Prop := ((!decide (rows = [])) = true → (rows ≠ []))
theorem fewest_moved_2_w (rows : List (Int × Int)) (h : fewest_moved_2P rows) : WSs (X_fewest_moved P w K mg base f cdv Ar outer s H E) G ⟨[none, none, some (En (α := List (Int × Int)) rows), none], []⟩ ((defBody s_fewest_moved).drop 1) (EndR R_fewest_moved (fewest_moved_2 rows)) := by
  have q264_ := h
  exact wss_ret (ev_if (α := Option (Int × Int)) (p := !decide (rows = [])) (u := some (minP rows)) (v := none) (S2 := fun b => ⟨[none, none, some (En (α := List (Int × Int)) rows), none], []⟩) (et_neL (α := Int × Int) (xs := rows) (ys := []) (hr.mono (by decide) : Room 0 _).units (ev_name (a := En (α := List (Int × Int)) rows) (i := 2)) (EV.be (En (α := List (Int × Int)) []) (ev_lst (ds := []) ea_nil)) ((rdl (α := Int × Int))) ((rdl (α := Int × Int)))) (fun hp262_ => EV.be (En (α := Option (Int × Int)) (some (minP rows))) (ev_minP (is := rows) (hr.mono (by decide) : Room 0 _).units rfl B.min (ev_name (a := En (α := List (Int × Int)) rows) (i := 2)) (rdl (α := Int × Int)) (q264_ hp262_))) (fun hp263_ => ev_non)) (ret_dat)
def fewest_moved_1 (line : List (Int × Int)) (prices : List Int) : Option (Int × Int) := fewest_moved_2 ((rngL 0 (v_many_layers line).toNat).map (fun (z257 : Int) => (v_price_for line z257 prices, z257)))
def fewest_moved_1P (line : List (Int × Int)) (prices : List Int) : Prop := (P_many_layers line) ∧ (RgOk (v_many_layers line)) ∧ (∀ z257 ∈ (rngL 0 (v_many_layers line).toNat), (P_price_for line z257 prices)) ∧ ((rngL 0 (v_many_layers line).toNat).length ≤ 100000) ∧ (fewest_moved_2P ((rngL 0 (v_many_layers line).toNat).map (fun (z257 : Int) => (v_price_for line z257 prices, z257))))
theorem fewest_moved_1_w (line : List (Int × Int)) (prices : List Int) (h : fewest_moved_1P line prices) : WSs (X_fewest_moved P w K mg base f cdv Ar outer s H E) G ⟨[some (En (α := Tp (Int × Int)) line), some (En (α := Tp Int) prices), none, none], []⟩ (defBody s_fewest_moved) (EndR R_fewest_moved (fewest_moved_1 line prices)) := by
  obtain ⟨q255_, q256_, q259_, q260_, q265_⟩ := h
  exact wss_sn (sn_of_lc (i := 2) (lc_all (α := Int) (β := Int × Int) (xs := rngL 0 (v_many_layers line).toNat) (f := fun (z257 : Int) => (v_price_for line z257 prices, z257)) (sl' := fun (z257 : Int) => [some (En (α := Tp (Int × Int)) line), some (En (α := Tp Int) prices), none, some (En (α := Int) z257)]) [("layer", 3)] (lcm_set (i := 2) rfl sc_fewest_moved.nd (blkOk_by rfl) rfl rfl (sw_true rfl rfl rfl (by decide +kernel))) (ei_of (es_rng1 B.range (ev_cf (φ := φ_many_layers) (ds := [Enc.enc (α := Tp (Int × Int)) line]) (r := Enc.enc (α := Int) (v_many_layers line)) D_many_layers (hr.mono (by decide)) pass0 (ea_cons (ev_name (a := En (α := Tp (Int × Int)) line) (i := 0)) (ea_nil)) ⟨line, rfl, rfl, q255_, rfl, rfl⟩) q256_)) (fun _ _ => trivial) q260_ (fun _ _ _ _ _  z257 c257 => eg_name (i := 3) sc_fewest_moved.nd) (fun _ _ _ _ _  z257 c257 hm257 => EV.be (En (α := Int × Int) (v_price_for line z257 prices, z257)) (ev_tup (ds := [Enc.enc (α := Int) (v_price_for line z257 prices), Enc.enc (α := Int) z257]) (ea_cons (ev_cf (φ := φ_price_for) (ds := [Enc.enc (α := Tp (Int × Int)) line, Enc.enc (α := Int) z257, Enc.enc (α := Tp Int) prices]) (r := Enc.enc (α := Int) (v_price_for line z257 prices)) D_price_for (hr.mono (by decide)) pass0 (ea_cons (ev_name (a := En (α := Tp (Int × Int)) line) (i := 0)) (ea_cons (ev_name (a := En (α := Int) z257) (i := 3)) (ea_cons (ev_name (a := En (α := Tp Int) prices) (i := 1)) (ea_nil)))) ⟨line, z257, prices, rfl, rfl, (q259_ z257 hm257), rfl, rfl⟩) (ea_cons (ev_name (a := En (α := Int) z257) (i := 3)) (ea_nil))))))) (wss_fg (fg_of (by exact And.intro (Or.inl rfl) (And.intro (Or.inl rfl) (And.intro (Or.inr rfl) (And.intro (Or.inl rfl) (True.intro)))))) (fewest_moved_2_w B D_price_for D_many_layers hr hB ((rngL 0 (v_many_layers line).toNat).map (fun (z257 : Int) => (v_price_for line z257 prices, z257))) q265_))
def v_fewest_moved (line : List (Int × Int)) (prices : List Int) : Option (Int × Int) := fewest_moved_1 line prices
def P_fewest_moved (line : List (Int × Int)) (prices : List Int) : Prop := fewest_moved_1P line prices
def φ_fewest_moved : Ct := fun args cs r cs' => ∃ (line : List (Int × Int)) (prices : List Int), args = [En (α := Tp (Int × Int)) line, En (α := Tp Int) prices] ∧ cs = [] ∧ P_fewest_moved line prices ∧ r = En (α := Option (Int × Int)) (v_fewest_moved line prices) ∧ cs' = []
omit hr hB in
theorem df_fewest_moved (T : Top K mg "fewest_moved" s_fewest_moved ["line", "prices"]) : Df P w K mg base CX0 (5 + 1) "fewest_moved" ["line", "prices"] φ_fewest_moved := by
  refine Df.mk' T sc_fewest_moved (fun args cs r cs' ⟨line, prices, e1, e2, hP, e3, e4⟩ => by subst e1 e2 e3 e4; exact ⟨rfl, by first | exact Nat.le_refl _ | exact Nat.zero_le _⟩) (fun f cdv Ar outer s H E G args cs r cs' hr ⟨line, prices, e1, e2, hP, e3, e4⟩ hB => ?_)
  subst e1 e2 e3 e4
  exact fewest_moved_1_w B D_price_for D_many_layers hr hB line prices hP
end
end My
set_option Elab.async false
set_option linter.all false
set_option maxRecDepth 100000
namespace My
open PySem PySem.Spec PyProof.Rows L2 Ab
theorem inR_lt {i : Int} {n : Nat} (h0 : 0 ≤ i) (h : i < (n : Int)) : InR i n := ⟨by omega, h⟩
theorem well3_len (k c : Int) : (l_well_3 k c).length = 3 := rfl
theorem well3_P (k c : Int) : l_well_3P k c := by
  unfold l_well_3P
  cases decide ((10 ^ (18 : Nat) : Int) ≤ c)
  · exact ⟨show (-2 : Int) ≤ 0 by decide, show (0 : Int) < 2 by decide⟩
  · exact ⟨show (-2 : Int) ≤ 1 by decide, show (1 : Int) < 2 by decide⟩
theorem well_len (script : List Int) (k : Int) : (v_l_well script k).length = 3 := by
  unfold v_l_well l_well_1 l_well_2 l_well_5 l_well_4 l_well_6
  cases decide (k < (script.length : Int))
  · cases decide ((0 : Int) < (script.length : Int)) <;> rfl
  · rfl
theorem well_P (script : List Int) {k : Int} (hk : 0 ≤ k) : P_l_well script k := by
  unfold P_l_well l_well_1P l_well_2P
  refine ⟨fun h => ⟨inR_lt hk (of_decide_eq_true h), well3_P _ _⟩, fun _ => ⟨fun h => ?_, fun _ => well3_P _ _⟩⟩
  have h := of_decide_eq_true h
  exact ⟨h, inR_lt (Int.emod_nonneg _ (by omega)) (Int.emod_lt_of_pos _ h), well3_P _ _⟩
theorem dip_len {well : List Int} (many : Int) (h : well.length = 3) : (v_l_dip well many).2.length = 3 := by
  unfold v_l_dip l_dip_1 l_dip_6 l_dip_7 l_dip_8 l_dip_2 l_dip_3 l_dip_4 l_dip_5
  cases decide ((0 : Int) < (gI well (0 : Int))) <;> simp [h]
theorem dip_lo (well : List Int) {many : Int} (h : 0 < many) : 0 ≤ (v_l_dip well many).1 := by
  unfold v_l_dip l_dip_1 l_dip_6 l_dip_7 l_dip_8 l_dip_2 l_dip_3 l_dip_4 l_dip_5
  cases decide ((0 : Int) < (gI well (0 : Int)))
  · exact Int.emod_nonneg _ (by omega)
  · exact Int.emod_nonneg _ (by omega)
theorem dip_hi (well : List Int) {many : Int} (h : 0 < many) : (v_l_dip well many).1 < many := by
  unfold v_l_dip l_dip_1 l_dip_6 l_dip_7 l_dip_8 l_dip_2 l_dip_3 l_dip_4 l_dip_5
  cases decide ((0 : Int) < (gI well (0 : Int)))
  · exact Int.emod_lt_of_pos _ h
  · exact Int.emod_lt_of_pos _ h
theorem dip_P {well : List Int} {many : Int} (hw : well.length = 3) (h : 0 < many) (hm : many < 1073741824) : P_l_dip well many := by
  unfold P_l_dip l_dip_1P l_dip_6P l_dip_7P l_dip_8P l_dip_2P l_dip_3P l_dip_4P l_dip_5P
  simp only [List.length_set, hw]
  exact ⟨⟨by decide, by decide⟩, fun _ => ⟨⟨by decide, by decide⟩, h, ⟨by decide, by decide⟩, ⟨h, hm⟩, ⟨by decide, by decide⟩, trivial⟩, fun _ => ⟨⟨by decide, by decide⟩, ⟨by decide, by decide⟩, ⟨by decide, by decide⟩, ⟨by decide, by decide⟩, ⟨by decide, by decide⟩, ⟨by decide, by decide⟩, h⟩⟩
theorem one_len {α : Type} [Inhabited α] {well : List Int} (some_ : List α) (h : well.length = 3) : (v_l_one well some_).2.length = 3 := dip_len _ h
theorem one_P {α : Type} {well : List Int} {some_ : List α} (hw : well.length = 3) (h : some_ ≠ []) (hs : some_.length < 100000) : P_l_one well some_ := by
  have hp : 0 < some_.length := List.length_pos_iff.mpr h
  exact ⟨dip_P hw (by omega) (by omega), inR_lt (dip_lo _ (by omega)) (dip_hi _ (by omega))⟩
theorem gI_at {α : Type} [Inhabited α] {xs : List α} {i : Int} (h0 : 0 ≤ i) (h : i < (xs.length : Int)) : gI xs i = xs[i.toNat]'(by omega) := by
  have e : atI xs i = some (xs[i.toNat]'(by omega)) := by
    unfold atI ixN
    rw [if_pos h0, if_pos h]
    simp
  unfold gI
  rw [e]
  rfl
theorem gI_last {α : Type} [Inhabited α] (xs : List α) (x : α) : gI (xs ++ [x]) (-1) = x := by
  have e : atI (xs ++ [x]) (-1) = some x := by
    unfold atI ixN
    rw [if_neg (by decide), if_pos (by rw [List.length_append, List.length_singleton]; omega), show ((-1 : Int) + ((xs ++ [x]).length : Int)).toNat = xs.length by rw [List.length_append, List.length_singleton]; omega]
    simp
  unfold gI
  rw [e]
  rfl
theorem gI_mem {α : Type} [Inhabited α] {xs : List α} {i : Int} (h0 : 0 ≤ i) (h : i < (xs.length : Int)) : gI xs i ∈ xs := by
  rw [gI_at h0 h]
  exact List.getElem_mem _
theorem one_mem {α : Type} [Inhabited α] (well : List Int) {some_ : List α} (h : some_ ≠ []) : (v_l_one well some_).1 ∈ some_ := by
  have hp : 0 < some_.length := List.length_pos_iff.mpr h
  exact gI_mem (dip_lo _ (by omega)) (dip_hi _ (by omega))
/-- a line that is open in `held`: `n` holds so far, all locks of `ok` -/
inductive Gd (ok : List Int) : Nat → List (Int × Int) → List Int → Prop where
  | nil : Gd ok 0 [] []
  | hold {n l h} (x : Int) : Gd ok n l h → x ∈ ok → x ∉ h → Gd ok (n + 1) (l ++ [(0, x)]) (h ++ [x])
  | give {n l h} (i : Nat) (hi : i < h.length) : Gd ok n l h → Gd ok n (l ++ [(1, h[i])]) (h.eraseIdx i)
theorem Gd.begun {ok : List Int} {n : Nat} {l : List (Int × Int)} {h : List Int} (g : Gd ok n l h) : ((l.filter (fun (z : Int × Int) => decide (z.1 = (0 : Int)))).map (fun (z : Int × Int) => z.1)).length = n := by
  induction g with
  | nil => rfl
  | hold x _ _ _ ih => simpa using ih
  | give i hi _ ih => simpa using ih
theorem Gd.len {ok : List Int} {n : Nat} {l : List (Int × Int)} {h : List Int} (g : Gd ok n l h) : l.length + h.length = 2 * n := by
  induction g with
  | nil => rfl
  | hold x _ _ _ ih => simp only [List.length_append, List.length_singleton]; omega
  | give i hi _ ih => simp only [List.length_append, List.length_singleton, List.length_eraseIdx, hi, if_true]; omega
theorem Gd.close {ok : List Int} {n : Nat} : ∀ {h : List Int} {l : List (Int × Int)}, Gd ok n l h → Gd ok n (l ++ h.map (fun (z : Int) => ((1 : Int), z))) []
  | [], l, g => by simpa using g
  | x :: h, l, g => by
    have := (Gd.give 0 (by simp) g).close
    simpa using this
/-- the state of the drawing loop -/
def LnI (ok : List Int) (many : Int) (v : List Int × List (Int × Int) × List Int) : Prop := v.1.length = 3 ∧ ∃ n : Nat, (n : Int) ≤ many ∧ Gd ok n v.2.1 v.2.2
theorem line_step {ok : List Int} {many : Int} (hm : many ≤ 10000) (hm0 : 0 ≤ many) (hok : ok.length ≤ 1000) {v : List Int × List (Int × Int) × List Int} (hv : LnI ok many v) : LnI ok many (l_line_3 v.1 v.2.1 v.2.2 ok many) ∧ l_line_3P v.1 v.2.1 v.2.2 ok many := by
  obtain ⟨well, line, held⟩ := v
  obtain ⟨hw, n, hn, g⟩ := hv
  have hw : well.length = 3 := hw
  have g : Gd ok n line held := g
  have hl := g.len
  have hb := g.begun
  show LnI ok many (l_line_3 well line held ok many) ∧ l_line_3P well line held ok many
  unfold l_line_3 l_line_3P l_line_4 l_line_4P
  rw [hb]
  generalize hf : (ok.filter (fun (z : Int) => !decide (z ∈ held))).map (fun (z : Int) => z) = free
  have hfm : ∀ x ∈ free, x ∈ ok ∧ x ∉ held := by
    intro x hx
    rw [← hf] at hx
    simpa using hx
  have hfl : free.length ≤ 1000 := by
    rw [← hf, List.length_map]
    exact Nat.le_trans (List.length_filter_le _ _) hok
  have hd2 : P_l_dip well (2 : Int) := dip_P hw (by decide) (by decide)
  unfold l_line_5 l_line_5P
  generalize hw2e : (cond (decide ((n : Int) < many)) (cond (!decide (free = [])) (cond (decide (held = [])) well ((v_l_dip well (2 : Int)).2)) well) well) = well2
  have hw2 : well2.length = 3 := by
    rw [← hw2e]
    cases decide ((n : Int) < many) <;> cases (!decide (free = [])) <;> cases decide (held = []) <;> first | exact hw | exact dip_len _ hw
  generalize hce : ((decide ((n : Int) < many)) && ((!decide (free = [])) && ((decide (held = [])) || (decide (((v_l_dip well (2 : Int)).1) = (0 : Int)))))) = c
  cases c with
  | true =>
    have hc1 : (n : Int) < many ∧ free ≠ [] := by
      simp only [Bool.and_eq_true, decide_eq_true_eq, Bool.not_eq_true', decide_eq_false_iff_not] at hce
      exact ⟨hce.1, hce.2.1⟩
    obtain ⟨hx1, hx2⟩ := hfm _ (one_mem well2 hc1.2)
    refine ⟨?_, by omega, by omega, fun _ _ _ => hd2, fun _ => ?_, fun h => nomatch h⟩
    · show LnI ok many (l_line_6 well2 line held ok many free)
      unfold l_line_6 l_line_7
      rw [gI_last]
      exact ⟨one_len _ hw2, n + 1, by omega, Gd.hold _ g hx1 hx2⟩
    · unfold l_line_6P l_line_7P
      refine ⟨one_P hw2 hc1.2 (by omega), by omega, ?_, by omega⟩
      rw [List.length_append, List.length_singleton]
      exact ⟨by omega, by omega⟩
  | false =>
    have key : held ≠ [] → LnI ok many (l_line_9 well2 line held ok many) ∧ l_line_9P well2 line held ok many := by
      intro hne
      have hp : 0 < held.length := List.length_pos_iff.mpr hne
      have q0 := dip_lo well2 (many := (held.length : Int)) (by omega)
      have q1 := dip_hi well2 (many := (held.length : Int)) (by omega)
      unfold l_line_9 l_line_9P
      refine ⟨?_, dip_P hw2 (by omega) (by omega), ⟨q0, q1⟩, by omega, by omega⟩
      rw [gI_at q0 q1]
      exact ⟨dip_len _ hw2, n, hn, Gd.give _ _ g⟩
    refine ⟨?_, by omega, by omega, fun _ _ _ => hd2, fun h => (nomatch h), fun _ => ?_⟩
    · show LnI ok many (l_line_8 well2 line held ok many)
      unfold l_line_8
      by_cases hne : held = []
      · rw [show (!decide (held = [])) = false by simp [hne]]
        exact ⟨hw2, n, hn, g⟩
      · rw [show (!decide (held = [])) = true by simp [hne]]
        exact (key hne).1
    · intro h
      exact (key (by simpa using h)).2
theorem foldl_inv {α σ : Type} {f : σ → α → σ} {I : σ → Prop} : ∀ (xs : List α) (s : σ), (∀ v, ∀ x ∈ xs, I v → I (f v x)) → I s → I (xs.foldl f s)
  | [], _, _, h0 => h0
  | x :: xs, s, h, h0 => foldl_inv xs (f s x) (fun v y hy => h v y (List.mem_cons_of_mem _ hy)) (h s x List.mem_cons_self h0)
theorem loopP_inv {α σ : Type} {f : σ → α → σ} {P : σ → α → Prop} {xs : List α} {s : σ} (I : σ → Prop) (h0 : I s) (h : ∀ v, ∀ x ∈ xs, I v → I (f v x) ∧ P v x) : loopP f P xs s := by
  intro i x e
  refine (h _ x (List.mem_of_getElem? e) (foldl_inv _ _ (fun v y hy hv => (h v y (List.mem_of_mem_take hy) hv).1) h0)).2
theorem rgOk_small {i : Int} (h0 : 0 ≤ i) (h : i ≤ 1000000) : RgOk i := ⟨by omega, by omega⟩
/-- what the law knows of its line -/
def IsLine (ok : List Int) (most : Int) (l : List (Int × Int)) : Prop := ∃ n : Nat, (n : Int) ≤ most ∧ Gd ok n l []
theorem line_good {well ok : List Int} {most : Int} (hw : well.length = 3) (h0 : 0 ≤ most) (hm : most ≤ 1000) (hok : ok.length ≤ 1000) :
    P_l_line well ok most ∧ (v_l_line well ok most).2.length = 3 ∧ IsLine ok most (v_l_line well ok most).1 := by
  unfold P_l_line v_l_line l_line_1 l_line_1P l_line_2 l_line_2P
  have d0 := dip_lo well (many := most + 1) (by omega)
  have d1 := dip_hi well (many := most + 1) (by omega)
  have hw1 := dip_len (well := well) (most + 1) hw
  have dP : P_l_dip well (most + 1) := dip_P hw (by omega) (by omega)
  generalize (v_l_dip well (most + 1)).1 = many at d0 d1 ⊢
  generalize (v_l_dip well (most + 1)).2 = w1 at hw1 ⊢
  have st : ∀ (v : List Int × List (Int × Int) × List Int), LnI ok many v → LnI ok many (l_line_3 v.1 v.2.1 v.2.2 ok many) ∧ l_line_3P v.1 v.2.1 v.2.2 ok many := fun v hv => line_step (by omega) d0 hok hv
  have s0 : LnI ok many (w1, [], []) := ⟨hw1, 0, by simpa using d0, Gd.nil⟩
  have fin := foldl_inv (f := fun (v : (List Int) × (List (Int × Int)) × (List Int)) (x : Int) => l_line_3 v.1 v.2.1 v.2.2 ok many) (I := LnI ok many) (rngL 0 (((4 : Int) * most) + (4 : Int)).toNat) (w1, [], []) (fun v x _ hv => (st v hv).1) s0
  have lp := loopP_inv (f := fun (v : (List Int) × (List (Int × Int)) × (List Int)) (x : Int) => l_line_3 v.1 v.2.1 v.2.2 ok many) (P := fun (v : (List Int) × (List (Int × Int)) × (List Int)) (x : Int) => l_line_3P v.1 v.2.1 v.2.2 ok many) (xs := rngL 0 (((4 : Int) * most) + (4 : Int)).toNat) (s := (w1, [], [])) (LnI ok many) s0 (fun v x _ hv => st v hv)
  generalize (rngL 0 (((4 : Int) * most) + (4 : Int)).toNat).foldl (fun (v : (List Int) × (List (Int × Int)) × (List Int)) (x : Int) => l_line_3 v.1 v.2.1 v.2.2 ok many) (w1, [], []) = z at fin ⊢
  obtain ⟨w2, line, held⟩ := z
  obtain ⟨hw2, n, hn, g⟩ := fin
  have g : Gd ok n line held := g
  have hl := g.len
  refine ⟨⟨dP, rgOk_small (by omega) (by omega), lp, ?_⟩, hw2, n, by omega, g.close⟩
  show held.length ≤ 100000 ∧ line.length + (held.map _).length ≤ 100000
  rw [List.length_map]
  omega
end My
set_option Elab.async false
set_option linter.all false
set_option maxRecDepth 100000
namespace My
open PySem PySem.Spec PyProof.Rows L2 Ab
theorem foldl_ix {α σ : Type} {f : σ → α → σ} {xs : List α} {s : σ} {I : Nat → σ → Prop} (h0 : I 0 s) (h : ∀ i x v, xs[i]? = some x → I i v → I (i + 1) (f v x)) : ∀ i, i ≤ xs.length → I i ((xs.take i).foldl f s)
  | 0, _ => by simpa using h0
  | i + 1, hi => by
    have e : xs[i]? = some (xs[i]'(by omega)) := List.getElem?_eq_getElem (by omega)
    rw [List.take_add_one, e]
    simp only [Option.toList_some, List.foldl_append, List.foldl_cons, List.foldl_nil]
    exact h i _ _ e (foldl_ix h0 h i (by omega))
theorem loopP_ix {α σ : Type} {f : σ → α → σ} {P : σ → α → Prop} {xs : List α} {s : σ} (I : Nat → σ → Prop) (h0 : I 0 s) (h : ∀ i x v, xs[i]? = some x → I i v → I (i + 1) (f v x) ∧ P v x) : loopP f P xs s ∧ I xs.length (xs.foldl f s) := by
  have st := foldl_ix (f := f) (xs := xs) h0 (fun i x v e hv => (h i x v e hv).1)
  constructor
  · intro i x e
    have hi : i < xs.length := by
      rcases Nat.lt_or_ge i xs.length with q | q
      · exact q
      · rw [List.getElem?_eq_none q] at e
        cases e
    exact (h i x _ e (st i (by omega))).2
  · have := st xs.length (Nat.le_refl _)
    rwa [List.take_length] at this
theorem rngL_len (lo : Int) (n : Nat) : (rngL lo n).length = n := by
  unfold rngL
  simp
theorem rngL_mem {lo : Int} {n : Nat} {x : Int} : x ∈ rngL lo n ↔ lo ≤ x ∧ x < lo + (n : Int) := by
  unfold rngL
  rw [List.mem_map]
  constructor
  · rintro ⟨i, hi, rfl⟩
    have := List.mem_range.mp hi
    constructor <;> omega
  · rintro ⟨h1, h2⟩
    exact ⟨(x - lo).toNat, List.mem_range.mpr (by omega), by omega⟩
theorem rngL_get {lo : Int} {n i : Nat} {x : Int} (h : (rngL lo n)[i]? = some x) : i < n ∧ x = lo + (i : Int) := by
  unfold rngL at h
  rw [List.getElem?_map] at h
  rcases Nat.lt_or_ge i n with q | q
  · rw [List.getElem?_range q] at h
    simp at h
    exact ⟨q, h.symm⟩
  · rw [List.getElem?_eq_none (by simpa using q)] at h
    cases h
/-- every hold that is not held any more has been given later -/
theorem Gd.given {ok : List Int} {n : Nat} {l : List (Int × Int)} {h : List Int} (g : Gd ok n l h) : ∀ (p : Nat) (x : Int), l[p]? = some (0, x) → (∃ q, p < q ∧ l[q]? = some (1, x)) ∨ x ∈ h := by
  induction g with
  | nil => intro p x e; simp at e
  | @hold n l h y _ _ _ ih =>
    intro p x e
    rw [List.getElem?_append] at e
    split at e
    · next hp =>
      rcases ih p x e with ⟨q, hq, e2⟩ | hm
      · refine .inl ⟨q, hq, ?_⟩
        have hql : q < l.length := by
          rcases Nat.lt_or_ge q l.length with k | k
          · exact k
          · rw [List.getElem?_eq_none k] at e2; cases e2
        rw [List.getElem?_append_left hql]
        exact e2
      · exact .inr (List.mem_append_left _ hm)
    · next hp =>
      have : p - l.length = 0 := by
        rcases Nat.eq_zero_or_pos (p - l.length) with k | k
        · exact k
        · rw [List.getElem?_eq_none (by rw [List.length_singleton]; exact k)] at e; cases e
      rw [this] at e
      simp at e
      subst e
      exact .inr (by simp)
  | @give n l h i hi _ ih =>
    intro p x e
    rw [List.getElem?_append] at e
    split at e
    · next hp =>
      rcases ih p x e with ⟨q, hq, e2⟩ | hm
      · refine .inl ⟨q, hq, ?_⟩
        have hql : q < l.length := by
          rcases Nat.lt_or_ge q l.length with k | k
          · exact k
          · rw [List.getElem?_eq_none k] at e2; cases e2
        rw [List.getElem?_append_left hql]
        exact e2
      · by_cases hx : x = h[i]
        · refine .inl ⟨l.length, hp, ?_⟩
          rw [List.getElem?_append_right (Nat.le_refl _), Nat.sub_self, hx]
          rfl
        · refine .inr ?_
          obtain ⟨j, hj, ej⟩ := List.mem_iff_getElem.mp hm
          rw [List.mem_eraseIdx_iff_getElem]
          refine ⟨j, hj, ?_, ej⟩
          intro k
          subst k
          exact hx ej.symm
    · next hp =>
      have : p - l.length = 0 := by
        rcases Nat.eq_zero_or_pos (p - l.length) with k | k
        · exact k
        · rw [List.getElem?_eq_none (by rw [List.length_singleton]; exact k)] at e; cases e
      rw [this] at e
      simp at e
theorem line_len {ok : List Int} {most : Int} {l : List (Int × Int)} (h : IsLine ok most l) : (l.length : Int) ≤ 2 * most := by
  obtain ⟨n, hn, g⟩ := h
  have := g.len
  simp only [List.length_nil] at this
  omega
theorem line_given {ok : List Int} {most : Int} {l : List (Int × Int)} (h : IsLine ok most l) {p : Nat} {x : Int} (e : l[p]? = some (0, x)) : ∃ q, p < q ∧ l[q]? = some (1, x) := by
  obtain ⟨n, hn, g⟩ := h
  rcases g.given p x e with k | k
  · exact k
  · simp at k
theorem gI_get {α : Type} [Inhabited α] {xs : List α} {n : Nat} {v : α} (e : xs[n]? = some v) : gI xs (n : Int) = v := by
  obtain ⟨hn, rfl⟩ := List.getElem?_eq_some_iff.mp e
  rw [gI_at (by omega) (by omega)]
  rfl
theorem windows_P {ok : List Int} {most : Int} {l : List (Int × Int)} (h : IsLine ok most l) (hm : most ≤ 1000) : P_l_windows l := by
  have hl := line_len h
  unfold P_l_windows l_windows_1P l_windows_2P
  refine ⟨rgOk_small (by omega) (by omega), (loopP_ix (fun i (v : List (Int × Int × Int)) => v.length ≤ i) (Nat.le_refl _) ?_).1, trivial⟩
  intro i x v e hv
  obtain ⟨hi, rfl⟩ := rngL_get e
  have hi : i < l.length := by simpa using hi
  rw [show (0 : Int) + (i : Int) = (i : Int) by omega]
  show (l_windows_3 v l (i : Int)).length ≤ i + 1 ∧ l_windows_3P v l (i : Int)
  constructor
  · unfold l_windows_3 l_windows_4 l_windows_5
    cases decide ((gI l (i : Int)).1 = 0)
    · exact Nat.le_succ_of_le hv
    · simp only [cond_true, List.length_append, List.length_singleton]
      omega
  · unfold l_windows_3P l_windows_4P l_windows_5P
    refine ⟨inR_lt (by omega) (by omega), fun hd => ⟨rgOk_small (by omega) (by omega), rgOk_small (by omega) (by omega), ?_, ?_, ?_, by omega⟩⟩
    · intro z hz
      have := rngL_mem.mp hz
      exact inR_lt (by omega) (by omega)
    · rw [rngL_len]
      omega
    · have e0 : l[i]? = some (0, (gI l (i : Int)).2) := by
        have e1 := List.getElem?_eq_getElem hi
        rw [gI_get e1, e1]
        have := of_decide_eq_true hd
        rw [gI_get e1] at this
        rw [← this]
      obtain ⟨q, hq, eq⟩ := line_given h e0
      have hql : q < l.length := (List.getElem?_eq_some_iff.mp eq).1
      refine inR_lt (Int.le_refl _) ?_
      have : (q : Int) ∈ ((rngL (i : Int) ((l.length : Int) - (i : Int)).toNat).filter (fun (z92 : Int) => decide ((gI l z92) = ((1 : Int), (gI l (i : Int)).2)))).map (fun (z92 : Int) => z92) := by
        rw [List.map_id', List.mem_filter]
        exact ⟨rngL_mem.mpr ⟨by omega, by omega⟩, decide_eq_true (gI_get eq)⟩
      have := List.length_pos_of_mem this
      omega
end My
set_option Elab.async false
set_option linter.all false
set_option maxRecDepth 100000
namespace My
open PySem PySem.Spec PyProof.Rows L2 Ab
theorem many_layers_P {ok : List Int} {most : Int} {l : List (Int × Int)} (h : IsLine ok most l) (hm : most ≤ 1000) : P_many_layers l := by
  have hl := line_len h
  unfold P_many_layers many_layers_1P many_layers_2P
  refine ⟨rgOk_small (i := 1) (by decide) (by decide), rgOk_small (i := (l.length : Int)) (by omega) (by omega), ?_, ?_⟩
  · intro z hz
    have hz := rngL_mem.mp hz
    simp only at hz
    exact ⟨inR_lt (by omega) (by omega), fun _ => inR_lt (by omega) (by omega)⟩
  · rw [rngL_len]
    simp only
    omega
theorem locks_of_P {ok : List Int} {most : Int} {l : List (Int × Int)} (h : IsLine ok most l) (hm : most ≤ 1000) : P_locks_of l := by
  have hl := line_len h
  show l.length ≤ 100000
  omega
theorem lots_step_len (rows : List (List Int)) (x : Int) : (l_lots_3 rows x).length = 2 * rows.length := by
  unfold l_lots_3
  rw [List.length_append, List.length_map]
  omega
theorem lots_good (m : Nat) (hm : m ≤ 10) : P_l_lots (m : Int) ∧ (v_l_lots (m : Int)).length = 2 ^ m ∧ ∀ lot ∈ v_l_lots (m : Int), lot.Pairwise (· < ·) ∧ ∀ x ∈ lot, 0 ≤ x ∧ x < (m : Int) := by
  have pw : ∀ i, i ≤ m → 2 ^ i ≤ 1024 := fun i hi => Nat.pow_le_pow_right (n := 2) (by decide) (Nat.le_trans hi hm)
  have := loopP_ix (f := fun (v : (List (List Int))) (x : Int) => l_lots_3 v x) (P := fun (v : (List (List Int))) (x : Int) => l_lots_3P v x) (xs := rngL 0 ((m : Int)).toNat) (s := [[]])
    (fun i (v : List (List Int)) => v.length = 2 ^ i ∧ ∀ lot ∈ v, lot.length ≤ i ∧ lot.Pairwise (· < ·) ∧ ∀ x ∈ lot, 0 ≤ x ∧ x < (i : Int)) ⟨rfl, by simp⟩ ?_
  · obtain ⟨lp, hl, hk⟩ := this
    rw [rngL_len] at hl hk
    rw [show (m : Int).toNat = m by omega] at hl hk
    refine ⟨⟨rgOk_small (by omega) (by omega), lp, trivial⟩, hl, fun lot h => (hk lot h).2⟩
  · rintro i x v e ⟨hl, hk⟩
    obtain ⟨hi, rfl⟩ := rngL_get e
    have hi : i < m := by simpa using hi
    have h1 := pw i (by omega)
    rw [show (0 : Int) + (i : Int) = (i : Int) by omega]
    refine ⟨⟨by rw [lots_step_len, hl, Nat.pow_succ]; omega, ?_⟩, ?_, by omega, ?_⟩
    · intro lot hlot
      rcases List.mem_append.mp hlot with k | k
      · obtain ⟨a, b, c⟩ := hk lot k
        exact ⟨by omega, b, fun x hx => ⟨(c x hx).1, by have := (c x hx).2; omega⟩⟩
      · obtain ⟨lot0, k0, rfl⟩ := List.mem_map.mp k
        obtain ⟨a, b, c⟩ := hk lot0 k0
        refine ⟨by rw [List.length_append, List.length_singleton]; omega, ?_, ?_⟩
        · rw [List.pairwise_append]
          refine ⟨b, List.pairwise_singleton _ _, fun x hx y hy => ?_⟩
          rw [List.mem_singleton.mp hy]
          exact (c x hx).2
        · intro x hx
          rcases List.mem_append.mp hx with q | q
          · exact ⟨(c x q).1, by have := (c x q).2; omega⟩
          · rw [List.mem_singleton.mp q]
            omega
    · intro z hz
      have := (hk z hz).1
      show z.length + 1 ≤ 100000
      omega
    · show v.length + (v.map _).length ≤ 100000
      rw [List.length_map]
      omega
end My
set_option Elab.async false
set_option linter.all false
set_option maxRecDepth 100000
namespace My
open PySem PySem.Spec PyProof.Rows L2 Ab
theorem dget_put_same {α : Type} (d : List (Int × α)) (k : Int) (u : α) : dgetO (dput d k u) k = some u := by
  induction d with
  | nil => simp [dput, dgetO]
  | cons p d ih =>
    unfold dput dgetO at ih ⊢
    by_cases hp : p.1 = k
    · simp [hp]
    · by_cases ha : (d.any fun p => decide (p.1 = k)) = true
      · rw [if_pos ha] at ih
        rw [if_pos (by rw [List.any_cons, ha, Bool.or_true]), List.map_cons, if_neg hp, List.find?_cons_of_neg (by simpa using hp)]
        exact ih
      · rw [if_neg ha] at ih
        rw [if_neg (by rw [List.any_cons]; simp [hp, ha]), List.cons_append, List.find?_cons_of_neg (by simpa using hp)]
        exact ih
theorem dget_put_ne {α : Type} (d : List (Int × α)) {k j : Int} (u : α) (h : j ≠ k) : dgetO (dput d k u) j = dgetO d j := by
  unfold dput
  split
  · unfold dgetO
    induction d with
    | nil => rfl
    | cons p d ih =>
      rw [List.map_cons]
      by_cases hp : p.1 = k
      · rw [if_pos hp, List.find?_cons_of_neg (by simp [hp, Ne.symm h]), List.find?_cons_of_neg (by simp [hp, Ne.symm h])]
        rename_i hh
        by_cases ha : (d.any fun p => decide (p.1 = k)) = true
        · exact ih ha
        · have : d.map (fun p => if p.1 = k then (p.1, u) else p) = d := by
            conv => rhs; rw [← List.map_id d]
            refine List.map_congr_left fun q hq => ?_
            rw [if_neg]
            · rfl
            · intro e
              exact ha (List.any_eq_true.mpr ⟨q, hq, decide_eq_true e⟩)
          rw [this]
      · rename_i hh
        rw [List.any_cons] at hh
        simp only [hp, decide_false, Bool.false_or] at hh
        rw [if_neg hp]
        by_cases hj : p.1 = j
        · rw [List.find?_cons_of_pos (by simpa using hj), List.find?_cons_of_pos (by simpa using hj)]
        · rw [List.find?_cons_of_neg (by simpa using hj), List.find?_cons_of_neg (by simpa using hj)]
          exact ih hh
  · unfold dgetO
    rw [List.find?_append]
    cases e : d.find? (fun p => decide (p.1 = j)) with
    | some p => rfl
    | none => simp [Ne.symm h]
theorem dget_del_ne {α : Type} (d : List (Int × α)) {k j : Int} (h : j ≠ k) : dgetO (ddel d k) j = dgetO d j := by
  unfold dgetO ddel
  rw [List.find?_filter]
  congr 1
  congr 1
  funext p
  by_cases hj : p.1 = j
  · simp [hj, h]
  · simp [hj]
theorem loopP_snoc {α σ : Type} {f : σ → α → σ} {P : σ → α → Prop} {xs : List α} {x : α} {s : σ} (h : loopP f P xs s) (hx : P (xs.foldl f s) x) : loopP f P (xs ++ [x]) s := by
  intro i y e
  rw [List.getElem?_append] at e
  split at e
  · next hi =>
    rw [List.take_append_of_le_length (by omega)]
    exact h i y e
  · next hi =>
    have : i - xs.length = 0 := by
      rcases Nat.eq_zero_or_pos (i - xs.length) with k | k
      · exact k
      · rw [List.getElem?_eq_none (by rw [List.length_singleton]; exact k)] at e; cases e
    rw [this] at e
    simp at e
    subst e
    have hi2 : i = xs.length := by omega
    subst hi2
    rw [List.take_left]
    exact hx
theorem Gd.nodup {ok : List Int} {n : Nat} {l : List (Int × Int)} {h : List Int} (g : Gd ok n l h) : h.Nodup := by
  induction g with
  | nil => exact List.nodup_nil
  | @hold n l h x _ _ hx ih =>
    rw [List.nodup_append]
    refine ⟨ih, by simp, ?_⟩
    intro a ha b hb
    rw [List.mem_singleton.mp hb]
    intro e
    exact hx (e ▸ ha)
  | @give n l h i hi _ ih => exact ih.eraseIdx i
theorem nodup_erase_ne {h : List Int} (hn : h.Nodup) {i : Nat} (hi : i < h.length) {x : Int} (hx : x ∈ h.eraseIdx i) : x ≠ h[i] ∧ x ∈ h := by
  rw [List.mem_eraseIdx_iff_getElem] at hx
  obtain ⟨j, hj, hne, e⟩ := hx
  refine ⟨fun k => hne ?_, e ▸ List.getElem_mem hj⟩
  exact (List.getElem_inj hn).mp (e.trans k)
/-- the open windows' places, known to the dict -/
def OpI (n : Nat) (h : List Int) (d : List (Int × Int)) : Prop := d.length ≤ n ∧ ∀ x ∈ h, ∃ i : Nat, dgetO d x = some (i : Int) ∧ i < n
theorem OpI.hold {n : Nat} {h : List Int} {d : List (Int × Int)} (o : OpI n h d) (x : Int) : OpI (n + 1) (h ++ [x]) (dput d x (n : Int)) := by
  refine ⟨Nat.le_trans dput_len (Nat.succ_le_succ o.1), fun y hy => ?_⟩
  by_cases e : y = x
  · subst e
    exact ⟨n, dget_put_same _ _ _, Nat.lt_succ_self n⟩
  · have hy : y ∈ h := by
      rcases List.mem_append.mp hy with k | k
      · exact k
      · exact absurd (List.mem_singleton.mp k) e
    obtain ⟨i, e1, e2⟩ := o.2 y hy
    exact ⟨i, by rw [dget_put_ne _ _ e]; exact e1, by omega⟩
theorem OpI.give {n : Nat} {h : List Int} {d : List (Int × Int)} (o : OpI n h d) (hn : h.Nodup) {i : Nat} (hi : i < h.length) : OpI n (h.eraseIdx i) (ddel d h[i]) := by
  refine ⟨Nat.le_trans (List.length_filter_le _ _) o.1, fun y hy => ?_⟩
  obtain ⟨h1, h2⟩ := nodup_erase_ne hn hi hy
  obtain ⟨j, e1, e2⟩ := o.2 y h2
  exact ⟨j, by rw [dget_del_ne _ h1]; exact e1, e2⟩
theorem Gd.layers {ok : List Int} {n : Nat} {l : List (Int × Int)} {h : List Int} (g : Gd ok n l h) (hn : n ≤ 1000) : loopP layers_f layers_ok l (([], []), (0 : Int), false) ∧ (l.foldl layers_f (([], []), (0 : Int), false)).1.1.length = n ∧ OpI n h (l.foldl layers_f (([], []), (0 : Int), false)).1.2 := by
  induction g with
  | nil => exact ⟨fun i x e => by simp at e, rfl, Nat.le_refl _, fun x hx => by simp at hx⟩
  | @hold n l h x _ _ _ ih =>
    obtain ⟨k1, k2, k3⟩ := ih (by omega)
    rw [List.foldl_append]
    have hk := k3.1
    refine ⟨loopP_snoc k1 ⟨by omega, by omega, fun q => absurd rfl q⟩, ?_, ?_⟩
    · show (_ ++ [_]).length = _
      rw [List.length_append, k2]
      rfl
    · show OpI (n + 1) (h ++ [x]) (dput _ x ((_ : List (Int × Int × Int)).length : Int))
      rw [k2]
      exact k3.hold x
  | @give n l h i hi g ih =>
    obtain ⟨k1, k2, k3⟩ := ih hn
    rw [List.foldl_append]
    have hk := k3.1
    obtain ⟨j, e1, e2⟩ := k3.2 _ (List.getElem_mem hi)
    refine ⟨loopP_snoc k1 ⟨by omega, by omega, fun _ => ⟨j, e1, by omega⟩⟩, ?_, ?_⟩
    · show (List.modify _ _ _).length = _
      rw [List.length_modify, k2]
    · exact k3.give g.nodup hi
theorem layers_of_P {ok : List Int} {most : Int} {l : List (Int × Int)} (h : IsLine ok most l) (hm : most ≤ 1000) : P_layers_of l := by
  obtain ⟨n, hn, g⟩ := h
  obtain ⟨k1, k2, _⟩ := g.layers (by omega)
  exact ⟨k1, by show _ ≤ _; unfold v_layers_of; omega⟩
end My
set_option Elab.async false
set_option linter.all false
set_option maxRecDepth 100000
namespace My
open PySem PySem.Spec PyProof.Rows L2 Ab
theorem rngL_succ (n : Nat) : rngL 0 (n + 1) = rngL 0 n ++ [(n : Int)] := by
  unfold rngL
  rw [List.range_succ, List.map_append]
  simp
theorem gI_mid {α : Type} [Inhabited α] (l : List α) (x : α) (rest : List α) : gI (l ++ [x] ++ rest) (l.length : Int) = x := by
  apply gI_get
  simp
theorem Gd.windows {ok : List Int} {n : Nat} {l : List (Int × Int)} {h : List Int} (g : Gd ok n l h) (hn : n ≤ 1000) : ∀ rest, loopP (windows_f (l ++ rest)) (windows_ok (l ++ rest)) (rngL 0 l.length) ([], []) ∧ ((rngL 0 l.length).foldl (windows_f (l ++ rest)) ([], [])).1.length = n ∧ OpI n h ((rngL 0 l.length).foldl (windows_f (l ++ rest)) ([], [])).2 := by
  induction g with
  | nil => exact fun rest => ⟨fun i x e => by simp [rngL] at e, rfl, Nat.le_refl _, fun x hx => by simp at hx⟩
  | @hold n l h x _ _ _ ih =>
    intro rest
    obtain ⟨k1, k2, k3⟩ := ih (by omega) ([(0, x)] ++ rest)
    rw [← List.append_assoc] at k1 k2 k3
    have hk := k3.1
    rw [List.length_append, List.length_singleton, rngL_succ, List.foldl_append]
    have hg := gI_mid l ((0 : Int), x) rest
    have e3 : windows_f (l ++ [(0, x)] ++ rest) ((rngL 0 l.length).foldl (windows_f (l ++ [(0, x)] ++ rest)) ([], [])) (l.length : Int) = (((rngL 0 l.length).foldl (windows_f (l ++ [(0, x)] ++ rest)) ([], [])).1 ++ [(x, (l.length : Int), (l.length : Int))], dput ((rngL 0 l.length).foldl (windows_f (l ++ [(0, x)] ++ rest)) ([], [])).2 x (((rngL 0 l.length).foldl (windows_f (l ++ [(0, x)] ++ rest)) ([], [])).1.length : Int)) := by
      generalize (rngL 0 l.length).foldl (windows_f (l ++ [(0, x)] ++ rest)) ([], []) = z
      unfold windows_f
      rw [hg]
      rfl
    refine ⟨loopP_snoc k1 ⟨inR_lt (by omega) (by simp only [List.length_append, List.length_singleton]; omega), by omega, by omega, fun q => absurd (by rw [hg]) q⟩, ?_, ?_⟩
    · simp only [List.foldl_cons, List.foldl_nil]
      rw [e3]
      simp only [List.length_append, List.length_singleton]
      rw [k2]
    · simp only [List.foldl_cons, List.foldl_nil]
      rw [e3]
      simp only
      rw [k2]
      exact k3.hold x
  | @give n l h i hi g ih =>
    intro rest
    obtain ⟨k1, k2, k3⟩ := ih hn ([(1, h[i])] ++ rest)
    rw [← List.append_assoc] at k1 k2 k3
    have hk := k3.1
    obtain ⟨j, e1, e2⟩ := k3.2 _ (List.getElem_mem hi)
    rw [List.length_append, List.length_singleton, rngL_succ, List.foldl_append]
    have hg := gI_mid l ((1 : Int), h[i]) rest
    have e3 : windows_f (l ++ [(1, h[i])] ++ rest) ((rngL 0 l.length).foldl (windows_f (l ++ [(1, h[i])] ++ rest)) ([], [])) (l.length : Int) = (((rngL 0 l.length).foldl (windows_f (l ++ [(1, h[i])] ++ rest)) ([], [])).1.modify ((dgetO ((rngL 0 l.length).foldl (windows_f (l ++ [(1, h[i])] ++ rest)) ([], [])).2 h[i]).getD 0).toNat (fun r => (r.1, r.2.1, (l.length : Int))), ddel ((rngL 0 l.length).foldl (windows_f (l ++ [(1, h[i])] ++ rest)) ([], [])).2 h[i]) := by
      generalize (rngL 0 l.length).foldl (windows_f (l ++ [(1, h[i])] ++ rest)) ([], []) = z
      unfold windows_f
      rw [hg]
      rfl
    refine ⟨loopP_snoc k1 ⟨inR_lt (by omega) (by simp only [List.length_append, List.length_singleton]; omega), by omega, by omega, fun _ => ⟨j, by rw [hg]; exact e1, by omega⟩⟩, ?_, ?_⟩
    · simp only [List.foldl_cons, List.foldl_nil]
      rw [e3]
      simp only [List.length_modify]
      exact k2
    · simp only [List.foldl_cons, List.foldl_nil]
      rw [e3]
      exact k3.give g.nodup hi
theorem windows_of_P {ok : List Int} {most : Int} {l : List (Int × Int)} (h : IsLine ok most l) (hm : most ≤ 1000) : P_windows_of l := by
  have hl := line_len h
  obtain ⟨n, hn, g⟩ := h
  have k := g.windows (by omega) []
  rw [List.append_nil] at k
  obtain ⟨k1, k2, _⟩ := k
  refine ⟨rgOk_small (by omega) (by omega), ?_, ?_⟩
  · rw [show ((l.length : Int)).toNat = l.length by omega]
    exact k1
  · unfold v_windows_of
    rw [show ((l.length : Int)).toNat = l.length by omega]
    omega
end My
set_option Elab.async false
set_option linter.all false
set_option maxRecDepth 100000
namespace My
open PySem PySem.Spec PyProof.Rows L2 Ab
theorem flatMap_len_le {α β : Type} (f : α → List β) (c : Nat) : ∀ (l : List α), (∀ x ∈ l, (f x).length ≤ c) → (l.flatMap f).length ≤ l.length * c
  | [], _ => by simp
  | x :: l, h => by
    rw [List.flatMap_cons, List.length_append, List.length_cons, Nat.succ_mul]
    have := flatMap_len_le f c l fun y hy => h y (List.mem_cons_of_mem _ hy)
    have := h x List.mem_cons_self
    omega
theorem windows_of_len {ok : List Int} {n : Nat} {l : List (Int × Int)} {h : List Int} (g : Gd ok n l h) (hn : n ≤ 1000) : (v_windows_of l).length = n := by
  have k := (g.windows hn []).2.1
  rw [List.append_nil] at k
  unfold v_windows_of
  rw [show ((l.length : Int)).toNat = l.length by omega]
  exact k
theorem layers_of_len {ok : List Int} {n : Nat} {l : List (Int × Int)} {h : List Int} (g : Gd ok n l h) (hn : n ≤ 1000) : (v_layers_of l).length = n := (g.layers hn).2.1
theorem before_of_P {ok : List Int} {most : Int} {l : List (Int × Int)} (h : IsLine ok most l) (hm : most ≤ 100) : P_before_of l ∧ (v_before_of l).length ≤ 100000 := by
  have hP := windows_of_P h (by omega)
  obtain ⟨n, hn, g⟩ := h
  have hl := windows_of_len g (by omega)
  have hsq : n * n ≤ 100 * 100 := Nat.mul_le_mul (by omega) (by omega)
  constructor
  · refine ⟨hP, ?_⟩
    unfold before_of_2P
    rw [hl]
    refine ⟨rgOk_small (by omega) (by omega), fun _ _ _ => rgOk_small (by omega) (by omega), fun z hz _ y hy => ?_, ?_⟩
    · have hz := rngL_mem.mp hz
      have hy := rngL_mem.mp hy
      exact ⟨inR_lt (by omega) (by omega), inR_lt (by omega) (by omega)⟩
    · have := flatMap_len_le (fun (z200 : Int) => rngL 0 ((n : Int)).toNat) n (rngL 0 ((n : Int)).toNat) (fun x _ => by rw [rngL_len]; omega)
      rw [rngL_len, show ((n : Int)).toNat = n by omega] at this
      rw [show ((n : Int)).toNat = n by omega]
      omega
  · unfold v_before_of before_of_1 before_of_2
    rw [hl, show ((n : Int)).toNat = n by omega]
    have := flatMap_len_le (fun (z200 : Int) => ((rngL 0 n).filter (fun (y200 : Int) => decide (((gI (v_windows_of l) z200).2.2) < ((gI (v_windows_of l) y200).2.1)))).map (fun (y200 : Int) => (z200, y200))) n ((rngL 0 n).filter (fun (z200 : Int) => true)) (fun x _ => by
      rw [List.length_map]
      exact Nat.le_trans (List.length_filter_le _ _) (by rw [rngL_len]; omega))
    have h2 : ((rngL 0 n).filter (fun (z200 : Int) => true)).length ≤ n := Nat.le_trans (List.length_filter_le _ _) (by rw [rngL_len]; omega)
    have h3 := Nat.mul_le_mul_right n h2
    omega
theorem is_enough_moved_P {ok : List Int} {most : Int} {l : List (Int × Int)} (h : IsLine ok most l) (hm : most ≤ 100) (ws : List Int) : P_is_enough_moved l ws := before_of_P h hm
theorem many_layers_le {ok : List Int} {most : Int} {l : List (Int × Int)} (h : IsLine ok most l) (hm : most ≤ 1000) : 0 ≤ v_many_layers l ∧ v_many_layers l ≤ 2 * most + 1 := by
  have hl := line_len h
  unfold v_many_layers many_layers_1 many_layers_2
  have h1 := List.length_filter_le (fun (z188 : Int) => (decide (((gI l (z188 - (1 : Int))).1) = (1 : Int))) && (decide (((gI l z188).1) = (0 : Int)))) (rngL ((1 : Int), (l.length : Int)).1 (((1 : Int), (l.length : Int)).2 - ((1 : Int), (l.length : Int)).1).toNat)
  rw [rngL_len] at h1
  simp only at h1
  have h2 : 0 ≤ Ab.b2i (!decide (l = [])) ∧ Ab.b2i (!decide (l = [])) ≤ 1 := by
    cases decide (l = []) <;> exact ⟨by decide, by decide⟩
  rw [List.length_map]
  simp only
  have hm0 : 0 ≤ most := by
    obtain ⟨n, hn, _⟩ := h
    omega
  omega
theorem open_at_P {ok : List Int} {most : Int} {l : List (Int × Int)} (h : IsLine ok most l) (hm : most ≤ 100) : P_open_at l ∧ ((v_open_at l).length : Int) = v_many_layers l := by
  have hL := layers_of_P h (by omega)
  have hM := many_layers_P h (by omega)
  obtain ⟨q0, q1⟩ := many_layers_le h (by omega)
  obtain ⟨n, hn, g⟩ := h
  have hl := layers_of_len g (by omega)
  have lp := loopP_ix (f := fun (v : (List (List (Int × Int)))) (x : Int) => open_at_4 v (v_layers_of l) x) (P := fun (v : (List (List (Int × Int)))) (x : Int) => open_at_4P v (v_layers_of l) x) (xs := rngL 0 (v_many_layers l).toNat) (s := []) (fun i v => v.length = i) rfl (by
    intro i x v e hv
    obtain ⟨hi, rfl⟩ := rngL_get e
    refine ⟨by show (_ ++ [_]).length = _; rw [List.length_append, hv]; rfl, ?_⟩
    unfold open_at_4P
    rw [hl]
    refine ⟨rgOk_small (by omega) (by omega), fun z hz => ?_, fun z hz _ => ?_, ?_, by omega⟩
    · have hz := rngL_mem.mp hz
      exact ⟨inR_lt (by omega) (by omega), fun _ => inR_lt (by omega) (by omega)⟩
    · have hz := rngL_mem.mp hz
      exact inR_lt (by omega) (by omega)
    · rw [rngL_len]
      omega)
  rw [rngL_len] at lp
  refine ⟨⟨hL, hM, rgOk_small q0 (by omega), lp.1, trivial⟩, ?_⟩
  show ((((rngL 0 (v_many_layers l).toNat).foldl (fun (v : (List (List (Int × Int)))) (x : Int) => open_at_4 v (v_layers_of l) x) []).length : Nat) : Int) = _
  rw [lp.2]
  omega
end My
set_option Elab.async false
set_option linter.all false
set_option maxRecDepth 100000
namespace My
open PySem PySem.Spec PyProof.Rows L2 Ab
theorem dget_del_same {α : Type} (d : List (Int × α)) (k : Int) : dgetO (ddel d k) k = none := by
  unfold dgetO ddel
  rw [List.find?_eq_none.mpr]
  · rfl
  · intro p hp
    have := (List.mem_filter.mp hp).2
    simpa using this
/-- the place of the first give of `x` from `p` on -/
def fg (L : List (Int × Int)) (p x : Int) : Int := gI (((rngL p ((L.length : Int) - p).toNat).filter (fun (z92 : Int) => decide ((gI L z92) = ((1 : Int), x)))).map (fun (z92 : Int) => z92)) (0 : Int)
theorem fg_eq {L : List (Int × Int)} {p m : Nat} {x : Int} (hpm : p ≤ m) (e : L[m]? = some (1, x)) (hno : ∀ q : Nat, p ≤ q → q < m → L[q]? ≠ some (1, x)) : fg L (p : Int) x = (m : Int) := by
  have hm : m < L.length := (List.getElem?_eq_some_iff.mp e).1
  have hs : rngL (p : Int) ((L.length : Int) - (p : Int)).toNat = (rngL (p : Int) (m - p)) ++ ((m : Int) :: (rngL ((m : Int) + 1) (L.length - m - 1))) := by
    apply List.ext_getElem?
    intro i
    unfold rngL
    simp only [List.getElem?_append, List.getElem?_map, List.length_map, List.length_range, List.getElem?_cons]
    rcases Nat.lt_trichotomy i (m - p) with k | k | k
    · rw [if_pos k, List.getElem?_range (by omega), List.getElem?_range k]
    · rw [if_neg (by omega), if_pos (by omega), List.getElem?_range (by omega)]
      simp only [Option.map_some]
      congr 1
      omega
    · rw [if_neg (by omega), if_neg (by omega)]
      by_cases hi : i < L.length - p
      · rw [List.getElem?_range (by omega), List.getElem?_range (by omega)]
        simp only [Option.map_some]
        congr 1
        omega
      · rw [List.getElem?_eq_none (by rw [List.length_range]; omega), List.getElem?_eq_none (by rw [List.length_range]; omega)]
        rfl
  unfold fg
  rw [List.map_id', hs, List.filter_append, List.filter_cons_of_pos (by rw [gI_get e]; simp)]
  have h0 : (rngL (p : Int) (m - p)).filter (fun (z92 : Int) => decide ((gI L z92) = ((1 : Int), x))) = [] := by
    rw [List.filter_eq_nil_iff]
    intro z hz
    have hz := rngL_mem.mp hz
    obtain ⟨q, rfl⟩ := Int.eq_ofNat_of_zero_le (show 0 ≤ z by omega)
    have hql : q < L.length := by omega
    have e1 := List.getElem?_eq_getElem hql
    rw [gI_get e1, decide_eq_true_eq]
    intro k
    exact hno q (by omega) (by omega) (by rw [e1, k])
  rw [h0, List.nil_append]
  exact gI_get (n := 0) rfl
end My
set_option Elab.async false
set_option linter.all false
set_option maxRecDepth 100000
namespace My
open PySem PySem.Spec PyProof.Rows L2 Ab
/-- the law's windows of the prefix `l` of the whole line `L` -/
def lwS (L : List (Int × Int)) (k : Nat) : List (Int × Int × Int) := (rngL 0 k).foldl (fun v x => l_windows_3 v L x) []
theorem lwS_hold {L : List (Int × Int)} {k : Nat} {x : Int} (e : gI L (k : Int) = (0, x)) : lwS L (k + 1) = lwS L k ++ [(x, (k : Int), fg L (k : Int) x)] := by
  unfold lwS
  rw [rngL_succ, List.foldl_append]
  simp only [List.foldl_cons, List.foldl_nil]
  generalize (rngL 0 k).foldl (fun v x => l_windows_3 v L x) [] = v
  unfold l_windows_3
  rw [e]
  rfl
theorem lwS_give {L : List (Int × Int)} {k : Nat} {x : Int} (e : gI L (k : Int) = (1, x)) : lwS L (k + 1) = lwS L k := by
  unfold lwS
  rw [rngL_succ, List.foldl_append]
  simp only [List.foldl_cons, List.foldl_nil]
  generalize (rngL 0 k).foldl (fun v x => l_windows_3 v L x) [] = v
  unfold l_windows_3
  rw [e]
  rfl
def WI (L : List (Int × Int)) (k : Nat) (h : List Int) (S : List (Int × Int × Int)) (z : List (Int × Int × Int) × List (Int × Int)) : Prop :=
  z.1.length = S.length ∧ (∀ (i : Nat) r, S[i]? = some r → z.1[i]? = some (if dgetO z.2 r.1 = some (i : Int) then (r.1, r.2.1, r.2.1) else r)) ∧
  (∀ x j, dgetO z.2 x = some j → x ∈ h ∧ ∃ (i p : Nat), j = (i : Int) ∧ S[i]? = some (x, (p : Int), fg L (p : Int) x) ∧ p ≤ k ∧ ∀ q : Nat, p ≤ q → q < k → L[q]? ≠ some (1, x))
theorem WI.hold {L : List (Int × Int)} {k : Nat} {h : List Int} {S : List (Int × Int × Int)} {z : List (Int × Int × Int) × List (Int × Int)} {x : Int} (w : WI L k h S z) (hx : x ∉ h) (e : L[k]? = some (0, x)) :
    WI L (k + 1) (h ++ [x]) (S ++ [(x, (k : Int), fg L (k : Int) x)]) (z.1 ++ [(x, (k : Int), (k : Int))], dput z.2 x (z.1.length : Int)) := by
  obtain ⟨w1, w2, w3⟩ := w
  have hn : dgetO z.2 x = none := by
    cases e1 : dgetO z.2 x with
    | none => rfl
    | some j => exact absurd (w3 x j e1).1 hx
  refine ⟨by simp [w1], ?_, ?_⟩
  · intro i r hr
    rw [List.getElem?_append] at hr
    split at hr
    · next hi =>
      rw [List.getElem?_append_left (by rw [w1]; exact hi), w2 i r hr]
      by_cases hrx : r.1 = x
      · simp only [hrx]
        rw [dget_put_same, hn, if_neg (by simp), if_neg (by simp only [Option.some.injEq]; omega)]
      · simp only
        rw [dget_put_ne _ _ hrx]
    · next hi =>
      have h0 : i - S.length = 0 := by
        rcases Nat.eq_zero_or_pos (i - S.length) with q | q
        · exact q
        · rw [List.getElem?_eq_none (by rw [List.length_singleton]; exact q)] at hr; cases hr
      rw [h0] at hr
      simp at hr
      subst hr
      have hi2 : i = z.1.length := by omega
      subst hi2
      simp only
      rw [dget_put_same, if_pos rfl]
      simp
  · intro y j hj
    simp only at hj
    by_cases hy : y = x
    · subst hy
      rw [dget_put_same] at hj
      cases hj
      refine ⟨by simp, z.1.length, k, rfl, by rw [w1]; simp, by omega, fun q q1 q2 => ?_⟩
      rw [show q = k by omega, e]
      simp
    · rw [dget_put_ne _ _ hy] at hj
      obtain ⟨a, i, p, b, c, d, f⟩ := w3 y j hj
      refine ⟨List.mem_append_left _ a, i, p, b, ?_, by omega, fun q q1 q2 => ?_⟩
      · rw [List.getElem?_append_left (List.getElem?_eq_some_iff.mp c).1]
        exact c
      · rcases Nat.lt_or_ge q k with t | t
        · exact f q q1 t
        · rw [show q = k by omega, e]
          simp
theorem WI.give {L : List (Int × Int)} {k : Nat} {h : List Int} {S : List (Int × Int × Int)} {z : List (Int × Int × Int) × List (Int × Int)} {i0 : Nat} (w : WI L k h S z) (hi0 : i0 < h.length) {j : Int} (ej : dgetO z.2 h[i0] = some j) (e : L[k]? = some (1, h[i0])) :
    WI L (k + 1) (h.eraseIdx i0) S (z.1.modify ((dgetO z.2 h[i0]).getD 0).toNat (fun r => (r.1, r.2.1, (k : Int))), ddel z.2 h[i0]) := by
  obtain ⟨w1, w2, w3⟩ := w
  obtain ⟨_, m, p, hjm, hS, hp, hno⟩ := w3 _ _ ej
  subst hjm
  have hfg := fg_eq (L := L) hp e hno
  rw [ej]
  refine ⟨by simp [w1], ?_, ?_⟩
  · intro i r hr
    simp only [Option.getD_some, Int.toNat_natCast]
    rw [List.getElem?_modify, w2 i r hr]
    by_cases him : m = i
    · subst him
      rw [hS] at hr
      cases hr
      simp only [if_pos, ej, Option.map_some, dget_del_same]
      simp [hfg]
    · simp only [if_neg him, Option.map_eq_map, Option.map_some]
      by_cases hrx : r.1 = h[i0]
      · simp only [hrx, ej, dget_del_same]
        rw [if_neg (by simp only [Option.some.injEq]; omega), if_neg (by simp)]
      · rw [dget_del_ne _ hrx]
  · intro y t ht
    simp only at ht
    by_cases hy : y = h[i0]
    · rw [hy, dget_del_same] at ht
      cases ht
    · rw [dget_del_ne _ hy] at ht
      obtain ⟨a, i, p', b, c, d, f⟩ := w3 y t ht
      refine ⟨?_, i, p', b, c, by omega, fun q q1 q2 => ?_⟩
      · obtain ⟨u, hu, eu⟩ := List.mem_iff_getElem.mp a
        rw [List.mem_eraseIdx_iff_getElem]
        refine ⟨u, hu, ?_, eu⟩
        intro k2
        subst k2
        exact hy eu.symm
      · rcases Nat.lt_or_ge q k with v | v
        · exact f q q1 v
        · rw [show q = k by omega, e]
          simp only [ne_eq, Option.some.injEq, Prod.mk.injEq, true_and]
          exact fun k2 => hy k2.symm
end My
set_option Elab.async false
set_option linter.all false
set_option maxRecDepth 100000
namespace My
open PySem PySem.Spec PyProof.Rows L2 Ab
theorem Gd.wi {ok : List Int} {n : Nat} {l : List (Int × Int)} {h : List Int} (g : Gd ok n l h) (hn : n ≤ 1000) : ∀ rest, WI (l ++ rest) l.length h (lwS (l ++ rest) l.length) ((rngL 0 l.length).foldl (windows_f (l ++ rest)) ([], [])) := by
  induction g with
  | nil => exact fun rest => ⟨rfl, fun i r e => by simp [lwS, rngL] at e, fun x j e => by simp [rngL, dgetO] at e⟩
  | @hold n l h x _ _ hx ih =>
    intro rest
    have k := ih (by omega) ([(0, x)] ++ rest)
    rw [← List.append_assoc] at k
    have hg := gI_mid l ((0 : Int), x) rest
    rw [List.length_append, List.length_singleton, lwS_hold hg, rngL_succ, List.foldl_append]
    simp only [List.foldl_cons, List.foldl_nil]
    have e3 : ∀ z, windows_f (l ++ [(0, x)] ++ rest) z (l.length : Int) = (z.1 ++ [(x, (l.length : Int), (l.length : Int))], dput z.2 x (z.1.length : Int)) := by
      intro z
      unfold windows_f
      rw [hg]
      rfl
    rw [e3]
    exact k.hold hx (by simp)
  | @give n l h i hi g ih =>
    intro rest
    have k := ih hn ([(1, h[i])] ++ rest)
    rw [← List.append_assoc] at k
    obtain ⟨j, e1, _⟩ := (g.windows hn ([(1, h[i])] ++ rest)).2.2.2 _ (List.getElem_mem hi)
    rw [← List.append_assoc] at e1
    have hg := gI_mid l ((1 : Int), h[i]) rest
    rw [List.length_append, List.length_singleton, lwS_give hg, rngL_succ, List.foldl_append]
    simp only [List.foldl_cons, List.foldl_nil]
    have e3 : ∀ z, windows_f (l ++ [(1, h[i])] ++ rest) z (l.length : Int) = (z.1.modify ((dgetO z.2 h[i]).getD 0).toNat (fun r => (r.1, r.2.1, (l.length : Int))), ddel z.2 h[i]) := by
      intro z
      unfold windows_f
      rw [hg]
      rfl
    rw [e3]
    exact k.give hi e1 (by simp)
/-- windows_of and _law_windows say the same of a good line -/
theorem windows_same {ok : List Int} {most : Int} {l : List (Int × Int)} (h : IsLine ok most l) (hm : most ≤ 1000) : v_windows_of l = v_l_windows l := by
  obtain ⟨n, hn, g⟩ := h
  have k := g.wi (by omega) []
  rw [List.append_nil] at k
  have e0 : v_l_windows l = lwS l l.length := by
    show (rngL 0 ((l.length : Int)).toNat).foldl (fun (v : (List (Int × Int × Int))) (x : Int) => l_windows_3 v l x) [] = _
    rw [show ((l.length : Int)).toNat = l.length by omega]
    rfl
  rw [e0]
  unfold v_windows_of
  rw [show ((l.length : Int)).toNat = l.length by omega]
  obtain ⟨w1, w2, w3⟩ := k
  apply List.ext_getElem?
  intro i
  cases e : (lwS l l.length)[i]? with
  | none =>
    rw [List.getElem?_eq_none_iff] at e ⊢
    omega
  | some r =>
    rw [w2 i r e, if_neg]
    intro q
    exact absurd (w3 _ _ q).1 (by simp)
end My
set_option Elab.async false
set_option linter.all false
set_option maxRecDepth 100000
namespace My
open PySem PySem.Spec PyProof.Rows L2 Ab
theorem mixed_ok {α : Type} : ∀ (n : Nat) (left : List α) (well : List Int), left.length = n → n < 100000 → well.length = 3 → mixedOk n left well
  | 0, left, _, h, _, _ => List.eq_nil_of_length_eq_zero h
  | n + 1, left, well, h, hn, hw => by
    have d0 := dip_lo well (many := (left.length : Int)) (by omega)
    have d1 := dip_hi well (many := (left.length : Int)) (by omega)
    refine ⟨h, dip_P hw (by omega) (by omega), ⟨d0, d1⟩, mixed_ok n _ _ ?_ (by omega) (dip_len _ hw)⟩
    rw [List.length_eraseIdx, if_pos (by omega)]
    omega
theorem mixed_P {α : Type} [Enc α] [DecidableEq α] [EqE α] {well : List Int} {some_ : List α} (hd : EqE.dep α ≤ 60) (hs : some_.length < 100000) (hw : well.length = 3) : P_l_mixed well some_ := ⟨hd, hs, mixed_ok _ _ _ rfl hs hw⟩
theorem erase_perm {α : Type} : ∀ (l : List α) (i : Nat) (hi : i < l.length), (l[i] :: l.eraseIdx i).Perm l
  | x :: l, 0, _ => List.Perm.refl _
  | x :: l, i + 1, hi => (List.Perm.swap _ _ _).trans (List.Perm.cons x (erase_perm l i (Nat.lt_of_succ_lt_succ hi)))
theorem mixedF_perm {α : Type} [Inhabited α] : ∀ (n : Nat) (left : List α) (well : List Int) (found : List α), left.length = n → well.length = 3 → (mixedF n left well found).1.Perm (found ++ left) ∧ (mixedF n left well found).2.length = 3
  | 0, left, well, found, h, hw => by
    rw [List.eq_nil_of_length_eq_zero h]
    exact ⟨by simp [mixedF], hw⟩
  | n + 1, left, well, found, h, hw => by
    have d0 := dip_lo well (many := (left.length : Int)) (by omega)
    have d1 := dip_hi well (many := (left.length : Int)) (by omega)
    obtain ⟨k1, k2⟩ := mixedF_perm n (left.eraseIdx (v_l_dip well (left.length : Int)).1.toNat) (v_l_dip well (left.length : Int)).2 (found ++ [gI left (v_l_dip well (left.length : Int)).1]) (by
      rw [List.length_eraseIdx, if_pos (by omega)]
      omega) (dip_len _ hw)
    refine ⟨?_, k2⟩
    refine k1.trans ?_
    rw [List.append_assoc]
    refine List.Perm.append_left found ?_
    rw [gI_at d0 d1]
    exact erase_perm _ _ _
theorem mixed_mem {α : Type} [Inhabited α] (well : List Int) (some_ : List α) (hw : well.length = 3) (x : α) : x ∈ (v_l_mixed well some_).1 ↔ x ∈ some_ := by
  have := (mixedF_perm some_.length some_ well [] rfl hw).1
  rw [List.nil_append] at this
  exact this.mem_iff
theorem mixed_len {α : Type} [Inhabited α] (well : List Int) (some_ : List α) (hw : well.length = 3) : (v_l_mixed well some_).2.length = 3 := (mixedF_perm some_.length some_ well [] rfl hw).2
end My
set_option Elab.async false
set_option linter.all false
set_option maxRecDepth 100000
namespace My
open PySem PySem.Spec PyProof.Rows L2 Ab
theorem meet_loop (rows : List (Int × Int × Int)) (left : List Int) : ∀ (xs : List Int), (loopF (fun (v : Unit) (x : Int) => l_meet_2 rows left x) xs ()).fin (id) (fun (v : Unit) => l_meet_4) = xs.all fun i => !(left.any fun j => decide ((gI rows i).2.2 < (gI rows j).2.1))
  | [] => rfl
  | i :: xs => by
    have ih := meet_loop rows left xs
    have hf : l_meet_2 rows left i = cond (left.any fun j => decide ((gI rows i).2.2 < (gI rows j).2.1)) (.ret false) (.next ()) := by
      unfold l_meet_2 l_meet_3
      rw [List.any_map]
      rfl
    rw [List.all_cons]
    have hl : loopF (fun (v : Unit) (x : Int) => l_meet_2 rows left x) (i :: xs) () = match l_meet_2 rows left i with | .next s' => loopF (fun (v : Unit) (x : Int) => l_meet_2 rows left x) xs s' | .ret r => .ret r | .brk s' => .brk s' := by
      rw [loopF]
      cases l_meet_2 rows left i <;> rfl
    rw [hl, hf]
    cases left.any fun j => decide ((gI rows i).2.2 < (gI rows j).2.1) with
    | true => rfl
    | false =>
      rw [Bool.not_false, Bool.true_and]
      exact ih
theorem meet_iff (rows : List (Int × Int × Int)) (left : List Int) : v_l_meet rows left = true ↔ ∀ i ∈ left, ∀ j ∈ left, ¬ (gI rows i).2.2 < (gI rows j).2.1 := by
  unfold v_l_meet l_meet_1
  rw [meet_loop]
  simp
theorem meet_P {rows : List (Int × Int × Int)} {left : List Int} (h : ∀ i ∈ left, 0 ≤ i ∧ i < (rows.length : Int)) (hl : left.length ≤ 100000) : P_l_meet rows left := by
  refine ⟨fun i x s1 e _ => ?_, fun _ _ => trivial⟩
  have hx := List.mem_of_getElem? e
  exact ⟨fun z hz => ⟨inR_lt (h x hx).1 (h x hx).2, inR_lt (h z hz).1 (h z hz).2⟩, hl, fun _ => trivial⟩
end My
set_option Elab.async false
set_option linter.all false
set_option maxRecDepth 100000
namespace My
open PySem PySem.Spec PyProof.Rows L2 Ab
theorem ex_max {α : Type} (a : α → Int) : ∀ (l : List α), l ≠ [] → ∃ m ∈ l, ∀ i ∈ l, a i ≤ a m
  | [x], _ => ⟨x, by simp, fun i hi => by rw [List.mem_singleton.mp hi]; exact Int.le_refl _⟩
  | x :: y :: l, _ => by
    obtain ⟨m, hm, h⟩ := ex_max a (y :: l) (by simp)
    rcases Int.le_total (a x) (a m) with k | k
    · refine ⟨m, List.mem_cons_of_mem _ hm, fun i hi => ?_⟩
      rcases List.mem_cons.mp hi with e | e
      · rw [e]; exact k
      · exact h i e
    · refine ⟨x, List.mem_cons_self, fun i hi => ?_⟩
      rcases List.mem_cons.mp hi with e | e
      · rw [e]; exact Int.le_refl _
      · exact Int.le_trans (h i e) k
/-- intervals that meet in pairs have a common moment -/
theorem helly {α : Type} (a b : α → Int) {l : List α} (hne : l ≠ []) (h : ∀ i ∈ l, ∀ j ∈ l, a j ≤ b i) : ∃ m ∈ l, ∀ i ∈ l, a i ≤ a m ∧ a m ≤ b i := by
  obtain ⟨m, hm, k⟩ := ex_max a l hne
  exact ⟨m, hm, fun i hi => ⟨k i hi, h i hi m hm⟩⟩
/-- the long line of one lock -/
theorem long_gd (ok : List Int) (x : Int) (hx : x ∈ ok) : ∀ n : Nat, Gd ok n (List.replicate n [((0 : Int), x), ((1 : Int), x)]).flatten []
  | 0 => Gd.nil
  | n + 1 => by
    have g := (long_gd ok x hx n).hold x hx (by simp)
    have g2 := g.give 0 (by simp)
    rw [List.replicate_succ', List.flatten_append]
    simpa using g2
theorem long_line (x : Int) (n : Nat) : IsLine [x] (n : Int) (List.replicate n [((0 : Int), x), ((1 : Int), x)]).flatten := ⟨n, Int.le_refl _, long_gd _ _ (by simp) n⟩
end My
set_option Elab.async false
set_option linter.all false
set_option maxRecDepth 100000
namespace My
open PySem PySem.Spec PyProof.Rows L2 Ab
theorem dedup_len : ∀ xs : List Int, (dedup xs).length ≤ xs.length
  | [] => Nat.le_refl _
  | x :: xs => by
    have ih := dedup_len xs
    unfold dedup
    split
    · exact Nat.le_succ_of_le ih
    · exact Nat.succ_le_succ ih
theorem setI_len (xs : List Int) : (setI xs).length ≤ xs.length := by
  unfold setI
  rw [(sortI_perm _).length_eq]
  exact dedup_len xs
theorem moments_by_P {locks : List Int} {heads : List (List Int)} (hl : heads.length = locks.length) (h64 : locks.length < 64) (hz : (setI (heads.map (fun (z107 : List Int) => (z107.length : Int)))).length ≤ 100000) : P_l_moments_by locks heads := by
  refine ⟨⟨by omega, by omega⟩, by omega, by rw [List.length_map]; omega, ?_⟩
  have lp := loopP_ix (f := fun (v : (List Int)) (x : Int) => l_moments_by_5 v locks heads (rngL 0 ((locks.length : Int)).toNat) (setI ((heads).map (fun (z107 : List Int) => (z107.length : Int)))) x) (P := fun (v : (List Int)) (x : Int) => l_moments_by_5P v locks heads (rngL 0 ((locks.length : Int)).toNat) (setI ((heads).map (fun (z107 : List Int) => (z107.length : Int)))) x) (xs := rngL 0 ((locks.length : Int)).toNat) (s := []) (fun i v => v.length = i) rfl (by
    intro i x v e hv
    obtain ⟨hi, rfl⟩ := rngL_get e
    refine ⟨by show (_ ++ [_]).length = _; rw [List.length_append, hv]; rfl, fun _ _ => by omega, hz, by omega⟩)
  rw [rngL_len] at lp
  refine ⟨lp.1, fun z hz' => ?_, by rw [rngL_len]; omega⟩
  have h1 := rngL_mem.mp hz'
  refine ⟨inR_lt (by omega) (by omega), inR_lt (by omega) (by omega), ?_, inR_lt (by omega) (by rw [lp.2]; omega)⟩
  rw [mem_setI, List.mem_map]
  exact ⟨_, gI_mem (by omega) (by omega), rfl⟩
theorem moments_P {rows : List (Int × Int × Int)} (h : rows.length < 64) : P_l_moments rows := by
  refine ⟨⟨by omega, by omega⟩, fun z hz => ⟨fun y hy => ?_, by rw [rngL_len]; omega⟩, by rw [rngL_len]; omega, by omega, ?_⟩
  · have hz := rngL_mem.mp hz
    have hy := rngL_mem.mp hy
    exact ⟨inR_lt (by omega) (by omega), inR_lt (by omega) (by omega)⟩
  · refine moments_by_P (by simp only [List.length_map, rngL_len]; omega) (by rw [List.length_map]; exact h) (Nat.le_trans (setI_len _) ?_)
    simp only [List.length_map, rngL_len]
    omega
end My
set_option Elab.async false
set_option linter.all false
set_option maxRecDepth 100000
namespace My
open PySem PySem.Spec PyProof.Rows L2 Ab
theorem foldl_max_le {b : Int} : ∀ (xs : List Int) (a : Int), a ≤ b → (∀ x ∈ xs, x ≤ b) → xs.foldl max a ≤ b
  | [], _, h, _ => h
  | x :: xs, a, h, hx => foldl_max_le xs (max a x) (by have := hx x List.mem_cons_self; omega) fun y hy => hx y (List.mem_cons_of_mem _ hy)
theorem open_P {m : List (Int × Int × Int)} (h : m.length < 64) (hl : ∀ r ∈ m, r.2.2 ≤ 1000) : P_l_open m := by
  have hb : maxL ([(0 : Int)] ++ (m.map (fun (z142 : Int × Int × Int) => z142.2.2 + (1 : Int)))) ≤ 1001 := by
    refine foldl_max_le _ 0 (by decide) fun x hx => ?_
    obtain ⟨r, hr, rfl⟩ := List.mem_map.mp hx
    have := hl r hr
    omega
  have h0 : 0 ≤ maxL ([(0 : Int)] ++ (m.map (fun (z142 : Int × Int × Int) => z142.2.2 + (1 : Int)))) :=
    foldl_inv (f := max) (I := fun v : Int => 0 ≤ v) _ 0 (fun v x _ hv => by omega) (Int.le_refl _)
  refine ⟨by omega, by rw [List.length_map, List.length_singleton]; omega, by simp, ?_⟩
  unfold l_open_2P l_open_3P
  generalize maxL ([(0 : Int)] ++ (m.map (fun (z142 : Int × Int × Int) => z142.2.2 + (1 : Int)))) = many at hb h0 ⊢
  refine ⟨rgOk_small h0 (by omega), (loopP_ix (fun i (v : List (List (Int × Int))) => v.length = i) rfl ?_).1, trivial⟩
  intro i x v e hv
  obtain ⟨hi, rfl⟩ := rngL_get e
  refine ⟨by show (_ ++ [_]).length = _; rw [List.length_append, hv]; rfl, ?_⟩
  refine ⟨rgOk_small (by omega) (by omega), (loopP_ix (fun j (d : List (Int × Int)) => d.length ≤ j) (Nat.le_refl _) ?_).1, by show v.length < 100000; omega⟩
  intro j y d ey hd
  obtain ⟨hj, rfl⟩ := rngL_get ey
  have hy : InR ((0 : Int) + (j : Int)) m.length := inR_lt (by omega) (by omega)
  refine ⟨?_, hy, fun _ => hy, fun _ => ⟨hy, by omega⟩⟩
  unfold l_open_6 l_open_7
  generalize (decide ((gI m ((0 : Int) + (j : Int))).2.1 ≤ (0 : Int) + (i : Int)) && decide ((0 : Int) + (i : Int) ≤ (gI m ((0 : Int) + (j : Int))).2.2)) = c
  cases c
  · exact Nat.le_succ_of_le hd
  · exact Nat.le_trans dput_len (Nat.succ_le_succ hd)
end My
set_option Elab.async false
set_option linter.all false
set_option maxRecDepth 100000
namespace My
open PySem PySem.Spec PyProof.Rows L2 Ab
theorem snoc_get {α : Type} {l : List α} {a z : α} {p : Nat} : (l ++ [a])[p]? = some z ↔ l[p]? = some z ∨ (p = l.length ∧ z = a) := by
  rw [List.getElem?_append]
  split
  · next h =>
    constructor
    · exact .inl
    · rintro (k | ⟨k, _⟩)
      · exact k
      · omega
  · next h =>
    rw [List.getElem?_eq_none (l := l) (by omega)]
    rcases Nat.eq_zero_or_pos (p - l.length) with k | k
    · rw [k]
      simp only [List.getElem?_cons_zero, Option.some.injEq, reduceCtorEq, false_or]
      constructor
      · intro e; exact ⟨by omega, e.symm⟩
      · intro e; exact e.2.symm
    · rw [List.getElem?_eq_none (by rw [List.length_singleton]; exact k)]
      simp only [reduceCtorEq, false_or, false_iff, not_and]
      omega
theorem Gd.deed {ok : List Int} {n : Nat} {l : List (Int × Int)} {h : List Int} (g : Gd ok n l h) : ∀ (p : Nat) z, l[p]? = some z → z.1 = 0 ∨ z.1 = 1 := by
  induction g with
  | nil => intro p z e; simp at e
  | hold x _ _ _ ih =>
    intro p z e
    rcases snoc_get.mp e with k | ⟨_, rfl⟩
    · exact ih p z k
    · exact .inl rfl
  | give i hi _ ih =>
    intro p z e
    rcases snoc_get.mp e with k | ⟨_, rfl⟩
    · exact ih p z k
    · exact .inr rfl
theorem Gd.locks {ok : List Int} {n : Nat} {l : List (Int × Int)} {h : List Int} (g : Gd ok n l h) : ∀ (p : Nat) x, l[p]? = some (0, x) → x ∈ ok := by
  induction g with
  | nil => intro p z e; simp at e
  | hold x _ hx _ ih =>
    intro p z e
    rcases snoc_get.mp e with k | ⟨_, k⟩
    · exact ih p z k
    · cases k; exact hx
  | give i hi _ ih =>
    intro p z e
    rcases snoc_get.mp e with k | ⟨_, k⟩
    · exact ih p z k
    · cases k
theorem Gd.held {ok : List Int} {n : Nat} {l : List (Int × Int)} {h : List Int} (g : Gd ok n l h) : ∀ x ∈ h, ∃ q, q < l.length ∧ l[q]? = some (0, x) := by
  induction g with
  | nil => intro x e; simp at e
  | @hold n l h y _ hx _ ih =>
    intro x e
    rcases List.mem_append.mp e with k | k
    · obtain ⟨q, h1, h2⟩ := ih x k
      exact ⟨q, by rw [List.length_append]; omega, snoc_get.mpr (.inl h2)⟩
    · rw [List.mem_singleton.mp k]
      exact ⟨l.length, by rw [List.length_append, List.length_singleton]; omega, snoc_get.mpr (.inr ⟨rfl, rfl⟩)⟩
  | @give n l h i hi _ ih =>
    intro x e
    obtain ⟨q, h1, h2⟩ := ih x (List.mem_of_mem_eraseIdx e)
    exact ⟨q, by rw [List.length_append]; omega, snoc_get.mpr (.inl h2)⟩
theorem Gd.before {ok : List Int} {n : Nat} {l : List (Int × Int)} {h : List Int} (g : Gd ok n l h) : ∀ (p : Nat) x, l[p]? = some (1, x) → ∃ q, q < p ∧ l[q]? = some (0, x) := by
  induction g with
  | nil => intro p x e; simp at e
  | @hold n l h y _ hx _ ih =>
    intro p x e
    rcases snoc_get.mp e with k | ⟨_, k⟩
    · obtain ⟨q, h1, h2⟩ := ih p x k
      exact ⟨q, h1, snoc_get.mpr (.inl h2)⟩
    · cases k
  | @give n l h i hi g ih =>
    intro p x e
    rcases snoc_get.mp e with k | ⟨hp, k⟩
    · obtain ⟨q, h1, h2⟩ := ih p x k
      exact ⟨q, h1, snoc_get.mpr (.inl h2)⟩
    · cases k
      obtain ⟨q, h1, h2⟩ := g.held _ (List.getElem_mem hi)
      exact ⟨q, by omega, snoc_get.mpr (.inl h2)⟩
theorem Gd.between {ok : List Int} {n : Nat} {l : List (Int × Int)} {h : List Int} (g : Gd ok n l h) : ∀ (p p2 : Nat) x, p < p2 → l[p]? = some (0, x) → l[p2]? = some (0, x) → ∃ q, p < q ∧ q < p2 ∧ l[q]? = some (1, x) := by
  induction g with
  | nil => intro p p2 x _ e; simp at e
  | @hold n l h y g _ hx ih =>
    intro p p2 x hp e1 e2
    rcases snoc_get.mp e2 with k | ⟨hp2, k⟩
    · have hl : p2 < l.length := (List.getElem?_eq_some_iff.mp k).1
      rcases snoc_get.mp e1 with k1 | ⟨k1, _⟩
      · obtain ⟨q, a, b, c⟩ := ih p p2 x hp k1 k
        exact ⟨q, a, b, snoc_get.mpr (.inl c)⟩
      · omega
    · cases k
      rcases snoc_get.mp e1 with k1 | ⟨k1, _⟩
      · rcases g.given p _ k1 with ⟨q, a, b⟩ | b
        · have hl : q < l.length := (List.getElem?_eq_some_iff.mp b).1
          exact ⟨q, a, by omega, snoc_get.mpr (.inl b)⟩
        · exact absurd b hx
      · omega
  | @give n l h i hi g ih =>
    intro p p2 x hp e1 e2
    rcases snoc_get.mp e2 with k | ⟨hp2, k⟩
    · have hl : p2 < l.length := (List.getElem?_eq_some_iff.mp k).1
      rcases snoc_get.mp e1 with k1 | ⟨k1, _⟩
      · obtain ⟨q, a, b, c⟩ := ih p p2 x hp k1 k
        exact ⟨q, a, b, snoc_get.mpr (.inl c)⟩
      · omega
    · cases k
theorem Gd.reheld {ok : List Int} {n : Nat} {l : List (Int × Int)} {h : List Int} (g : Gd ok n l h) : ∀ (p : Nat) x, l[p]? = some (1, x) → x ∈ h → ∃ q, p < q ∧ l[q]? = some (0, x) := by
  induction g with
  | nil => intro p x e; simp at e
  | @hold n l h y g _ hx ih =>
    intro p x e hm
    rcases snoc_get.mp e with k | ⟨_, k⟩
    · have hl : p < l.length := (List.getElem?_eq_some_iff.mp k).1
      rcases List.mem_append.mp hm with m | m
      · obtain ⟨q, a, b⟩ := ih p x k m
        exact ⟨q, a, snoc_get.mpr (.inl b)⟩
      · rw [List.mem_singleton.mp m]
        exact ⟨l.length, hl, snoc_get.mpr (.inr ⟨rfl, rfl⟩)⟩
    · cases k
  | @give n l h i hi g ih =>
    intro p x e hm
    obtain ⟨h1, h2⟩ := nodup_erase_ne g.nodup hi hm
    rcases snoc_get.mp e with k | ⟨_, k⟩
    · obtain ⟨q, a, b⟩ := ih p x k h2
      exact ⟨q, a, snoc_get.mpr (.inl b)⟩
    · cases k
      exact absurd rfl h1
theorem Gd.between2 {ok : List Int} {n : Nat} {l : List (Int × Int)} {h : List Int} (g : Gd ok n l h) : ∀ (p p2 : Nat) x, p < p2 → l[p]? = some (1, x) → l[p2]? = some (1, x) → ∃ q, p < q ∧ q < p2 ∧ l[q]? = some (0, x) := by
  induction g with
  | nil => intro p p2 x _ e; simp at e
  | @hold n l h y g _ hx ih =>
    intro p p2 x hp e1 e2
    rcases snoc_get.mp e2 with k | ⟨hp2, k⟩
    · have hl : p2 < l.length := (List.getElem?_eq_some_iff.mp k).1
      rcases snoc_get.mp e1 with k1 | ⟨k1, _⟩
      · obtain ⟨q, a, b, c⟩ := ih p p2 x hp k1 k
        exact ⟨q, a, b, snoc_get.mpr (.inl c)⟩
      · omega
    · cases k
  | @give n l h i hi g ih =>
    intro p p2 x hp e1 e2
    rcases snoc_get.mp e2 with k | ⟨hp2, k⟩
    · have hl : p2 < l.length := (List.getElem?_eq_some_iff.mp k).1
      rcases snoc_get.mp e1 with k1 | ⟨k1, _⟩
      · obtain ⟨q, a, b, c⟩ := ih p p2 x hp k1 k
        exact ⟨q, a, b, snoc_get.mpr (.inl c)⟩
      · omega
    · cases k
      rcases snoc_get.mp e1 with k1 | ⟨k1, _⟩
      · obtain ⟨q, a, b⟩ := g.reheld p _ k1 (List.getElem_mem hi)
        have hl : q < l.length := (List.getElem?_eq_some_iff.mp b).1
        exact ⟨q, a, by omega, snoc_get.mpr (.inl b)⟩
      · omega
/-- the places of the holds -/
def hps (L : List (Int × Int)) (k : Nat) : List Nat := (List.range k).filter fun p => decide ((gI L (p : Int)).1 = 0)
theorem lwS_eq (L : List (Int × Int)) : ∀ k, lwS L k = (hps L k).map fun (p : Nat) => ((gI L (p : Int)).2, (p : Int), fg L (p : Int) (gI L (p : Int)).2)
  | 0 => rfl
  | k + 1 => by
    have ih := lwS_eq L k
    have e : lwS L (k + 1) = l_windows_3 (lwS L k) L (k : Int) := by
      unfold lwS
      rw [rngL_succ, List.foldl_append]
      rfl
    rw [e, ih]
    unfold hps
    rw [List.range_succ, List.filter_append, List.map_append]
    unfold l_windows_3 l_windows_4 l_windows_5
    by_cases h : (gI L (k : Int)).1 = 0
    · rw [List.filter_cons_of_pos (by simp [h])]
      simp only [h, decide_true, cond_true]
      rfl
    · rw [List.filter_cons_of_neg (by simp [h])]
      simp [h]
theorem v_windows_eq (L : List (Int × Int)) : v_l_windows L = (hps L L.length).map fun (p : Nat) => ((gI L (p : Int)).2, (p : Int), fg L (p : Int) (gI L (p : Int)).2) := by
  rw [← lwS_eq]
  show (rngL 0 ((L.length : Int)).toNat).foldl (fun (v : (List (Int × Int × Int))) (x : Int) => l_windows_3 v L x) [] = _
  rw [show ((L.length : Int)).toNat = L.length by omega]
  rfl
theorem least_nat (p : Nat → Prop) [DecidablePred p] : ∀ k, p k → ∃ m, m ≤ k ∧ p m ∧ ∀ j, j < m → ¬ p j
  | k, h => by
    by_cases hq : ∃ j, j < k ∧ p j
    · obtain ⟨j, hj, hpj⟩ := hq
      obtain ⟨m, a, b, c⟩ := least_nat p j hpj
      exact ⟨m, by omega, b, c⟩
    · exact ⟨k, Nat.le_refl _, h, fun j hj hpj => hq ⟨j, hj, hpj⟩⟩
termination_by k => k
/-- a line's windows: locks, holds, gives -/
structure LW (ok : List Int) (L : List (Int × Int)) (n : Nat) (c : Nat → Int) (p g : Nat → Nat) : Prop where
  w : v_l_windows L = (List.range n).map fun i => (c i, (p i : Int), (g i : Int))
  hp : ∀ i, i < n → L[p i]? = some (0, c i)
  hg : ∀ i, i < n → L[g i]? = some (1, c i)
  lt : ∀ i, i < n → p i < g i
  ord : ∀ i j, i < j → j < n → p i < p j
  same : ∀ i j, i < j → j < n → c i = c j → g i < p j
  all : ∀ q x, L[q]? = some (0, x) → ∃ i, i < n ∧ p i = q
  mem : ∀ i, i < n → c i ∈ ok
  deed : ∀ (q : Nat) z, L[q]? = some z → z.1 = 0 ∨ z.1 = 1
  bef : ∀ (q : Nat) x, L[q]? = some (1, x) → ∃ r, r < q ∧ L[r]? = some (0, x)
  reh : ∀ (q q2 : Nat) x, q < q2 → L[q]? = some (1, x) → L[q2]? = some (1, x) → ∃ r, q < r ∧ r < q2 ∧ L[r]? = some (0, x)
  first : ∀ i, i < n → ∀ q, p i ≤ q → q < g i → L[q]? ≠ some (1, c i)
theorem LW.allg {ok : List Int} {L : List (Int × Int)} {n : Nat} {c : Nat → Int} {p g : Nat → Nat} (w : LW ok L n c p g) {q : Nat} {x : Int} (e : L[q]? = some (1, x)) : ∃ i, i < n ∧ g i = q := by
  obtain ⟨r, hr, er⟩ := w.bef q x e
  obtain ⟨m, hm, ⟨m1, m2, m3⟩, hl⟩ := least_nat (fun m => m ≤ q ∧ 0 < m ∧ L[q - m]? = some (0, x)) (q - r) ⟨by omega, by omega, by rw [show q - (q - r) = r by omega]; exact er⟩
  obtain ⟨i, hi, ei⟩ := w.all _ _ m3
  refine ⟨i, hi, ?_⟩
  have hc : c i = x := by
    have := w.hp i hi
    rw [ei, m3] at this
    cases this
    rfl
  rcases Nat.lt_trichotomy (g i) q with k | k | k
  · have h1 := w.hg i hi
    rw [hc] at h1
    obtain ⟨r2, a, b, d⟩ := w.reh _ _ _ k h1 e
    have := w.lt i hi
    exact absurd ⟨by omega, by omega, by rw [show q - (q - r2) = r2 by omega]; exact d⟩ (hl (q - r2) (by omega))
  · exact k
  · exact absurd (hc ▸ e) (w.first i hi q (by omega) k)
theorem line_lw {ok : List Int} {most : Int} {L : List (Int × Int)} (h : IsLine ok most L) : ∃ n c p g, LW ok L n c p g := by
  have hgv := fun (p : Nat) x (e : L[p]? = some (0, x)) => line_given h e
  obtain ⟨n0, hn, gd⟩ := h
  have hmem : ∀ i, i < (hps L L.length).length → (hps L L.length)[i]! < L.length ∧ L[(hps L L.length)[i]!]? = some (0, (gI L ((hps L L.length)[i]! : Int)).2) := by
    intro i hi
    rw [getElem!_pos _ i hi]
    have h1 := List.getElem_mem hi
    generalize (hps L L.length)[i] = q at h1
    unfold hps at h1
    rw [List.mem_filter, List.mem_range, decide_eq_true_eq] at h1
    obtain ⟨h1, h2⟩ := h1
    refine ⟨h1, ?_⟩
    have e1 := List.getElem?_eq_getElem h1
    rw [gI_get e1] at h2 ⊢
    rw [e1, ← h2]
  have hgi : ∀ i, i < (hps L L.length).length → ∃ m : Nat, (hps L L.length)[i]! < m ∧ L[m]? = some (1, (gI L ((hps L L.length)[i]! : Int)).2) ∧ (∀ q : Nat, (hps L L.length)[i]! ≤ q → q < m → L[q]? ≠ some (1, (gI L ((hps L L.length)[i]! : Int)).2)) := by
    intro i hi
    obtain ⟨h1, h2⟩ := hmem i hi
    obtain ⟨q, hq, e⟩ := hgv _ _ h2
    obtain ⟨m, a, b, cc⟩ := least_nat (fun m => (hps L L.length)[i]! < m ∧ L[m]? = some (1, (gI L ((hps L L.length)[i]! : Int)).2)) q ⟨hq, e⟩
    refine ⟨m, b.1, b.2, fun r hr1 hr2 er => ?_⟩
    rcases Nat.lt_or_ge (hps L L.length)[i]! r with k | k
    · exact cc r hr2 ⟨k, er⟩
    · have : r = (hps L L.length)[i]! := by omega
      rw [this, h2] at er
      cases er
  have hfg : ∀ i, i < (hps L L.length).length → ∀ m : Nat, (hps L L.length)[i]! < m → L[m]? = some (1, (gI L ((hps L L.length)[i]! : Int)).2) → (∀ q : Nat, (hps L L.length)[i]! ≤ q → q < m → L[q]? ≠ some (1, (gI L ((hps L L.length)[i]! : Int)).2)) → fg L ((hps L L.length)[i]! : Int) (gI L ((hps L L.length)[i]! : Int)).2 = (m : Int) :=
    fun i hi m a b c => fg_eq (by omega) b c
  have hpw : (hps L L.length).Pairwise (· < ·) := by
    unfold hps
    exact List.Pairwise.filter _ (List.pairwise_lt_range)
  refine ⟨(hps L L.length).length, fun i => (gI L ((hps L L.length)[i]! : Int)).2, fun i => (hps L L.length)[i]!, fun i => (fg L ((hps L L.length)[i]! : Int) (gI L ((hps L L.length)[i]! : Int)).2).toNat, ?_, fun i hi => (hmem i hi).2, ?_, ?_, ?_, ?_, ?_, ?_, gd.deed, gd.before, gd.between2, ?_⟩
  · rw [v_windows_eq]
    apply List.ext_getElem
    · simp
    · intro i h1 h2
      have hi : i < (hps L L.length).length := by simpa using h1
      obtain ⟨m, a, b, cc⟩ := hgi i hi
      have := hfg i hi m a b cc
      simp only [List.getElem_map, List.getElem_range]
      rw [this, ← this, ← getElem!_pos (hps L L.length) i hi, this]
      simp
  · intro i hi
    obtain ⟨m, a, b, cc⟩ := hgi i hi
    try simp only
    rw [hfg i hi m a b cc]
    simpa using b
  · intro i hi
    obtain ⟨m, a, b, cc⟩ := hgi i hi
    try simp only
    rw [hfg i hi m a b cc]
    simpa using a
  · intro i j hij hj
    try simp only
    rw [getElem!_pos _ i (by omega), getElem!_pos _ j hj]
    exact List.pairwise_iff_getElem.mp hpw i j (by omega) hj hij
  · intro i j hij hj hc
    obtain ⟨m, a, b, cc⟩ := hgi i (by omega)
    try simp only at hc ⊢
    rw [hfg i (by omega) m a b cc]
    have hlt : (hps L L.length)[i]! < (hps L L.length)[j]! := by
      rw [getElem!_pos _ i (by omega), getElem!_pos _ j hj]
      exact List.pairwise_iff_getElem.mp hpw i j (by omega) hj hij
    have e1 := (hmem i (by omega)).2
    have e2 := (hmem j hj).2
    rw [← hc] at e2
    obtain ⟨q, q1, q2, q3⟩ := gd.between _ _ _ hlt e1 e2
    rcases Nat.lt_or_ge q m with k | k
    · exact absurd q3 (cc q (by omega) k)
    · simp only [Int.toNat_natCast]
      omega
  · intro q x e
    have hq : q ∈ hps L L.length := by
      unfold hps
      rw [List.mem_filter, List.mem_range, decide_eq_true_eq, gI_get e]
      exact ⟨(List.getElem?_eq_some_iff.mp e).1, rfl⟩
    obtain ⟨i, hi, ei⟩ := List.mem_iff_getElem.mp hq
    refine ⟨i, hi, ?_⟩
    try simp only
    rw [getElem!_pos _ i hi, ei]
  · intro i hi
    exact gd.locks _ _ (hmem i hi).2
  · intro i hi q h1 h2
    obtain ⟨m, a, b, cc⟩ := hgi i hi
    try simp only at h1 h2 ⊢
    rw [hfg i hi m a b cc, Int.toNat_natCast] at h2
    exact cc q h1 h2
end My
set_option Elab.async false
set_option linter.all false
set_option maxRecDepth 100000
namespace My
open PySem PySem.Spec PyProof.Rows L2 Ab
/-- a give is at `q`, a hold behind it -/
def chg (L : List (Int × Int)) (q : Nat) : Bool := decide ((gI L (q : Int)).1 = 1) && decide ((gI L ((q : Int) + 1)).1 = 0)
/-- the layer of a place -/
def lay (L : List (Int × Int)) : Nat → Nat
  | 0 => 0
  | p + 1 => lay L p + (chg L p).toNat
theorem lay_mono (L : List (Int × Int)) {a : Nat} : ∀ {b : Nat}, a ≤ b → lay L a ≤ lay L b
  | 0, h => by rw [Nat.le_zero.mp h]; exact Nat.le_refl _
  | b + 1, h => by
    rcases Nat.lt_or_ge a (b + 1) with k | k
    · exact Nat.le_trans (lay_mono L (Nat.le_of_lt_succ k)) (Nat.le_add_right _ _)
    · rw [show a = b + 1 by omega]
      exact Nat.le_refl _
theorem lay_lt {L : List (Int × Int)} (hd : ∀ (q : Nat) z, L[q]? = some z → z.1 = 0 ∨ z.1 = 1) {a : Nat} {x : Int} (ha : L[a]? = some (1, x)) : ∀ {b : Nat} {y : Int}, a < b → L[b]? = some (0, y) → lay L a < lay L b
  | b + 1, y, h, hb => by
    have hbl : b + 1 < L.length := (List.getElem?_eq_some_iff.mp hb).1
    have e := List.getElem?_eq_getElem (show b < L.length by omega)
    have hb1 : (gI L ((b : Int) + 1)).1 = 0 := by
      rw [show (b : Int) + 1 = ((b + 1 : Nat) : Int) by omega, gI_get hb]
    rcases hd b _ e with k | k
    · have hab : a < b := by
        rcases Nat.lt_or_ge a b with q | q
        · exact q
        · rw [show a = b by omega, e] at ha
          rw [Option.some.injEq] at ha
          rw [ha] at k
          cases k
      have := lay_lt hd ha hab (b := b) (y := L[b].2) (by rw [e, ← k])
      exact Nat.lt_of_lt_of_le this (lay_mono L (by omega))
    · have : lay L (b + 1) = lay L b + 1 := by
        show lay L b + (chg L b).toNat = _
        unfold chg
        rw [hb1, gI_get e, k]
        rfl
      have := lay_mono L (show a ≤ b by omega)
      omega
theorem lay_ex {L : List (Int × Int)} (h0 : L ≠ [] → ∃ y, L[0]? = some (0, y)) : ∀ (p : Nat), p < L.length → ∀ t, t ≤ lay L p → ∃ (q : Nat) (y : Int), q ≤ p ∧ L[q]? = some (0, y) ∧ lay L q = t
  | 0, hp, t, ht => by
    obtain ⟨y, hy⟩ := h0 (by intro e; rw [e] at hp; simp at hp)
    exact ⟨0, y, Nat.le_refl _, hy, (Nat.le_zero.mp ht).symm⟩
  | p + 1, hp, t, ht => by
    have hl : lay L (p + 1) = lay L p + (chg L p).toNat := rfl
    cases hc : chg L p with
    | false =>
      rw [hc] at hl
      obtain ⟨q, y, a, b, c⟩ := lay_ex h0 p (by omega) t (by simpa [hl] using ht)
      exact ⟨q, y, by omega, b, c⟩
    | true =>
      rw [hc] at hl
      rcases Nat.lt_or_ge (lay L p) t with k | k
      · have e := List.getElem?_eq_getElem hp
        refine ⟨p + 1, L[p + 1].2, Nat.le_refl _, ?_, by simp at hl; omega⟩
        unfold chg at hc
        rw [Bool.and_eq_true, decide_eq_true_eq, decide_eq_true_eq, show (p : Int) + 1 = ((p + 1 : Nat) : Int) by omega, gI_get e] at hc
        rw [e, ← hc.2]
      · obtain ⟨q, y, a, b, c⟩ := lay_ex h0 p (by omega) t k
        exact ⟨q, y, by omega, b, c⟩
theorem lay_exg {L : List (Int × Int)} : ∀ (p t : Nat), p < L.length → t < lay L p → ∃ (q : Nat) (y : Int), L[q]? = some (1, y) ∧ lay L q = t
  | 0, t, hp, ht => by cases ht
  | p + 1, t, hp, ht => by
    have hl : lay L (p + 1) = lay L p + (chg L p).toNat := rfl
    cases hc : chg L p with
    | false =>
      rw [hc] at hl
      exact lay_exg p t (by omega) (by simpa [hl] using ht)
    | true =>
      rw [hc] at hl
      rcases Nat.lt_or_ge t (lay L p) with k | k
      · exact lay_exg p t (by omega) k
      · have e := List.getElem?_eq_getElem (show p < L.length by omega)
        refine ⟨p, L[p].2, ?_, by simp at hl; omega⟩
        unfold chg at hc
        rw [Bool.and_eq_true, decide_eq_true_eq, decide_eq_true_eq, gI_get e] at hc
        rw [e, ← hc.1]
theorem lay_count (L : List (Int × Int)) : ∀ n : Nat, (((rngL 1 n).filter (fun (z188 : Int) => (decide (((gI L (z188 - (1 : Int))).1) = (1 : Int))) && (decide (((gI L z188).1) = (0 : Int))))).map (fun (z188 : Int) => z188)).length = lay L n
  | 0 => rfl
  | n + 1 => by
    have ih := lay_count L n
    have e : rngL 1 (n + 1) = rngL 1 n ++ [1 + (n : Int)] := by
      unfold rngL
      rw [List.range_succ, List.map_append]
      rfl
    rw [e, List.filter_append, List.map_append, List.length_append, ih]
    show _ = lay L n + (chg L n).toNat
    congr 1
    unfold chg
    rw [show 1 + (n : Int) = (n : Int) + 1 by omega]
    by_cases h : (decide ((gI L (n : Int)).1 = 1) && decide ((gI L ((n : Int) + 1)).1 = 0)) = true
    · rw [List.filter_cons_of_pos (by rw [show (n : Int) + 1 - 1 = (n : Int) by omega]; exact h), h]
      rfl
    · rw [List.filter_cons_of_neg (by rw [show (n : Int) + 1 - 1 = (n : Int) by omega]; exact h), Bool.eq_false_iff.mpr h]
      rfl
theorem many_eq (L : List (Int × Int)) : v_many_layers L = if L = [] then 0 else ((lay L (L.length - 1) + 1 : Nat) : Int) := by
  unfold v_many_layers many_layers_1 many_layers_2
  simp only
  rw [show ((L.length : Int) - 1).toNat = L.length - 1 by omega, lay_count]
  by_cases h : L = []
  · rw [if_pos h, h]
    rfl
  · rw [if_neg h]
    simp [h, Ab.b2i]
/-- the two walks over a line go alongside -/
def LF (L : List (Int × Int)) (r : Int × Int × Int) : Int × Int × Int := (r.1, (lay L r.2.1.toNat : Int), (lay L r.2.2.toNat : Int))
def LR (L : List (Int × Int)) (k : Nat) (z : List (Int × Int × Int) × List (Int × Int)) (y : LayS) : Prop :=
  y.1.1 = z.1.map (LF L) ∧ y.1.2 = z.2 ∧ y.2.1 = (lay L (k - 1) : Int) ∧ y.2.2 = (decide (0 < k) && decide ((gI L ((k : Int) - 1)).1 = 1))
theorem LR.hold {L : List (Int × Int)} {k : Nat} {z : List (Int × Int × Int) × List (Int × Int)} {y : LayS} {x : Int} (w : LR L k z y) (e : L[k]? = some (0, x)) : LR L (k + 1) (z.1 ++ [(x, (k : Int), (k : Int))], dput z.2 x (z.1.length : Int)) (layers_f y (0, x)) := by
  obtain ⟨w1, w2, w3, w4⟩ := w
  have hn : y.2.1 + Ab.b2i y.2.2 = (lay L k : Int) := by
    rw [w3, w4]
    cases k with
    | zero => rfl
    | succ k =>
      have : lay L (k + 1) = lay L k + (chg L k).toNat := rfl
      rw [this, Nat.add_sub_cancel]
      unfold chg
      rw [show (k : Int) + 1 = ((k + 1 : Nat) : Int) by omega, gI_get e, show (((k + 1 : Nat) : Int) - 1) = (k : Int) by omega]
      cases decide ((gI L (k : Int)).1 = 1) <;> simp [Ab.b2i]
  refine ⟨?_, ?_, ?_, ?_⟩
  · show y.1.1 ++ [(x, y.2.1 + Ab.b2i y.2.2, y.2.1 + Ab.b2i y.2.2)] = _
    rw [hn, List.map_append, w1]
    rfl
  · show dput y.1.2 x (y.1.1.length : Int) = _
    rw [w1, w2, List.length_map]
  · exact hn
  · show decide ((0 : Int) = 1) = _
    rw [show ((k + 1 : Nat) : Int) - 1 = (k : Int) by omega, gI_get e]
    simp
theorem LR.give {L : List (Int × Int)} {k : Nat} {z : List (Int × Int × Int) × List (Int × Int)} {y : LayS} {x : Int} (w : LR L k z y) (e : L[k]? = some (1, x)) : LR L (k + 1) (z.1.modify ((dgetO z.2 x).getD 0).toNat (fun r => (r.1, r.2.1, (k : Int))), ddel z.2 x) (layers_f y (1, x)) := by
  obtain ⟨w1, w2, w3, w4⟩ := w
  have hn : y.2.1 = (lay L k : Int) := by
    rw [w3]
    cases k with
    | zero => rfl
    | succ k =>
      have : lay L (k + 1) = lay L k + (chg L k).toNat := rfl
      rw [this, Nat.add_sub_cancel]
      unfold chg
      rw [show (k : Int) + 1 = ((k + 1 : Nat) : Int) by omega, gI_get e]
      simp
  refine ⟨?_, ?_, ?_, ?_⟩
  · show y.1.1.modify ((dgetO y.1.2 x).getD 0).toNat (fun r => (r.1, r.2.1, y.2.1)) = _
    rw [w1, w2, hn]
    apply List.ext_getElem?
    intro i
    simp only [List.getElem?_modify, List.getElem?_map]
    cases z.1[i]? with
    | none => rfl
    | some r =>
      simp only [Option.map_some, Option.map_eq_map]
      split
      · simp [LF]
      · rfl
  · show ddel y.1.2 x = _
    rw [w2]
  · exact hn
  · show decide ((1 : Int) = 1) = _
    rw [show ((k + 1 : Nat) : Int) - 1 = (k : Int) by omega, gI_get e]
    simp
theorem Gd.lr {ok : List Int} {n : Nat} {l : List (Int × Int)} {h : List Int} (g : Gd ok n l h) : ∀ rest, LR (l ++ rest) l.length ((rngL 0 l.length).foldl (windows_f (l ++ rest)) ([], [])) (l.foldl layers_f (([], []), (0 : Int), false)) := by
  induction g with
  | nil => exact fun rest => ⟨rfl, rfl, rfl, rfl⟩
  | @hold n l h x _ _ hx ih =>
    intro rest
    have k := ih ([(0, x)] ++ rest)
    rw [← List.append_assoc] at k
    have hg := gI_mid l ((0 : Int), x) rest
    rw [List.length_append, List.length_singleton, rngL_succ, List.foldl_append, List.foldl_append]
    simp only [List.foldl_cons, List.foldl_nil]
    have e3 : ∀ z, windows_f (l ++ [(0, x)] ++ rest) z (l.length : Int) = (z.1 ++ [(x, (l.length : Int), (l.length : Int))], dput z.2 x (z.1.length : Int)) := by
      intro z
      unfold windows_f
      rw [hg]
      rfl
    rw [e3]
    exact k.hold (by simp)
  | @give n l h i hi g ih =>
    intro rest
    have k := ih ([(1, h[i])] ++ rest)
    rw [← List.append_assoc] at k
    have hg := gI_mid l ((1 : Int), h[i]) rest
    rw [List.length_append, List.length_singleton, rngL_succ, List.foldl_append, List.foldl_append]
    simp only [List.foldl_cons, List.foldl_nil]
    have e3 : ∀ z, windows_f (l ++ [(1, h[i])] ++ rest) z (l.length : Int) = (z.1.modify ((dgetO z.2 h[i]).getD 0).toNat (fun r => (r.1, r.2.1, (l.length : Int))), ddel z.2 h[i]) := by
      intro z
      unfold windows_f
      rw [hg]
      rfl
    rw [e3]
    exact k.give (by simp)
/-- layers_of is windows_of by layers -/
theorem layers_eq {ok : List Int} {most : Int} {l : List (Int × Int)} (h : IsLine ok most l) (hm : most ≤ 1000) : v_layers_of l = (v_l_windows l).map (LF l) := by
  rw [← windows_same h hm]
  obtain ⟨n, hn, g⟩ := h
  have k := (g.lr []).1
  rw [List.append_nil] at k
  unfold v_windows_of
  rw [show ((l.length : Int)).toNat = l.length by omega]
  exact k
/-- a line's windows by layers -/
structure LY (ok : List Int) (L : List (Int × Int)) (n T : Nat) (c : Nat → Int) (f e : Nat → Nat) : Prop where
  y : v_layers_of L = (List.range n).map fun i => (c i, (f i : Int), (e i : Int))
  many : v_many_layers L = (T : Int)
  le : ∀ i, i < n → f i ≤ e i
  lt : ∀ i, i < n → e i < T
  same : ∀ i j, i < j → j < n → c i = c j → e i < f j
  ex : ∀ t, t < T → ∃ i, i < n ∧ f i = t
  mem : ∀ i, i < n → c i ∈ ok
  exg : ∀ t, t + 1 < T → ∃ i, i < n ∧ e i = t
theorem line_ly {ok : List Int} {most : Int} {L : List (Int × Int)} (h : IsLine ok most L) (hm : most ≤ 1000) {n : Nat} {c : Nat → Int} {p g : Nat → Nat} (w : LW ok L n c p g) : ∃ T, LY ok L n T c (fun i => lay L (p i)) (fun i => lay L (g i)) := by
  have h0 : L ≠ [] → ∃ y, L[0]? = some (0, y) := by
    intro hne
    have hp0 : 0 < L.length := List.length_pos_iff.mpr hne
    have e := List.getElem?_eq_getElem hp0
    rcases w.deed 0 _ e with k | k
    · exact ⟨L[0].2, by rw [e, ← k]⟩
    · obtain ⟨r, hr, _⟩ := w.bef 0 L[0].2 (by rw [e, ← k])
      omega
  have hgl : ∀ i, i < n → g i < L.length := fun i hi => (List.getElem?_eq_some_iff.mp (w.hg i hi)).1
  refine ⟨if L = [] then 0 else lay L (L.length - 1) + 1, ?_, ?_, fun i hi => lay_mono L (by have := w.lt i hi; omega), ?_, ?_, ?_, w.mem, ?_⟩
  · rw [layers_eq h hm, w.w, List.map_map]
    refine List.map_congr_left fun i hi => ?_
    simp [LF]
  · rw [many_eq]
    split <;> rfl
  · intro i hi
    have := hgl i hi
    rw [if_neg (by intro e; rw [e] at this; simp at this)]
    exact Nat.lt_succ_of_le (lay_mono L (by omega))
  · intro i j hij hj hc
    exact lay_lt w.deed (w.hg i (by omega)) (w.same i j hij hj hc) (w.hp j hj)
  · intro t ht
    by_cases hne : L = []
    · rw [if_pos hne] at ht
      omega
    · rw [if_neg hne] at ht
      have := List.length_pos_iff.mpr hne
      obtain ⟨q, y, a, b, d⟩ := lay_ex h0 (L.length - 1) (by omega) t (by omega)
      obtain ⟨i, hi, e⟩ := w.all q y b
      exact ⟨i, hi, by rw [e]; exact d⟩
  · intro t ht
    by_cases hne : L = []
    · rw [if_pos hne] at ht
      omega
    · rw [if_neg hne] at ht
      have := List.length_pos_iff.mpr hne
      obtain ⟨q, y, a, b⟩ := lay_exg (L := L) (L.length - 1) t (by omega) (by omega)
      obtain ⟨i, hi, e⟩ := w.allg a
      exact ⟨i, hi, by rw [e]; exact b⟩
/-- a window is given ahead of another one's hold just if its layers end ahead -/
theorem LW.ahead {ok : List Int} {L : List (Int × Int)} {n : Nat} {c : Nat → Int} {p g : Nat → Nat} (w : LW ok L n c p g) {i j : Nat} (hi : i < n) (hj : j < n) : g i < p j ↔ lay L (g i) < lay L (p j) := by
  constructor
  · intro h
    exact lay_lt w.deed (w.hg i hi) h (w.hp j hj)
  · intro h
    rcases Nat.lt_or_ge (g i) (p j) with k | k
    · exact k
    · have := lay_mono L k
      omega
end My
set_option Elab.async false
set_option linter.all false
set_option maxRecDepth 100000
namespace My
open PySem PySem.Spec PyProof.Rows L2 Ab
theorem foldl_snoc {α β : Type} (F : α → β) : ∀ (xs : List α) (a : List β), xs.foldl (fun v x => v ++ [F x]) a = a ++ xs.map F
  | [], a => by simp
  | x :: xs, a => by
    rw [List.foldl_cons, foldl_snoc F xs, List.map_cons, List.append_assoc]
    rfl
theorem filter_lt {α : Type} {p q : α → Bool} (hpq : ∀ x, p x = true → q x = true) : ∀ {l : List α}, (∃ x ∈ l, q x = true ∧ p x = false) → (l.filter p).length < (l.filter q).length
  | [], h => by obtain ⟨x, hx, _⟩ := h; simp at hx
  | y :: l, h => by
    have hle : (l.filter p).length ≤ (l.filter q).length := by
      rw [← List.countP_eq_length_filter, ← List.countP_eq_length_filter]
      exact List.countP_mono_left fun x _ hx => hpq x hx
    by_cases hl : ∃ x ∈ l, q x = true ∧ p x = false
    · have ih := filter_lt hpq hl
      by_cases hy : p y = true
      · rw [List.filter_cons_of_pos hy, List.filter_cons_of_pos (hpq y hy)]
        exact Nat.succ_lt_succ ih
      · rw [List.filter_cons_of_neg hy, List.filter_cons]
        split
        · rw [List.length_cons]; omega
        · exact ih
    · obtain ⟨x, hx, h1, h2⟩ := h
      rcases List.mem_cons.mp hx with k | k
      · subst k
        rw [List.filter_cons_of_neg (by rw [h2]; decide), List.filter_cons_of_pos h1, List.length_cons]
        omega
      · exact absurd ⟨x, k, h1, h2⟩ hl
theorem gI_rows {β : Type} [Inhabited β] (F : Nat → β) {n i : Nat} (hi : i < n) : gI ((List.range n).map F) (i : Int) = F i := by
  apply gI_get
  rw [List.getElem?_map, List.getElem?_range hi]
  rfl
theorem idx_range {N : Nat → Int} {T : Nat} (hN : ∀ a b, a < b → b < T → N a < N b) {t : Nat} (ht : t < T) : List.idxOf (N t) ((List.range T).map N) = t := by
  have hl : t < ((List.range T).map N).length := by simpa using ht
  have hnd : ((List.range T).map N).Nodup := by
    rw [List.nodup_iff_pairwise_ne, List.pairwise_map]
    refine (List.pairwise_lt_range (n := T)).imp_of_mem fun {a b} ha hb h => ?_
    have := hN a b h (List.mem_range.mp hb)
    omega
  have e : ((List.range T).map N)[t] = N t := by simp
  have := List.Nodup.idxOf_getElem hnd t hl
  rw [e] at this
  exact this
/-- the law's moments of a good line are its layers -/
theorem moments_same {ok : List Int} {L : List (Int × Int)} {n T : Nat} {c : Nat → Int} {p g : Nat → Nat} (w : LW ok L n c p g) (y : LY ok L n T c (fun i => lay L (p i)) (fun i => lay L (g i))) : v_l_moments (v_l_windows L) = v_layers_of L := by
  rw [y.y, w.w]
  have hah := fun (i j : Nat) (hi : i < n) (hj : j < n) => w.ahead hi hj
  have yle := y.le
  have ylt := y.lt
  have yex := y.ex
  have yexg := y.exg
  generalize hf : (fun i => lay L (p i)) = f at *
  generalize he : (fun i => lay L (g i)) = e at *
  have hf' : ∀ i, lay L (p i) = f i := fun i => by rw [← hf]
  have he' : ∀ i, lay L (g i) = e i := fun i => by rw [← he]
  simp only [hf', he'] at hah yle ylt yex yexg ⊢
  generalize hrows : (List.range n).map (fun i => (c i, (p i : Int), (g i : Int))) = rows
  have hrl : rows.length = n := by rw [← hrows]; simp
  have hri : ∀ i, i < n → gI rows (i : Int) = (c i, (p i : Int), (g i : Int)) := fun i hi => by rw [← hrows, gI_rows _ hi]
  -- heads
  let Hd : Nat → List Int := fun t => (rngL 0 n).filter fun z => decide (e z.toNat < t)
  let N : Nat → Int := fun t => ((Hd t).length : Int)
  have hHd : ∀ j, j < n → ((rngL 0 n).filter (fun (z130 : Int) => decide (((gI rows z130).2.2) < ((gI rows (j : Int)).2.1)))).map (fun (z130 : Int) => z130) = Hd (f j) := by
    intro j hj
    rw [List.map_id']
    refine List.filter_congr fun z hz => ?_
    obtain ⟨h0, h1⟩ := rngL_mem.mp hz
    obtain ⟨i, rfl⟩ := Int.eq_ofNat_of_zero_le h0
    have hi : i < n := by omega
    rw [hri i hi, hri j hj, Int.toNat_natCast]
    have := hah i j hi hj
    simp only [decide_eq_decide]
    omega
  have hN : ∀ a b, a < b → b < T → N a < N b := by
    intro a b hab hb
    obtain ⟨k, hk, ek⟩ := yexg a (by omega)
    have := filter_lt (p := fun z : Int => decide (e z.toNat < a)) (q := fun z : Int => decide (e z.toNat < b)) (fun x hx => by simp only [decide_eq_true_eq] at hx ⊢; omega) (l := rngL 0 n) ⟨(k : Int), rngL_mem.mpr (by omega), by simp only [Int.toNat_natCast, decide_eq_true_eq]; omega, by simp only [Int.toNat_natCast, decide_eq_false_iff_not]; omega⟩
    exact Int.ofNat_lt.mpr this
  have hNi : ∀ a b, a < T → b < T → N a = N b → a = b := by
    intro a b ha hb h
    rcases Nat.lt_trichotomy a b with k | k | k
    · have := hN a b k hb; omega
    · exact k
    · have := hN b a k ha; omega
  have hheads : (rngL 0 n).map (fun (z129 : Int) => ((rngL 0 n).filter (fun (z130 : Int) => decide (((gI rows z130).2.2) < ((gI rows z129).2.1)))).map (fun (z130 : Int) => z130)) = (List.range n).map fun j => Hd (f j) := by
    show ((List.range n).map fun (i : Nat) => (0 : Int) + (i : Int)).map _ = _
    rw [List.map_map]
    refine List.map_congr_left fun j hj => ?_
    simp only [Function.comp, Int.zero_add]
    exact hHd j (List.mem_range.mp hj)
  have hsizes : setI (((List.range n).map fun j => Hd (f j)).map (fun (z107 : List Int) => (z107.length : Int))) = (List.range T).map N := by
    symm
    refine setI_uniq ?_ fun k => ?_
    · rw [List.pairwise_map]
      exact (List.pairwise_lt_range (n := T)).imp_of_mem fun {a b} ha hb h => hN a b h (List.mem_range.mp hb)
    · rw [List.map_map, List.mem_map, List.mem_map]
      constructor
      · rintro ⟨t, ht, rfl⟩
        obtain ⟨i, hi, ei⟩ := yex t (List.mem_range.mp ht)
        exact ⟨i, List.mem_range.mpr hi, by rw [← ei]; rfl⟩
      · rintro ⟨i, hi, rfl⟩
        have hi := List.mem_range.mp hi
        exact ⟨f i, List.mem_range.mpr (by have := yle i hi; have := ylt i hi; omega), rfl⟩
  have hend : ∀ i, i < n → ((((((List.range T).map N).filter (fun (z110 : Int) => !(((((List.range n).map fun j => Hd (f j)).filter (fun (z111 : List Int) => decide ((z111.length : Int) = z110))).map (fun (z111 : List Int) => decide ((i : Int) ∈ z111))).any id))).map (fun (z110 : Int) => z110)).length : Int) - (1 : Int)) = (e i : Int) := by
    intro i hi
    have hel := ylt i hi
    rw [List.map_id', List.filter_map, List.length_map]
    have : (List.range T).filter ((fun (z110 : Int) => !(((((List.range n).map fun j => Hd (f j)).filter (fun (z111 : List Int) => decide ((z111.length : Int) = z110))).map (fun (z111 : List Int) => decide ((i : Int) ∈ z111))).any id)) ∘ N) = (List.range T).filter fun t => decide (t < e i + 1) := by
      refine List.filter_congr fun t ht => ?_
      have ht := List.mem_range.mp ht
      simp only [Function.comp, List.any_map, List.any_filter, List.any_map]
      rw [Bool.eq_iff_iff, Bool.not_eq_true', ← Bool.not_eq_true, List.any_eq_true, decide_eq_true_eq]
      simp only [Function.comp, id, Bool.and_eq_true, decide_eq_true_eq]
      constructor
      · intro h
        rcases Nat.lt_or_ge t (e i + 1) with k | k
        · exact k
        · obtain ⟨j, hj, ej⟩ := yex t ht
          refine absurd ⟨j, List.mem_range.mpr hj, ?_, ?_⟩ h
          · rw [ej]
          · show (i : Int) ∈ (rngL 0 n).filter _
            rw [List.mem_filter, decide_eq_true_eq, Int.toNat_natCast]
            exact ⟨rngL_mem.mpr (by omega), by omega⟩
      · rintro h ⟨j, hj, h1, h2⟩
        have hj := List.mem_range.mp hj
        have hfj : f j = t := hNi _ _ (by have := yle j hj; have := ylt j hj; omega) ht h1
        have h2 : (i : Int) ∈ (rngL 0 n).filter (fun z => decide (e z.toNat < f j)) := h2
        rw [List.mem_filter, decide_eq_true_eq, Int.toNat_natCast] at h2
        omega
    rw [this]
    have hlen : ∀ (m k : Nat), k ≤ m → ((List.range m).filter fun t => decide (t < k)).length = k := by
      intro m
      induction m with
      | zero => intro k hk; simp; omega
      | succ m ih =>
        intro k hk
        rw [List.range_succ, List.filter_append, List.length_append]
        rcases Nat.lt_or_ge m k with q | q
        · have hk2 : k = m + 1 := by omega
          subst hk2
          have e1 : (List.range m).filter (fun t => decide (t < m + 1)) = (List.range m).filter (fun t => decide (t < m)) := by
            refine List.filter_congr fun t ht => ?_
            have := List.mem_range.mp ht
            simp only [decide_eq_decide]
            omega
          rw [e1, ih m (Nat.le_refl _)]
          simp
        · rw [ih k q, List.filter_cons_of_neg (by simp; omega)]
          rfl
    rw [hlen T (e i + 1) (by omega)]
    omega
  unfold v_l_moments l_moments_1 l_moments_2 l_moments_3 v_l_moments_by l_moments_by_1 l_moments_by_2 l_moments_by_3 l_moments_by_4 l_moments_by_6 l_moments_by_5
  rw [hrl, show ((n : Int)).toNat = n by omega, hheads]
  simp only [List.length_map, hrl]
  rw [show ((n : Int)).toNat = n by omega, hsizes, foldl_snoc, List.nil_append]
  show ((List.range n).map fun (i : Nat) => (0 : Int) + (i : Int)).map _ = _
  rw [List.map_map]
  refine List.map_congr_left fun j hj => ?_
  have hj := List.mem_range.mp hj
  simp only [Function.comp, Int.zero_add]
  have e1 : gI (rows.map fun (z137 : Int × Int × Int) => z137.1) (j : Int) = c j := by
    rw [← hrows, List.map_map]
    exact gI_rows (fun i => c i) hj
  have e2 : gI ((List.range n).map fun j => Hd (f j)) (j : Int) = Hd (f j) := gI_rows _ hj
  rw [e1, e2, show (((Hd (f j)).length : Nat) : Int) = N (f j) from rfl, idx_range hN (by have := yle j hj; have := ylt j hj; omega)]
  congr 2
  have e3 : rngL 0 n = (List.range n).map fun (i : Nat) => (i : Int) := by
    unfold rngL
    simp
  rw [e3, List.map_map, gI_rows _ hj]
  have := hend j hj
  rw [List.map_id'] at this
  exact this
end My
set_option Elab.async false
set_option linter.all false
set_option maxRecDepth 100000
namespace My
open PySem PySem.Spec PyProof.Rows L2 Ab
/-- the windows that are open at a moment -/
def al (n : Nat) (f e : Nat → Nat) (t : Nat) : List Int := (rngL 0 n).filter fun z => decide ((f z.toNat : Int) ≤ (t : Int)) && decide ((t : Int) ≤ (e z.toNat : Int))
def op (n : Nat) (c : Nat → Int) (f e : Nat → Nat) (t : Nat) : List (Int × Int) := (al n f e t).map fun z => (c z.toNat, z)
theorem mem_al {n : Nat} {f e : Nat → Nat} {t : Nat} {z : Int} : z ∈ al n f e t ↔ ∃ i : Nat, i < n ∧ z = (i : Int) ∧ f i ≤ t ∧ t ≤ e i := by
  unfold al
  rw [List.mem_filter, rngL_mem, Bool.and_eq_true, decide_eq_true_eq, decide_eq_true_eq]
  constructor
  · rintro ⟨⟨h0, h1⟩, h2, h3⟩
    exact ⟨z.toNat, by omega, by omega, by omega, by omega⟩
  · rintro ⟨i, hi, rfl, h2, h3⟩
    simp only [Int.toNat_natCast]
    omega
theorem rngL_pw (lo : Int) (n : Nat) : (rngL lo n).Pairwise (· < ·) := by
  unfold rngL
  rw [List.pairwise_map]
  exact (List.pairwise_lt_range (n := n)).imp fun h => by omega
theorem al_pw (n : Nat) (f e : Nat → Nat) (t : Nat) : (al n f e t).Pairwise (· < ·) := List.Pairwise.filter _ (rngL_pw 0 n)
theorem al_keys {ok : List Int} {L : List (Int × Int)} {n T : Nat} {c : Nat → Int} {f e : Nat → Nat} (y : LY ok L n T c f e) (t : Nat) : (al n f e t).Pairwise fun a b => c a.toNat ≠ c b.toNat := by
  refine (al_pw n f e t).imp_of_mem fun {a b} ha hb h => ?_
  obtain ⟨i, hi, rfl, h1, h2⟩ := mem_al.mp ha
  obtain ⟨j, hj, rfl, h3, h4⟩ := mem_al.mp hb
  simp only [Int.toNat_natCast]
  intro hc
  have := y.same i j (by omega) hj hc
  omega
theorem dput_new {α : Type} {d : List (Int × α)} {k : Int} {u : α} (h : ∀ p ∈ d, p.1 ≠ k) : dput d k u = d ++ [(k, u)] := by
  unfold dput
  rw [if_neg]
  intro q
  obtain ⟨p, hp, e⟩ := List.any_eq_true.mp q
  exact h p hp (by simpa using e)
theorem dfold_new {kf : Int → Int} : ∀ (xs : List Int) (d : List (Int × Int)), xs.Pairwise (fun a b => kf a ≠ kf b) → (∀ p ∈ d, ∀ x ∈ xs, p.1 ≠ kf x) → xs.foldl (fun d x => dput d (kf x) x) d = d ++ xs.map fun x => (kf x, x)
  | [], d, _, _ => by simp
  | x :: xs, d, h1, h2 => by
    rw [List.foldl_cons, dput_new fun p hp => h2 p hp x List.mem_cons_self]
    rw [List.pairwise_cons] at h1
    rw [dfold_new xs _ h1.2]
    · simp
    · intro p hp z hz
      rcases List.mem_append.mp hp with q | q
      · exact h2 p q z (List.mem_cons_of_mem _ hz)
      · rw [List.mem_singleton.mp q]
        exact h1.1 z hz
theorem foldl_cond {α σ : Type} {p : α → Bool} {g : σ → α → σ} : ∀ (xs : List α) (s : σ), xs.foldl (fun v x => cond (p x) (g v x) v) s = (xs.filter p).foldl g s
  | [], _ => rfl
  | x :: xs, s => by
    rw [List.foldl_cons, foldl_cond xs]
    cases h : p x with
    | true => rw [List.filter_cons_of_pos h, List.foldl_cons]; rfl
    | false => rw [List.filter_cons_of_neg (by rw [h]; decide)]; rfl
theorem foldl_congr {α σ : Type} {g g2 : σ → α → σ} : ∀ (xs : List α) (s : σ), (∀ v, ∀ x ∈ xs, g v x = g2 v x) → xs.foldl g s = xs.foldl g2 s
  | [], _, _ => rfl
  | x :: xs, s, h => by
    rw [List.foldl_cons, List.foldl_cons, h s x List.mem_cons_self]
    exact foldl_congr xs _ fun v z hz => h v z (List.mem_cons_of_mem _ hz)
theorem rngL_map {β : Type} (F : Int → β) (n : Nat) : (rngL 0 n).map F = (List.range n).map fun (i : Nat) => F (i : Int) := by
  unfold rngL
  rw [List.map_map]
  refine List.map_congr_left fun i _ => ?_
  simp
theorem op_len {n : Nat} {c : Nat → Int} {f e : Nat → Nat} {t : Nat} : (op n c f e t).length ≤ n := by
  unfold op al
  rw [List.length_map]
  exact Nat.le_trans (List.length_filter_le _ _) (by rw [rngL_len]; exact Nat.le_refl _)
theorem open_at_eq {ok : List Int} {L : List (Int × Int)} {n T : Nat} {c : Nat → Int} {f e : Nat → Nat} (y : LY ok L n T c f e) : v_open_at L = (List.range T).map (op n c f e) := by
  unfold v_open_at open_at_1 open_at_2 open_at_3 open_at_4 open_at_5
  simp only
  rw [foldl_snoc, List.nil_append, y.many, y.y, show ((T : Int)).toNat = T by omega, rngL_map]
  refine List.map_congr_left fun t _ => ?_
  rw [List.length_map, List.length_range, show ((n : Int)).toNat = n by omega]
  have hri : ∀ i, i < n → gI ((List.range n).map fun i => (c i, (f i : Int), (e i : Int))) (i : Int) = (c i, (f i : Int), (e i : Int)) := fun i hi => gI_rows _ hi
  generalize (List.range n).map (fun i => (c i, (f i : Int), (e i : Int))) = rows at hri
  unfold dcV
  have e1 : (rngL 0 n).filter (fun (z212 : Int) => decide (((gI rows z212).2.1) ≤ (t : Int)) && decide ((t : Int) ≤ ((gI rows z212).2.2))) = al n f e t := by
    refine List.filter_congr fun z hz => ?_
    obtain ⟨h0, h1⟩ := rngL_mem.mp hz
    obtain ⟨i, rfl⟩ := Int.eq_ofNat_of_zero_le h0
    rw [hri i (by omega)]
    rfl
  rw [e1, foldl_congr (g2 := fun d x => dput d ((fun z : Int => c z.toNat) x) x) _ _ (fun v x hx => ?_)]
  · rw [dfold_new _ _ (al_keys y t) (by simp)]
    rfl
  · obtain ⟨i, hi, rfl, _⟩ := mem_al.mp hx
    show dput v (gI rows (i : Int)).1 (i : Int) = _
    rw [hri i hi]
    rfl
theorem maxL_eq {T : Nat} {xs : List Int} (h1 : ∀ x ∈ xs, x ≤ (T : Int)) (h2 : T = 0 ∨ (T : Int) ∈ xs) : maxL ([(0 : Int)] ++ xs) = (T : Int) := by
  show xs.foldl max 0 = _
  obtain ⟨k1, k2⟩ := foldl_max xs 0
  rcases List.mem_cons.mp k1 with k | k
  · rcases h2 with h | h
    · rw [k, h]; rfl
    · have := k2 _ (List.mem_cons_of_mem _ h)
      omega
  · have q1 := h1 _ k
    rcases h2 with h | h
    · have := k2 0 List.mem_cons_self
      omega
    · have := k2 _ (List.mem_cons_of_mem _ h)
      omega
theorem l_open_eq {ok : List Int} {L : List (Int × Int)} {n T : Nat} {c : Nat → Int} {f e : Nat → Nat} (y : LY ok L n T c f e) : v_l_open (v_layers_of L) = (List.range T).map (op n c f e) := by
  rw [y.y]
  have hri : ∀ i, i < n → gI ((List.range n).map fun i => (c i, (f i : Int), (e i : Int))) (i : Int) = (c i, (f i : Int), (e i : Int)) := fun i hi => gI_rows _ hi
  have hmx : maxL ([(0 : Int)] ++ (((List.range n).map fun i => (c i, (f i : Int), (e i : Int))).map (fun (z142 : Int × Int × Int) => z142.2.2 + (1 : Int)))) = (T : Int) := by
    refine maxL_eq ?_ ?_
    · intro x hx
      rw [List.map_map, List.mem_map] at hx
      obtain ⟨i, hi, rfl⟩ := hx
      have := y.lt i (List.mem_range.mp hi)
      simp only [Function.comp]
      omega
    · rcases Nat.eq_zero_or_pos T with h | h
      · exact .inl h
      · obtain ⟨i, hi, ei⟩ := y.ex (T - 1) (by omega)
        have h1 := y.le i hi
        have h2 := y.lt i hi
        refine .inr ?_
        rw [List.map_map, List.mem_map]
        exact ⟨i, List.mem_range.mpr hi, by simp only [Function.comp]; omega⟩
  have hrl : ((List.range n).map fun i => (c i, (f i : Int), (e i : Int))).length = n := by simp
  generalize (List.range n).map (fun i => (c i, (f i : Int), (e i : Int))) = rows at hri hmx hrl
  unfold v_l_open l_open_1 l_open_2 l_open_3 l_open_4 l_open_5 l_open_6 l_open_7 l_open_8 l_open_9
  simp only
  rw [hmx, show ((T : Int)).toNat = T by omega, foldl_snoc, List.nil_append, rngL_map]
  refine List.map_congr_left fun t _ => ?_
  rw [hrl, show ((n : Int)).toNat = n by omega, foldl_cond]
  have e1 : (rngL 0 n).filter (fun (z212 : Int) => decide (((gI rows z212).2.1) ≤ (t : Int)) && decide ((t : Int) ≤ ((gI rows z212).2.2))) = al n f e t := by
    refine List.filter_congr fun z hz => ?_
    obtain ⟨h0, h1⟩ := rngL_mem.mp hz
    obtain ⟨i, rfl⟩ := Int.eq_ofNat_of_zero_le h0
    rw [hri i (by omega)]
    rfl
  rw [e1, foldl_congr (g2 := fun d x => dput d ((fun z : Int => c z.toNat) x) x) _ _ (fun v x hx => ?_)]
  · rw [dfold_new _ _ (al_keys y t) (by simp)]
    rfl
  · obtain ⟨i, hi, rfl, _⟩ := mem_al.mp hx
    show dput v (gI rows (i : Int)).1 (i : Int) = _
    rw [hri i hi]
    rfl
theorem sortI_uniq {xs ys : List Int} (hp : xs.Perm ys) (h : ys.Pairwise (· < ·)) : sortI xs = ys :=
  sort_uniq ((sortI_perm xs).trans hp) (sortI_sorted xs) (h.imp fun h => by omega)
theorem sort_al {n : Nat} {c : Nat → Int} {f e : Nat → Nat} {t : Nat} : sortI ((op n c f e t).map (fun (z : Int × Int) => z.2)) = al n f e t := by
  refine sortI_uniq ?_ (al_pw n f e t)
  unfold op
  rw [List.map_map]
  show (List.map id _).Perm _
  rw [List.map_id]
theorem dget_map {kf : Int → Int} : ∀ (xs : List Int), xs.Pairwise (fun a b => kf a ≠ kf b) → ∀ x ∈ xs, dgetO (xs.map fun x => (kf x, x)) (kf x) = some x
  | y :: xs, h, x, hx => by
    rw [List.pairwise_cons] at h
    unfold dgetO
    rw [List.map_cons]
    by_cases k : kf y = kf x
    · rw [List.find?_cons_of_pos (by simpa using k)]
      rcases List.mem_cons.mp hx with q | q
      · rw [q]; rfl
      · exact absurd k (h.1 x q)
    · rw [List.find?_cons_of_neg (by simpa using k)]
      rcases List.mem_cons.mp hx with q | q
      · exact absurd (by rw [q]) k
      · exact dget_map xs h.2 x q
theorem law_alive {ok : List Int} {L : List (Int × Int)} {n T : Nat} {c : Nat → Int} {f e : Nat → Nat} (y : LY ok L n T c f e) (t : Nat) :
    sortI ((sortI ((op n c f e t).map (fun (z : Int × Int) => z.1))).map (fun (z303 : Int) => (dgetO (op n c f e t) z303).getD default)) = al n f e t ∧
    ∀ z303 ∈ sortI ((op n c f e t).map (fun (z : Int × Int) => z.1)), (dgetO (op n c f e t) z303).isSome = true := by
  have hk := al_keys y t
  have hg := dget_map (kf := fun z : Int => c z.toNat) _ hk
  have e1 : (op n c f e t).map (fun (z : Int × Int) => z.1) = (al n f e t).map fun z => c z.toNat := by
    unfold op
    rw [List.map_map]
    rfl
  have hg : ∀ x ∈ al n f e t, dgetO (op n c f e t) (c x.toNat) = some x := hg
  constructor
  · refine sortI_uniq ?_ (al_pw n f e t)
    have hp := (sortI_perm ((op n c f e t).map (fun (z : Int × Int) => z.1))).map (fun (z303 : Int) => (dgetO (op n c f e t) z303).getD default)
    refine hp.trans ?_
    rw [e1, List.map_map]
    have : (al n f e t).map ((fun (z303 : Int) => (dgetO (op n c f e t) z303).getD default) ∘ fun z => c z.toNat) = (al n f e t).map id := by
      refine List.map_congr_left fun x hx => ?_
      simp only [Function.comp, hg x hx]
      rfl
    rw [this, List.map_id]
  · intro z hz
    rw [(sortI_perm _).mem_iff, e1, List.mem_map] at hz
    obtain ⟨x, hx, rfl⟩ := hz
    rw [hg x hx]
    rfl
theorem alive_eq {ok : List Int} {L : List (Int × Int)} {n T : Nat} {c : Nat → Int} {f e : Nat → Nat} (y : LY ok L n T c f e) {t : Nat} (ht : t < T) : v_alive_at L (t : Int) = al n f e t := by
  unfold v_alive_at alive_at_1 alive_at_2
  rw [open_at_eq y, gI_rows _ ht]
  exact sort_al
theorem alive_P {ok : List Int} {most : Int} {L : List (Int × Int)} (h : IsLine ok most L) (hm : most ≤ 100) {n T : Nat} {c : Nat → Int} {f e : Nat → Nat} (y : LY ok L n T c f e) (hn : n < 64) {t : Nat} (ht : t < T) : P_alive_at L (t : Int) := by
  have hM := many_layers_P h (by omega)
  have ho := open_at_P h hm
  refine ⟨⟨hM, fun k => ?_⟩, ho.1, ?_, ?_⟩
  · have := of_decide_eq_true k
    rw [y.many] at this
    omega
  · rw [open_at_eq y]
    exact inR_lt (by omega) (by simp; omega)
  · rw [open_at_eq y, gI_rows _ ht]
    exact Nat.lt_of_le_of_lt op_len hn
end My
set_option Elab.async false
set_option linter.all false
set_option maxRecDepth 100000
namespace My
open PySem PySem.Spec PyProof.Rows L2 Ab
theorem idxOf_first {v : Int} : ∀ (xs : List Int) (k : Nat), xs[k]? = some v → (∀ j, j < k → xs[j]? ≠ some v) → List.idxOf v xs = k
  | [], k, h, _ => by simp at h
  | x :: xs, 0, h, _ => by
    simp at h
    rw [h, List.idxOf_cons_self]
  | x :: xs, k + 1, h, hn => by
    have hx : x ≠ v := by
      have := hn 0 (by omega)
      simpa using this
    rw [List.idxOf_cons]
    have : (x == v) = false := by simpa using hx
    rw [this]
    simp only [cond_false]
    rw [idxOf_first xs k (by simpa using h) fun j hj => by have := hn (j + 1) (by omega); simpa using this]
/-- the first of the least -/
theorem minP_first (F : Nat → Int) : ∀ (T : Nat), 0 < T → ∃ k, k < T ∧ minP ((List.range T).map fun t => (F t, (t : Int))) = (F k, (k : Int)) ∧ (∀ j, j < T → F k ≤ F j) ∧ ∀ j, j < k → F k < F j
  | 1, _ => ⟨0, by omega, rfl, fun j hj => by rw [show j = 0 by omega]; exact Int.le_refl _, fun j hj => by omega⟩
  | T + 2, _ => by
    obtain ⟨k, hk, e, h1, h2⟩ := minP_first F (T + 1) (by omega)
    rw [List.range_succ, List.map_append]
    have hne : (List.range (T + 1)).map (fun t => (F t, (t : Int))) ≠ [] := by simp
    generalize (List.range (T + 1)).map (fun t => (F t, (t : Int))) = ps at e hne
    have e2 : minP (ps ++ [(F (T + 1), ((T + 1 : Nat) : Int))]) = if PySem.W.DatumOrd.lt ((F (T + 1), ((T + 1 : Nat) : Int)) : Int × Int) (minP ps) = true then (F (T + 1), ((T + 1 : Nat) : Int)) else minP ps := by
      cases ps with
      | nil => exact absurd rfl hne
      | cons x xs =>
        show PySem.W.minOf x (xs ++ [_]) = _
        unfold PySem.W.minOf
        rw [List.foldl_append]
        rfl
    show ∃ k, k < T + 2 ∧ minP (ps ++ [(F (T + 1), ((T + 1 : Nat) : Int))]) = _ ∧ _
    have e3 : PySem.W.DatumOrd.lt ((F (T + 1), ((T + 1 : Nat) : Int)) : Int × Int) (F k, (k : Int)) = decide (F (T + 1) < F k) := by
      show (if F (T + 1) = F k then decide (((T + 1 : Nat) : Int) < (k : Int)) else decide (F (T + 1) < F k)) = _
      split
      · next q =>
        rw [q]
        simp only [Int.lt_irrefl, decide_false, decide_eq_false_iff_not]
        omega
      · rfl
    rw [e2, e, e3]
    by_cases q : F (T + 1) < F k
    · rw [if_pos (by simpa using q)]
      refine ⟨T + 1, by omega, rfl, fun j hj => ?_, fun j hj => ?_⟩
      · rcases Nat.lt_or_ge j (T + 1) with r | r
        · have := h1 j r; omega
        · rw [show j = T + 1 by omega]; exact Int.le_refl _
      · have := h1 j (by omega); omega
    · rw [if_neg (by simpa using q)]
      refine ⟨k, by omega, rfl, fun j hj => ?_, h2⟩
      rcases Nat.lt_or_ge j (T + 1) with r | r
      · exact h1 j r
      · rw [show j = T + 1 by omega]; omega
theorem fewest_eq (F : Nat → Int) (T : Nat) (cheap : List Int) (h1 : ∀ t, t < T → F t ∈ cheap) (h2 : ∀ x ∈ cheap, ∃ t, t < T ∧ F t ≤ x) (hT : 0 < T) :
    cheap ≠ [] ∧ minL cheap ∈ (List.range T).map F ∧ minP ((List.range T).map fun t => (F t, (t : Int))) = (minL cheap, (List.idxOf (minL cheap) ((List.range T).map F) : Int)) := by
  obtain ⟨k, hk, e, q1, q2⟩ := minP_first F T hT
  have hne : cheap ≠ [] := fun h => by
    have := h1 0 hT
    rw [h] at this
    simp at this
  obtain ⟨m1, m2⟩ := minL_spec hne
  have hm : minL cheap = F k := by
    have a := m2 _ (h1 k hk)
    obtain ⟨t, ht, b⟩ := h2 _ m1
    have := q1 t ht
    omega
  refine ⟨hne, ?_, ?_⟩
  · rw [hm]
    exact List.mem_map.mpr ⟨k, List.mem_range.mpr hk, rfl⟩
  · rw [e, hm]
    congr 1
    rw [idxOf_first _ k]
    · rw [List.getElem?_map, List.getElem?_range hk]
      rfl
    · intro j hj h
      rw [List.getElem?_map, List.getElem?_range (by omega)] at h
      simp only [Option.map_some, Option.some.injEq] at h
      have := q2 j hj
      omega
/-! ### what must be moved -/
def mv (n : Nat) (f e : Nat → Nat) (t : Nat) : List Int := (rngL 0 n).filter fun z => !decide (z ∈ al n f e t)
def pr (prices : List Int) (c : Nat → Int) (ws : List Int) : Int := (ws.map fun z => gI prices (c z.toNat)).sum
theorem mem_mv {n : Nat} {f e : Nat → Nat} {t : Nat} {z : Int} : z ∈ mv n f e t ↔ ∃ i : Nat, i < n ∧ z = (i : Int) ∧ (t < f i ∨ e i < t) := by
  unfold mv
  rw [List.mem_filter, rngL_mem, Bool.not_eq_true', decide_eq_false_iff_not, mem_al]
  constructor
  · rintro ⟨⟨h0, h1⟩, h2⟩
    refine ⟨z.toNat, by omega, by omega, ?_⟩
    rcases Nat.lt_or_ge t (f z.toNat) with k | k
    · exact .inl k
    · rcases Nat.lt_or_ge (e z.toNat) t with q | q
      · exact .inr q
      · exact absurd ⟨z.toNat, by omega, by omega, k, q⟩ h2
  · rintro ⟨i, hi, rfl, h⟩
    refine ⟨by omega, ?_⟩
    rintro ⟨j, hj, e1, h1, h2⟩
    have : i = j := by omega
    subst this
    omega
theorem filter_gI (p : Int × Int → Bool) (L : List (Int × Int)) : L.filter p = ((List.range L.length).filter fun (i : Nat) => p (gI L (i : Int))).map fun (i : Nat) => gI L (i : Int) := by
  have e : L = (List.range L.length).map fun (i : Nat) => gI L (i : Int) := by
    apply List.ext_getElem
    · simp
    · intro i h1 h2
      rw [List.getElem_map, List.getElem_range, gI_at (by omega) (by omega)]
      rfl
  conv => lhs; rw [e, List.filter_map]
  rfl
theorem locks_eq {ok : List Int} {L : List (Int × Int)} {n : Nat} {c : Nat → Int} {p g : Nat → Nat} (w : LW ok L n c p g) : v_locks_of L = (List.range n).map c := by
  have h := w.w
  rw [v_windows_eq] at h
  have h := congrArg (List.map fun r : Int × Int × Int => r.1) h
  rw [List.map_map, List.map_map] at h
  unfold v_locks_of locks_of_1
  rw [filter_gI, List.map_map]
  exact h
theorem moved_eq {ok : List Int} {L : List (Int × Int)} {n T : Nat} {c : Nat → Int} {p g f e : Nat → Nat} (w : LW ok L n c p g) (y : LY ok L n T c f e) {t : Nat} (ht : t < T) : v_moved_for L (t : Int) = mv n f e t := by
  unfold v_moved_for moved_for_1 moved_for_2
  rw [alive_eq y ht, locks_eq w, List.length_map, List.length_range, show ((n : Int)).toNat = n by omega, List.map_id']
  rfl
theorem moved_P {ok : List Int} {most : Int} {L : List (Int × Int)} (h : IsLine ok most L) (hm : most ≤ 100) {n T : Nat} {c : Nat → Int} {p g f e : Nat → Nat} (w : LW ok L n c p g) (y : LY ok L n T c f e) (hn : n < 64) {t : Nat} (ht : t < T) : P_moved_for L (t : Int) := by
  refine ⟨alive_P h hm y hn ht, locks_of_P h (by omega), ?_, ?_⟩
  · rw [locks_eq w, List.length_map, List.length_range]
    exact rgOk_small (by omega) (by omega)
  · rw [rngL_len, locks_eq w, List.length_map, List.length_range]
    omega
theorem sum_congr {F G : Int → Int} : ∀ {xs : List Int}, (∀ x ∈ xs, F x = G x) → (xs.map F).sum = (xs.map G).sum := fun h => by
  rw [List.map_congr_left h]
theorem price_eq {ok : List Int} {L : List (Int × Int)} {n T : Nat} {c : Nat → Int} {p g f e : Nat → Nat} (w : LW ok L n c p g) (y : LY ok L n T c f e) (prices : List Int) {t : Nat} (ht : t < T) : v_price_for L (t : Int) prices = pr prices c (mv n f e t) := by
  unfold v_price_for price_for_1 price_for_2
  rw [moved_eq w y ht, locks_eq w]
  refine sum_congr fun z hz => ?_
  obtain ⟨i, hi, rfl, _⟩ := mem_mv.mp hz
  rw [gI_rows _ hi]
  rfl
theorem mv_len {n : Nat} {f e : Nat → Nat} {t : Nat} : (mv n f e t).length ≤ n := by
  unfold mv
  exact Nat.le_trans (List.length_filter_le _ _) (by rw [rngL_len]; exact Nat.le_refl _)
theorem al_len {n : Nat} {f e : Nat → Nat} {t : Nat} : (al n f e t).length ≤ n := by
  unfold al
  exact Nat.le_trans (List.length_filter_le _ _) (by rw [rngL_len]; exact Nat.le_refl _)
theorem price_P {ok : List Int} {most : Int} {L : List (Int × Int)} (h : IsLine ok most L) (hm : most ≤ 100) {n T : Nat} {c : Nat → Int} {p g f e : Nat → Nat} (w : LW ok L n c p g) (y : LY ok L n T c f e) (hn : n < 64) {prices : List Int} (hp : ∀ x ∈ ok, InR x prices.length) {t : Nat} (ht : t < T) : P_price_for L (t : Int) prices := by
  refine ⟨locks_of_P h (by omega), moved_P h hm w y hn ht, ?_, ?_⟩
  · intro z hz
    rw [moved_eq w y ht] at hz
    obtain ⟨i, hi, rfl, _⟩ := mem_mv.mp hz
    rw [locks_eq w, gI_rows _ hi]
    exact ⟨inR_lt (by omega) (by simp; omega), hp _ (w.mem i hi)⟩
  · rw [moved_eq w y ht]
    have := mv_len (n := n) (f := f) (e := e) (t := t)
    omega
/-! ### enough -/
theorem enough_iff {ok : List Int} {most : Int} {L : List (Int × Int)} (h : IsLine ok most L) (hm : most ≤ 1000) {n : Nat} {c : Nat → Int} {p g : Nat → Nat} (w : LW ok L n c p g) (ws : List Int) :
    v_is_enough_moved L ws = true ↔ ∀ i j : Nat, i < n → j < n → g i < p j → (i : Int) ∈ ws ∨ (j : Int) ∈ ws := by
  unfold v_is_enough_moved is_enough_moved_1 v_before_of before_of_1 before_of_2
  rw [windows_same h hm, w.w, List.length_map, List.length_range, show ((n : Int)).toNat = n by omega]
  have hri : ∀ i, i < n → gI ((List.range n).map fun i => (c i, (p i : Int), (g i : Int))) (i : Int) = (c i, (p i : Int), (g i : Int)) := fun i hi => gI_rows _ hi
  generalize (List.range n).map (fun i => (c i, (p i : Int), (g i : Int))) = rows at hri
  rw [List.all_map, List.all_eq_true]
  constructor
  · intro k i j hi hj hij
    have := k ((i : Int), (j : Int)) (by
      rw [List.mem_flatMap]
      refine ⟨(i : Int), by rw [List.mem_filter]; exact ⟨rngL_mem.mpr (by omega), rfl⟩, ?_⟩
      rw [List.mem_map]
      refine ⟨(j : Int), ?_, rfl⟩
      rw [List.mem_filter, decide_eq_true_eq, hri i hi, hri j hj]
      exact ⟨rngL_mem.mpr (by omega), by simp only; omega⟩)
    simpa using this
  · rintro k ⟨a, b⟩ hab
    rw [List.mem_flatMap] at hab
    obtain ⟨a', ha, hb⟩ := hab
    rw [List.mem_map] at hb
    obtain ⟨b', hb, e⟩ := hb
    cases e
    rw [List.mem_filter, decide_eq_true_eq] at hb
    rw [List.mem_filter] at ha
    obtain ⟨ha0, ha1⟩ := rngL_mem.mp ha.1
    obtain ⟨hb0, hb1⟩ := rngL_mem.mp hb.1
    obtain ⟨i, rfl⟩ := Int.eq_ofNat_of_zero_le ha0
    obtain ⟨j, rfl⟩ := Int.eq_ofNat_of_zero_le hb0
    have hb := hb.2
    rw [hri i (by omega), hri j (by omega)] at hb
    simp only at hb
    have := k i j (by omega) (by omega) (by omega)
    simpa using this
end My
set_option Elab.async false
set_option linter.all false
set_option maxRecDepth 100000
namespace My
open PySem PySem.Spec PyProof.Rows L2 Ab
/-- what is left beside a lot -/
def lf (n : Nat) (lot : List Int) : List Int := (rngL 0 n).filter fun z => !decide (z ∈ lot)
theorem mem_lf {n : Nat} {lot : List Int} {z : Int} : z ∈ lf n lot ↔ ∃ i : Nat, i < n ∧ z = (i : Int) ∧ z ∉ lot := by
  unfold lf
  rw [List.mem_filter, rngL_mem, Bool.not_eq_true', decide_eq_false_iff_not]
  constructor
  · rintro ⟨⟨h0, h1⟩, h2⟩
    exact ⟨z.toNat, by omega, by omega, h2⟩
  · rintro ⟨i, hi, rfl, h⟩
    exact ⟨by omega, h⟩
theorem lf_len {n : Nat} {lot : List Int} : (lf n lot).length ≤ n := by
  unfold lf
  exact Nat.le_trans (List.length_filter_le _ _) (by rw [rngL_len]; exact Nat.le_refl _)
theorem lw_gI {ok : List Int} {L : List (Int × Int)} {n : Nat} {c : Nat → Int} {p g : Nat → Nat} (w : LW ok L n c p g) {i : Nat} (hi : i < n) : gI (v_l_windows L) (i : Int) = (c i, (p i : Int), (g i : Int)) := by
  rw [w.w]
  exact gI_rows _ hi
theorem lw_len {ok : List Int} {L : List (Int × Int)} {n : Nat} {c : Nat → Int} {p g : Nat → Nat} (w : LW ok L n c p g) : (v_l_windows L).length = n := by
  rw [w.w]
  simp
theorem meet_lot {ok : List Int} {L : List (Int × Int)} {n : Nat} {c : Nat → Int} {p g : Nat → Nat} (w : LW ok L n c p g) (lot : List Int) :
    v_l_meet (v_l_windows L) (lf n lot) = true ↔ ∀ i j : Nat, i < n → j < n → g i < p j → (i : Int) ∈ lot ∨ (j : Int) ∈ lot := by
  rw [meet_iff]
  constructor
  · intro h i j hi hj hij
    by_cases h1 : (i : Int) ∈ lot
    · exact .inl h1
    · by_cases h2 : (j : Int) ∈ lot
      · exact .inr h2
      · have := h _ (mem_lf.mpr ⟨i, hi, rfl, h1⟩) _ (mem_lf.mpr ⟨j, hj, rfl, h2⟩)
        rw [lw_gI w hi, lw_gI w hj] at this
        simp only at this
        omega
  · intro h x hx z hz
    obtain ⟨i, hi, rfl, h1⟩ := mem_lf.mp hx
    obtain ⟨j, hj, rfl, h2⟩ := mem_lf.mp hz
    rw [lw_gI w hi, lw_gI w hj]
    simp only
    intro k
    rcases h i j hi hj (by omega) with q | q
    · exact h1 q
    · exact h2 q
theorem meet_enough {ok : List Int} {most : Int} {L : List (Int × Int)} (h : IsLine ok most L) (hm : most ≤ 1000) {n : Nat} {c : Nat → Int} {p g : Nat → Nat} (w : LW ok L n c p g) {lot lot2 : List Int} (he : ∀ x, x ∈ lot2 ↔ x ∈ lot) :
    v_is_enough_moved L lot2 = v_l_meet (v_l_windows L) (lf n lot) := by
  rw [Bool.eq_iff_iff, enough_iff h hm w, meet_lot w]
  simp only [he]
/-- the main step: windows that meet in pairs are open together at some moment -/
theorem meet_any {ok : List Int} {L : List (Int × Int)} {n T : Nat} {c : Nat → Int} {p g : Nat → Nat} (w : LW ok L n c p g) (y : LY ok L n T c (fun i => lay L (p i)) (fun i => lay L (g i))) (lot : List Int) :
    v_l_meet (v_l_windows L) (lf n lot) = true ↔ lf n lot = [] ∨ ∃ t, t < T ∧ ∀ z ∈ lf n lot, z ∈ al n (fun i => lay L (p i)) (fun i => lay L (g i)) t := by
  rw [meet_iff]
  constructor
  · intro h
    by_cases hne : lf n lot = []
    · exact .inl hne
    · refine .inr ?_
      obtain ⟨m, hm, k⟩ := helly (fun z : Int => (lay L (p z.toNat) : Int)) (fun z : Int => (lay L (g z.toNat) : Int)) hne (fun x hx z hz => by
        have := h x hx z hz
        obtain ⟨i, hi, rfl, h1⟩ := mem_lf.mp hx
        obtain ⟨j, hj, rfl, h2⟩ := mem_lf.mp hz
        rw [lw_gI w hi, lw_gI w hj] at this
        simp only [Int.toNat_natCast] at this ⊢
        have q := w.ahead hi hj
        omega)
      obtain ⟨i, hi, rfl, h1⟩ := mem_lf.mp hm
      have q1 := y.le i hi
      have q2 := y.lt i hi
      refine ⟨lay L (p i), by omega, fun z hz => ?_⟩
      obtain ⟨j, hj, rfl, h2⟩ := mem_lf.mp hz
      have := k _ hz
      simp only [Int.toNat_natCast] at this
      exact mem_al.mpr ⟨j, hj, rfl, by omega, by omega⟩
  · rintro (h | ⟨t, ht, h⟩)
    · rw [h]
      simp
    · intro x hx z hz
      obtain ⟨i, hi, rfl, h1, h2⟩ := mem_al.mp (h x hx)
      obtain ⟨j, hj, rfl, h3, h4⟩ := mem_al.mp (h z hz)
      rw [lw_gI w hi, lw_gI w hj]
      simp only
      have q := w.ahead hi hj
      omega
/-! ### lots -/
theorem lots_has (q : Int → Bool) : ∀ m : Nat, (rngL 0 m).filter q ∈ v_l_lots (m : Int)
  | 0 => by
    show ([] : List Int) ∈ ([[]] : List (List Int))
    simp
  | m + 1 => by
    have ih := lots_has q m
    have e : v_l_lots ((m + 1 : Nat) : Int) = l_lots_3 (v_l_lots (m : Int)) (m : Int) := by
      show (rngL 0 (((m + 1 : Nat) : Int)).toNat).foldl (fun (v : (List (List Int))) (x : Int) => l_lots_3 v x) [[]] = l_lots_3 ((rngL 0 ((m : Int)).toNat).foldl (fun (v : (List (List Int))) (x : Int) => l_lots_3 v x) [[]]) (m : Int)
      rw [show (((m + 1 : Nat) : Int)).toNat = m + 1 by omega, show ((m : Int)).toNat = m by omega, rngL_succ, List.foldl_append]
      rfl
    rw [e, rngL_succ, List.filter_append]
    unfold l_lots_3
    cases h : q (m : Int) with
    | true =>
      rw [List.filter_cons_of_pos h]
      exact List.mem_append_right _ (List.mem_map.mpr ⟨_, ih, rfl⟩)
    | false =>
      rw [List.filter_cons_of_neg (by rw [h]; decide)]
      exact List.mem_append_left _ (by simpa using ih)
theorem sum_filter_le {F : Int → Int} (hF : ∀ x, 0 ≤ F x) {q1 q2 : Int → Bool} : ∀ (xs : List Int), (∀ x ∈ xs, q1 x = true → q2 x = true) → ((xs.filter q1).map F).sum ≤ ((xs.filter q2).map F).sum
  | [], _ => Int.le_refl _
  | x :: xs, h => by
    have ih := sum_filter_le hF xs fun z hz => h z (List.mem_cons_of_mem _ hz)
    have hx := hF x
    cases h1 : q1 x with
    | true =>
      rw [List.filter_cons_of_pos h1, List.filter_cons_of_pos (h x List.mem_cons_self h1)]
      simp only [List.map_cons, List.sum_cons]
      omega
    | false =>
      rw [List.filter_cons_of_neg (by rw [h1]; decide), List.filter_cons]
      split
      · simp only [List.map_cons, List.sum_cons]
        omega
      · exact ih
theorem lot_filter {n : Nat} {lot : List Int} (h1 : lot.Pairwise (· < ·)) (h2 : ∀ x ∈ lot, 0 ≤ x ∧ x < (n : Int)) : lot = (rngL 0 n).filter fun z => decide (z ∈ lot) := by
  have e1 : lot = setI lot := setI_uniq h1 fun _ => Iff.rfl
  have e2 : (rngL 0 n).filter (fun z => decide (z ∈ lot)) = setI lot := setI_uniq (List.Pairwise.filter _ (rngL_pw 0 n)) fun k => by
    rw [List.mem_filter, rngL_mem, decide_eq_true_eq]
    constructor
    · exact fun q => q.2
    · intro q
      have := h2 k q
      exact ⟨by omega, q⟩
  rw [e2]
  exact e1
theorem gI_nonneg {prices : List Int} (h : ∀ x ∈ prices, 0 ≤ x) (i : Int) : 0 ≤ gI prices i := by
  unfold gI atI
  cases e : (ixN prices.length i).bind fun j => prices[j]? with
  | none => exact Int.le_refl (0 : Int)
  | some v =>
    rw [Option.bind_eq_some_iff] at e
    obtain ⟨j, _, hj⟩ := e
    exact h v (List.mem_of_getElem? hj)
/-- the lot of a moment is no dearer than any lot that leaves windows open at it -/
theorem pr_le {n : Nat} {f e : Nat → Nat} {t : Nat} {c : Nat → Int} {prices : List Int} (hp : ∀ x ∈ prices, 0 ≤ x) {lot : List Int} (h1 : lot.Pairwise (· < ·)) (h2 : ∀ x ∈ lot, 0 ≤ x ∧ x < (n : Int)) (h : ∀ z ∈ lf n lot, z ∈ al n f e t) : pr prices c (mv n f e t) ≤ pr prices c lot := by
  conv => rhs; rw [lot_filter h1 h2]
  unfold pr mv
  refine sum_filter_le (fun x => gI_nonneg hp _) _ fun x hx hq => ?_
  rw [decide_eq_true_eq]
  rw [Bool.not_eq_true', decide_eq_false_iff_not] at hq
  by_cases k : x ∈ lot
  · exact k
  · obtain ⟨h0, h3⟩ := rngL_mem.mp hx
    exact absurd (h x (mem_lf.mpr ⟨x.toNat, by omega, by omega, k⟩)) hq
theorem lf_mv {n : Nat} {f e : Nat → Nat} {t : Nat} : ∀ z ∈ lf n (mv n f e t), z ∈ al n f e t := by
  intro z hz
  obtain ⟨i, hi, rfl, h⟩ := mem_lf.mp hz
  rw [mem_mv] at h
  refine mem_al.mpr ⟨i, hi, rfl, ?_, ?_⟩
  · rcases Nat.lt_or_ge t (f i) with k | k
    · exact absurd ⟨i, hi, rfl, .inl k⟩ h
    · exact k
  · rcases Nat.lt_or_ge (e i) t with k | k
    · exact absurd ⟨i, hi, rfl, .inr k⟩ h
    · exact k
/-! ### loops that may end early -/
theorem loopF_ix {α ρ σ : Type} {f : σ → α → Flow' ρ σ} {P : σ → α → Prop} {xs : List α} {s : σ} (I : Nat → σ → Prop) (h0 : I 0 s) (h : ∀ i x v, xs[i]? = some x → I i v → P v x ∧ ∃ v', f v x = .next v' ∧ I (i + 1) v') :
    loopFP f P xs s ∧ ∃ v, loopF f xs s = .next v ∧ I xs.length v := by
  have st : ∀ i, i ≤ xs.length → ∃ v, loopF f (xs.take i) s = .next v ∧ I i v := by
    intro i
    induction i with
    | zero => exact fun _ => ⟨s, by simp [loopF], h0⟩
    | succ i ih =>
      intro hi
      obtain ⟨v, e1, hv⟩ := ih (by omega)
      have e : xs[i]? = some (xs[i]'(by omega)) := List.getElem?_eq_getElem (by omega)
      obtain ⟨_, v', e2, hv'⟩ := h i _ v e hv
      refine ⟨v', ?_, hv'⟩
      rw [List.take_add_one, e]
      simp only [Option.toList_some]
      rw [loopF_snoc e1]
      exact e2
  constructor
  · intro i x s1 e e1
    have hi : i < xs.length := (List.getElem?_eq_some_iff.mp e).1
    obtain ⟨v, e2, hv⟩ := st i (by omega)
    rw [e1] at e2
    cases e2
    exact (h i x _ e hv).1
  · obtain ⟨v, e1, hv⟩ := st xs.length (Nat.le_refl _)
    rw [List.take_length] at e1
    exact ⟨v, e1, hv⟩
theorem lcRun_all {α β γ : Type} {F : α → γ → β} {Ge : α → γ → γ} (I : γ → Prop) (Q : β → Prop) (h : ∀ x g, I g → Q (F x g) ∧ I (Ge x g)) : ∀ (xs : List α) (g : γ), I g →
    (lcRun (lcStep (fun _ _ => true) (fun _ g => g) F Ge) xs g).1.length = xs.length ∧ (∀ b ∈ (lcRun (lcStep (fun _ _ => true) (fun _ g => g) F Ge) xs g).1, Q b) ∧ I (lcRun (lcStep (fun _ _ => true) (fun _ g => g) F Ge) xs g).2
  | [], g, hg => ⟨rfl, by simp [lcRun], hg⟩
  | x :: xs, g, hg => by
    obtain ⟨h1, h2⟩ := h x g hg
    obtain ⟨k1, k2, k3⟩ := lcRun_all I Q h xs (Ge x g) h2
    have e : lcRun (lcStep (fun _ _ => true) (fun _ g => g) F Ge) (x :: xs) g = (F x g :: (lcRun (lcStep (fun _ _ => true) (fun _ g => g) F Ge) xs (Ge x g)).1, (lcRun (lcStep (fun _ _ => true) (fun _ g => g) F Ge) xs (Ge x g)).2) := rfl
    rw [e]
    refine ⟨by simp [k1], fun b hb => ?_, k3⟩
    rcases List.mem_cons.mp hb with q | q
    · rw [q]; exact h1
    · exact k2 b q
/-! ### the long line -/
def lng (k : Nat) : List (Int × Int) := (List.replicate k [((0 : Int), (0 : Int)), ((1 : Int), (0 : Int))]).flatten
theorem lng_layers : ∀ k, k < 40 → v_layers_of (lng k) = (List.range k).map fun (i : Nat) => ((0 : Int), (i : Int), (i : Int)) := by decide +kernel
theorem lng_many : ∀ k, k < 40 → v_many_layers (lng k) = (k : Int) := by decide +kernel
theorem lng_len (k : Nat) : (lng k).length = 2 * k := by
  unfold lng
  simp
  omega
end My
set_option Elab.async false
set_option linter.all false
set_option maxRecDepth 100000
namespace My
open PySem PySem.Spec PyProof.Rows L2 Ab PySem.RefX
def ψ_lay : List A → Prop := fun args => ∃ (line : List (Int × Int)) (layer : Int), args = [En (α := Tp (Int × Int)) line, En (α := Int) layer] ∧ P_many_layers line ∧ v_many_layers line ≤ layer
section
variable {P : Program} {w : World} {K : PySem.W.Frag} {mg : Str → Option Value} {base : Heap} {C fI : Addr}
theorem dfR_need (B : Bi mg) (RT : RefTxt P K mg C fI) (D_many_layers : Df P w K mg base CX0 1 "many_layers" ["line"] φ_many_layers) (T : Top K mg "need_layer" s_need_layer ["line", "layer"]) : DfR P w K mg base C 2 "need_layer" ["line", "layer"] "layer" ψ_lay := by
  refine dfR_mk (k := 1) T sc_need_layer (fun args ⟨line, layer, e, _⟩ => by subst e; rfl) (fun f cdv Ar outer s H E G args hr ⟨line, layer, e, hP, hlt⟩ hB hz => ?_)
  subst e
  exact wr_raise RT rfl hr (takes_of rfl rfl rfl rfl) hB hz (ET.to (et_ge (ev_name (a := En (α := Int) layer) (i := 1)) (ev_cf (φ := φ_many_layers) (ds := [Enc.enc (α := Tp (Int × Int)) line]) (r := Enc.enc (α := Int) (v_many_layers line)) D_many_layers hr pass0 (ea_cons (ev_name (a := En (α := Tp (Int × Int)) line) (i := 0)) ea_nil) ⟨line, rfl, rfl, hP, rfl, rfl⟩)) (decide_eq_true hlt))
theorem dfR_alive (DR : DfR P w K mg base C 2 "need_layer" ["line", "layer"] "layer" ψ_lay) (T : Top K mg "alive_at" s_alive_at ["line", "layer"]) : DfR P w K mg base C 3 "alive_at" ["line", "layer"] "layer" ψ_lay := by
  refine dfR_mk (k := 2) T sc_alive_at (fun args ⟨line, layer, e, _⟩ => by subst e; rfl) (fun f cdv Ar outer s H E G args hr ⟨line, layer, e, hP, hlt⟩ hB hz => ?_)
  subst e
  exact wr_expr (er_call (E := E) DR hr (passes_call (takes_of rfl rfl rfl rfl) (fun _ _ _ _ h => h)) hB hz (ds := [Enc.enc (α := Tp (Int × Int)) line, Enc.enc (α := Int) layer]) (ea_cons (ev_name (a := En (α := Tp (Int × Int)) line) (i := 0)) (ea_cons (ev_name (a := En (α := Int) layer) (i := 1)) ea_nil)) ⟨line, layer, rfl, hP, hlt⟩)
theorem dfR_moved (DR : DfR P w K mg base C 3 "alive_at" ["line", "layer"] "layer" ψ_lay) (T : Top K mg "moved_for" s_moved_for ["line", "layer"]) : DfR P w K mg base C 4 "moved_for" ["line", "layer"] "layer" ψ_lay := by
  refine dfR_mk (k := 3) T sc_moved_for (fun args ⟨line, layer, e, _⟩ => by subst e; rfl) (fun f cdv Ar outer s H E G args hr ⟨line, layer, e, hP, hlt⟩ hB hz => ?_)
  subst e
  exact wr_set (i := 2) sc_moved_for.nd (er_call (E := E) DR hr (passes_call (takes_of rfl rfl rfl rfl) (fun _ _ _ _ h => h)) hB hz (ds := [Enc.enc (α := Tp (Int × Int)) line, Enc.enc (α := Int) layer]) (ea_cons (ev_name (a := En (α := Tp (Int × Int)) line) (i := 0)) (ea_cons (ev_name (a := En (α := Int) layer) (i := 1)) ea_nil)) ⟨line, layer, rfl, hP, hlt⟩)
def ψ_pri : List A → Prop := fun args => ∃ (line : List (Int × Int)) (layer : Int) (prices : List Int), args = [En (α := Tp (Int × Int)) line, En (α := Int) layer, En (α := Tp Int) prices] ∧ P_many_layers line ∧ v_many_layers line ≤ layer ∧ P_locks_of line
theorem dfR_price (B : Bi mg) (DR : DfR P w K mg base C 4 "moved_for" ["line", "layer"] "layer" ψ_lay) (D_locks_of : Df P w K mg base CX0 1 "locks_of" ["line"] φ_locks_of) (T : Top K mg "price_for" s_price_for ["line", "layer", "prices"]) : DfR P w K mg base C 5 "price_for" ["line", "layer", "prices"] "layer" ψ_pri := by
  refine dfR_mk (k := 4) T sc_price_for (fun args ⟨line, layer, prices, e, _⟩ => by subst e; rfl) (fun f cdv Ar outer s H E G args hr ⟨line, layer, prices, e, hP, hlt, hl⟩ hB hz => ?_)
  subst e
  refine wr_sn (sn_set (i := 3) sc_price_for.nd (ev_cf (φ := φ_locks_of) (ds := [Enc.enc (α := Tp (Int × Int)) line]) (r := Enc.enc (α := Tp Int) (v_locks_of line)) D_locks_of (hr.mono (by decide)) pass0 (ea_cons (ev_name (a := En (α := Tp (Int × Int)) line) (i := 0)) ea_nil) ⟨line, rfl, rfl, hl, rfl, rfl⟩)) ?_
  exact wr_ret (er_sumC [("w", 4)] rfl B.sum sc_price_for.nd (blkOk_by rfl) (er_call (E := E) DR hr (passes_call (takes_of rfl rfl rfl rfl) (fun _ _ _ _ h => h)) hB hz (ds := [Enc.enc (α := Tp (Int × Int)) line, Enc.enc (α := Int) layer]) (ea_cons (ev_name (a := En (α := Tp (Int × Int)) line) (i := 0)) (ea_cons (ev_name (a := En (α := Int) layer) (i := 1)) ea_nil)) ⟨line, layer, rfl, hP, hlt⟩))
end
end My
set_option Elab.async false
set_option linter.all false
set_option maxRecDepth 100000
namespace My
open PySem PySem.Spec PyProof.Rows L2 Ab
class FnAddr where
  fa : Addr
  fm : Addr
inductive FnRef where
  | al
  | mo
instance : Inhabited FnRef := ⟨.al⟩
instance [FnAddr] : Enc FnRef := ⟨fun x => match x with
  | .al => .at (.ref FnAddr.fa)
  | .mo => .at (.ref FnAddr.fm)⟩
theorem FnRef.two (x : FnRef) : x = .al ∨ x = .mo := by cases x <;> simp
abbrev q_law : Str := "law" ++ ".<locals>." ++ "<lambda>"
abbrev s_l_heard : Stmt := topS 26
theorem sc_l_heard : FnScope ["work", "e"] ["work"] (defScope s_l_heard) := ⟨rfl, rfl, rfl, by decide +kernel, rfl, by decide +kernel, by decide +kernel⟩

/-! ### law -/
section
abbrev s_law : Stmt := topS 34
abbrev N_law : List Str := ["script", "well", "locks", "line", "rows", "prices", "lock", "opened", "every", "costs", "moment", "alive", "moved", "w", "cost", "best", "cheap", "lot", "left", "fine", "lots", "one", "many", "works", "long"]
theorem sc_law : FnScope N_law ["script"] (defScope s_law) := ⟨rfl, rfl, rfl, by decide +kernel, rfl, by decide +kernel, by decide +kernel⟩
abbrev X_law (P : Program) (w : World) (K : PySem.W.Frag) (mg : Str → Option Value) (base : Heap) (f : Addr) (cdv : Value) (Ar : Around) (outer : List Env) (s : Shared) (H : Hp) (E : XK) : Cx := (cxOf CX0 P w K mg base N_law "law" (defScope s_law) f cdv Ar outer s H E).nox
variable {P : Program} {w : World} {K : PySem.W.Frag} {mg : Str → Option Value} {base : Heap} {f : Addr} {cdv : Value} {Ar : Around} {outer : List Env} {s : Shared} {H : Hp} {E : XK} {G : Gh}
variable (B : Bi mg) (D_l_well : Df P w K mg base CX0 1 "_law_well" ["script", "k"] φ_l_well) (D_l_line : Df P w K mg base CX0 3 "_law_line" ["well", "locks", "most"] φ_l_line) (D_l_windows : Df P w K mg base CX0 1 "_law_windows" ["line"] φ_l_windows) (D_l_open : Df P w K mg base CX0 1 "_law_open" ["moments"] φ_l_open) (D_l_lots : Df P w K mg base CX0 1 "_law_lots" ["many"] φ_l_lots) (D_l_one : Df P w K mg base CX0 2 "_law_one" ["well", "some"] φ_l_one) (D_l_moments : Df P w K mg base CX0 2 "_law_moments" ["rows"] φ_l_moments) (D_l_meet : Df P w K mg base CX0 1 "_law_meet" ["rows", "left"] φ_l_meet) (D_l_like : Df P w K mg base CX0 5 "_law_like" ["told", "due"] φ_l_like) (D_l_dip : Df P w K mg base CX0 1 "_law_dip" ["well", "many"] φ_l_dip) (DK_fewest_moved_0 : DfK P w K mg base CX0 6 "fewest_moved" ["line", "prices"] ["line", "prices"] φ_fewest_moved) (D_is_enough_moved : Df P w K mg base CX0 3 "is_enough_moved" ["line", "windows"] φ_is_enough_moved) (D_fewest_moved : Df P w K mg base CX0 6 "fewest_moved" ["line", "prices"] φ_fewest_moved) (D_alive_at : Df P w K mg base CX0 3 "alive_at" ["line", "layer"] φ_alive_at) (D_price_for : Df P w K mg base CX0 5 "price_for" ["line", "layer", "prices"] φ_price_for) (DK_alive_at_1 : DfK P w K mg base CX0 3 "alive_at" ["line", "layer"] ["layer"] φ_alive_at) (D_moved_for : Df P w K mg base CX0 4 "moved_for" ["line", "layer"] φ_moved_for) (D_l_mixed : Df P w K mg base CX0 2 "_law_mixed" ["well", "some"] φ_l_mixed) (hr : Room 7 (Ar.deeper (PyProof.Rows.envOfC "law" (defScope s_law) s.heap.objs.size f cdv))) (hB : G.B.length = 1) {C fI cL PT : Addr} [FN : FnAddr] (hGB : G.B = [PT]) (hZ : ∀ a, ¬ G.Z a) (hcd : cdv = .ref cL) (TB : LamX.TabB base mg cL PT) (RT : PySem.RefX.RefTxt P K mg C fI) (TH : Top K mg "_law_heard" s_l_heard ["work"]) (FA : FnsR P w K mg base C 3 ["line", "layer"] "layer" ψ_lay FN.fa) (FM : FnsR P w K mg base C 4 ["line", "layer"] "layer" ψ_lay FN.fm) (ga : mg "alive_at" = some (.ref FN.fa)) (gm : mg "moved_for" = some (.ref FN.fm)) (DR_price : DfR P w K mg base C 5 "price_for" ["line", "layer", "prices"] "layer" ψ_pri)
include B D_l_well D_l_line D_l_windows D_l_open D_l_lots D_l_one D_l_moments D_l_meet D_l_like D_l_dip DK_fewest_moved_0 D_is_enough_moved D_fewest_moved D_alive_at D_price_for DK_alive_at_1 D_moved_for D_l_mixed hr hB hGB hZ hcd TB RT TH FA FM ga gm DR_price
abbrev R_law : Bool → A → Ms → Prop := fun (v : Bool) (a : A) (S : Ms) => RetOk a S (En (α := Bool) v) []
def law_15 (well : List Int) (costs : List Int) (line : List (Int × Int)) (rows : List (Int × Int × Int)) (prices : List Int) (opened : List (List (Int × Int))) (every : List Int) : Flow' Bool (List Int) := .ret false
def law_15P (well : List Int) (costs : List Int) (line : List (Int × Int)) (rows : List (Int × Int × Int)) (prices : List Int) (opened : List (List (Int × Int))) (every : List Int) : Prop := True
theorem law_15_w (well : List Int) (costs : List Int) (line : List (Int × Int)) (rows : List (Int × Int × Int)) (prices : List Int) (opened : List (List (Int × Int))) (every : List Int) (h : law_15P well costs line rows prices opened every) : WSs (X_law P w K mg base f cdv Ar outer s H E) G ⟨[none, some (.cell 1), none, some (En (α := Tp (Int × Int)) line), some (En (α := Tp (T3 Int Int Int)) rows), some (En (α := Tp Int) prices), none, some (En (α := List (Dc Int)) opened), some (En (α := List Int) every), some (.cell 2), none, none, none, none, none, none, none, none, none, none, none, none, none, none, none], [.tab q_law, Cl (α := Int) well, Cl (α := Int) costs]⟩ (ifA ((forB ((defBody s_law).getD 7 passS)).getD 5 passS)) (Thn (X_law P w K mg base f cdv Ar outer s H E) G ((forB ((defBody s_law).getD 7 passS)).drop 6) (EndL (ρ := Bool) (fun (v : (List Int)) => ⟨[none, some (.cell 1), none, some (En (α := Tp (Int × Int)) line), some (En (α := Tp (T3 Int Int Int)) rows), some (En (α := Tp Int) prices), none, some (En (α := List (Dc Int)) opened), some (En (α := List Int) every), some (.cell 2), none, none, none, none, none, none, none, none, none, none, none, none, none, none, none], [.tab q_law, Cl (α := Int) well, Cl (α := Int) v]⟩) R_law) (law_15 well costs line rows prices opened every)) := by
  exact wss_ret (ev_bl) ⟨_, rfl, ret_dat⟩
def law_14 (well : List Int) (costs : List Int) (line : List (Int × Int)) (rows : List (Int × Int × Int)) (prices : List Int) (opened : List (List (Int × Int))) (every : List Int) (moment : Int) (moved : List Int) (cost : Int) : Flow' Bool (List Int) := cond ((!(v_l_like (α := Int) (v_price_for line moment prices) cost)) || (!decide ((v_is_enough_moved line moved) = true))) (law_15 well costs line rows prices opened every) (.next costs)
def law_14P (well : List Int) (costs : List Int) (line : List (Int × Int)) (rows : List (Int × Int × Int)) (prices : List Int) (opened : List (List (Int × Int))) (every : List Int) (moment : Int) (moved : List Int) (cost : Int) : Prop := (P_price_for line moment prices) ∧ (P_l_like (α := Int) (v_price_for line moment prices) cost) ∧ ((!(v_l_like (α := Int) (v_price_for line moment prices) cost)) = false → (P_is_enough_moved line moved)) ∧ (((!(v_l_like (α := Int) (v_price_for line moment prices) cost)) || (!decide ((v_is_enough_moved line moved) = true))) = true → (law_15P well costs line rows prices opened every))
theorem law_14_w (well : List Int) (costs : List Int) (line : List (Int × Int)) (rows : List (Int × Int × Int)) (prices : List Int) (opened : List (List (Int × Int))) (every : List Int) (moment : Int) (moved : List Int) (cost : Int) (h : law_14P well costs line rows prices opened every moment moved cost) : WSs (X_law P w K mg base f cdv Ar outer s H E) G ⟨[none, some (.cell 1), none, some (En (α := Tp (Int × Int)) line), some (En (α := Tp (T3 Int Int Int)) rows), some (En (α := Tp Int) prices), none, some (En (α := List (Dc Int)) opened), some (En (α := List Int) every), some (.cell 2), some (En (α := Int) moment), none, some (En (α := Tp Int) moved), none, some (En (α := Int) cost), none, none, none, none, none, none, none, none, none, none], [.tab q_law, Cl (α := Int) well, Cl (α := Int) costs]⟩ ((forB ((defBody s_law).getD 7 passS)).drop 5) (EndL (ρ := Bool) (fun (v : (List Int)) => ⟨[none, some (.cell 1), none, some (En (α := Tp (Int × Int)) line), some (En (α := Tp (T3 Int Int Int)) rows), some (En (α := Tp Int) prices), none, some (En (α := List (Dc Int)) opened), some (En (α := List Int) every), some (.cell 2), none, none, none, none, none, none, none, none, none, none, none, none, none, none, none], [.tab q_law, Cl (α := Int) well, Cl (α := Int) v]⟩) R_law (law_14 well costs line rows prices opened every moment moved cost)) := by
  obtain ⟨q322_, q323_, q326_, q329_⟩ := h
  exact wss_ifM (EndL (ρ := Bool) (fun (v : (List Int)) => ⟨[none, some (.cell 1), none, some (En (α := Tp (Int × Int)) line), some (En (α := Tp (T3 Int Int Int)) rows), some (En (α := Tp Int) prices), none, some (En (α := List (Dc Int)) opened), some (En (α := List Int) every), some (.cell 2), none, none, none, none, none, none, none, none, none, none, none, none, none, none, none], [.tab q_law, Cl (α := Int) well, Cl (α := Int) v]⟩) R_law) (p := (!(v_l_like (α := Int) (v_price_for line moment prices) cost)) || (!decide ((v_is_enough_moved line moved) = true))) (m1 := law_15 well costs line rows prices opened every) (m2 := .next costs) rfl (et_w (ew_or (p := !(v_l_like (α := Int) (v_price_for line moment prices) cost)) (q := !decide ((v_is_enough_moved line moved) = true)) (et_not (et_B (ev_cf (φ := φ_l_like) (ds := [Enc.enc (α := Int) (v_price_for line moment prices), Enc.enc (α := Int) cost]) (r := Enc.enc (α := Bool) (v_l_like (α := Int) (v_price_for line moment prices) cost)) D_l_like (hr.mono (by decide)) pass0 (ea_cons (ev_cf (φ := φ_price_for) (ds := [Enc.enc (α := Tp (Int × Int)) line, Enc.enc (α := Int) moment, Enc.enc (α := Tp Int) prices]) (r := Enc.enc (α := Int) (v_price_for line moment prices)) D_price_for (hr.mono (by decide)) pass0 (ea_cons (ev_name (a := En (α := Tp (Int × Int)) line) (i := 3)) (ea_cons (ev_name (a := En (α := Int) moment) (i := 10)) (ea_cons (ev_name (a := En (α := Tp Int) prices) (i := 5)) (ea_nil)))) ⟨line, moment, prices, rfl, rfl, q322_, rfl, rfl⟩) (ea_cons (ev_name (a := En (α := Int) cost) (i := 14)) (ea_nil))) ⟨_, _, (v_price_for line moment prices), cost, rfl, rfl, q323_, rfl, rfl⟩))) (fun hp325_ => ew_or1 (et_isnB (ev_cf (φ := φ_is_enough_moved) (ds := [Enc.enc (α := Tp (Int × Int)) line, Enc.enc (α := Tp Int) moved]) (r := Enc.enc (α := Bool) (v_is_enough_moved line moved)) D_is_enough_moved (hr.mono (by decide)) pass0 (ea_cons (ev_name (a := En (α := Tp (Int × Int)) line) (i := 3)) (ea_cons (ev_name (a := En (α := Tp Int) moved) (i := 12)) (ea_nil))) ⟨line, moved, rfl, rfl, (q326_ hp325_), rfl, rfl⟩) (ev_bl))))) (fun hp328_ => wss_fg (fg_of (by exact And.intro (Or.inl rfl) (And.intro (Or.inr rfl) (And.intro (Or.inl rfl) (And.intro (Or.inr rfl) (And.intro (Or.inr rfl) (And.intro (Or.inr rfl) (And.intro (Or.inl rfl) (And.intro (Or.inr rfl) (And.intro (Or.inr rfl) (And.intro (Or.inr rfl) (And.intro (Or.inl rfl) (And.intro (Or.inl rfl) (And.intro (Or.inl rfl) (And.intro (Or.inl rfl) (And.intro (Or.inl rfl) (And.intro (Or.inl rfl) (And.intro (Or.inl rfl) (And.intro (Or.inl rfl) (And.intro (Or.inl rfl) (And.intro (Or.inl rfl) (And.intro (Or.inl rfl) (And.intro (Or.inl rfl) (And.intro (Or.inl rfl) (And.intro (Or.inl rfl) (And.intro (Or.inl rfl) (True.intro))))))))))))))))))))))))))) (law_15_w B D_l_well D_l_line D_l_windows D_l_open D_l_lots D_l_one D_l_moments D_l_meet D_l_like D_l_dip DK_fewest_moved_0 D_is_enough_moved D_fewest_moved D_alive_at D_price_for DK_alive_at_1 D_moved_for D_l_mixed hr hB hGB hZ hcd TB RT TH FA FM ga gm DR_price well costs line rows prices opened every (q329_ hp328_))) (fun hp330_ => end_thn (S' := ⟨[none, some (.cell 1), none, some (En (α := Tp (Int × Int)) line), some (En (α := Tp (T3 Int Int Int)) rows), some (En (α := Tp Int) prices), none, some (En (α := List (Dc Int)) opened), some (En (α := List Int) every), some (.cell 2), none, none, none, none, none, none, none, none, none, none, none, none, none, none, none], [.tab q_law, Cl (α := Int) well, Cl (α := Int) costs]⟩) (fg_of (by exact And.intro (Or.inl rfl) (And.intro (Or.inr rfl) (And.intro (Or.inl rfl) (And.intro (Or.inr rfl) (And.intro (Or.inr rfl) (And.intro (Or.inr rfl) (And.intro (Or.inl rfl) (And.intro (Or.inr rfl) (And.intro (Or.inr rfl) (And.intro (Or.inr rfl) (And.intro (Or.inl rfl) (And.intro (Or.inl rfl) (And.intro (Or.inl rfl) (And.intro (Or.inl rfl) (And.intro (Or.inl rfl) (And.intro (Or.inl rfl) (And.intro (Or.inl rfl) (And.intro (Or.inl rfl) (And.intro (Or.inl rfl) (And.intro (Or.inl rfl) (And.intro (Or.inl rfl) (And.intro (Or.inl rfl) (And.intro (Or.inl rfl) (And.intro (Or.inl rfl) (And.intro (Or.inl rfl) (True.intro))))))))))))))))))))))))))) (end_nx ⟨_, rfl, fg_of (by exact And.intro (Or.inl rfl) (And.intro (Or.inr rfl) (And.intro (Or.inl rfl) (And.intro (Or.inr rfl) (And.intro (Or.inr rfl) (And.intro (Or.inr rfl) (And.intro (Or.inl rfl) (And.intro (Or.inr rfl) (And.intro (Or.inr rfl) (And.intro (Or.inr rfl) (And.intro (Or.inl rfl) (And.intro (Or.inl rfl) (And.intro (Or.inl rfl) (And.intro (Or.inl rfl) (And.intro (Or.inl rfl) (And.intro (Or.inl rfl) (And.intro (Or.inl rfl) (And.intro (Or.inl rfl) (And.intro (Or.inl rfl) (And.intro (Or.inl rfl) (And.intro (Or.inl rfl) (And.intro (Or.inl rfl) (And.intro (Or.inl rfl) (And.intro (Or.inl rfl) (And.intro (Or.inl rfl) (True.intro))))))))))))))))))))))))))⟩))
def law_16 (well : List Int) (costs : List Int) (line : List (Int × Int)) (rows : List (Int × Int × Int)) (prices : List Int) (opened : List (List (Int × Int))) (every : List Int) (moment : Int) (moved : List Int) (cost : Int) : Flow' Bool (List Int) := .ret false
def law_16P (well : List Int) (costs : List Int) (line : List (Int × Int)) (rows : List (Int × Int × Int)) (prices : List Int) (opened : List (List (Int × Int))) (every : List Int) (moment : Int) (moved : List Int) (cost : Int) : Prop := True
theorem law_16_w (well : List Int) (costs : List Int) (line : List (Int × Int)) (rows : List (Int × Int × Int)) (prices : List Int) (opened : List (List (Int × Int))) (every : List Int) (moment : Int) (moved : List Int) (cost : Int) (h : law_16P well costs line rows prices opened every moment moved cost) : WSs (X_law P w K mg base f cdv Ar outer s H E) G ⟨[none, some (.cell 1), none, some (En (α := Tp (Int × Int)) line), some (En (α := Tp (T3 Int Int Int)) rows), some (En (α := Tp Int) prices), none, some (En (α := List (Dc Int)) opened), some (En (α := List Int) every), some (.cell 2), some (En (α := Int) moment), none, some (En (α := Tp Int) moved), none, some (En (α := Int) cost), none, none, none, none, none, none, none, none, none, none], [.tab q_law, Cl (α := Int) well, Cl (α := Int) costs]⟩ (ifA ((forB ((defBody s_law).getD 7 passS)).getD 4 passS)) (Thn (X_law P w K mg base f cdv Ar outer s H E) G ((forB ((defBody s_law).getD 7 passS)).drop 5) (EndL (ρ := Bool) (fun (v : (List Int)) => ⟨[none, some (.cell 1), none, some (En (α := Tp (Int × Int)) line), some (En (α := Tp (T3 Int Int Int)) rows), some (En (α := Tp Int) prices), none, some (En (α := List (Dc Int)) opened), some (En (α := List Int) every), some (.cell 2), none, none, none, none, none, none, none, none, none, none, none, none, none, none, none], [.tab q_law, Cl (α := Int) well, Cl (α := Int) v]⟩) R_law) (law_16 well costs line rows prices opened every moment moved cost)) := by
  exact wss_ret (ev_bl) ⟨_, rfl, ret_dat⟩
def law_13 (well : List Int) (costs : List Int) (line : List (Int × Int)) (rows : List (Int × Int × Int)) (prices : List Int) (opened : List (List (Int × Int))) (every : List Int) (moment : Int) (alive : List Int) (moved : List Int) (cost : Int) : Flow' Bool (List Int) := cond ((!(v_l_like (α := Tp Int) (v_alive_at line moment) alive)) || (!(v_l_like (α := Tp Int) (v_moved_for line moment) moved))) (law_16 well costs line rows prices opened every moment moved cost) (law_14 well costs line rows prices opened every moment moved cost)
def law_13P (well : List Int) (costs : List Int) (line : List (Int × Int)) (rows : List (Int × Int × Int)) (prices : List Int) (opened : List (List (Int × Int))) (every : List Int) (moment : Int) (alive : List Int) (moved : List Int) (cost : Int) : Prop := (P_alive_at line moment) ∧ (P_l_like (α := Tp Int) (v_alive_at line moment) alive) ∧ ((!(v_l_like (α := Tp Int) (v_alive_at line moment) alive)) = false → (P_moved_for line moment) ∧ (P_l_like (α := Tp Int) (v_moved_for line moment) moved)) ∧ (((!(v_l_like (α := Tp Int) (v_alive_at line moment) alive)) || (!(v_l_like (α := Tp Int) (v_moved_for line moment) moved))) = true → (law_16P well costs line rows prices opened every moment moved cost)) ∧ (((!(v_l_like (α := Tp Int) (v_alive_at line moment) alive)) || (!(v_l_like (α := Tp Int) (v_moved_for line moment) moved))) = false → (law_14P well costs line rows prices opened every moment moved cost))
theorem law_13_w (well : List Int) (costs : List Int) (line : List (Int × Int)) (rows : List (Int × Int × Int)) (prices : List Int) (opened : List (List (Int × Int))) (every : List Int) (moment : Int) (alive : List Int) (moved : List Int) (cost : Int) (h : law_13P well costs line rows prices opened every moment alive moved cost) : WSs (X_law P w K mg base f cdv Ar outer s H E) G ⟨[none, some (.cell 1), none, some (En (α := Tp (Int × Int)) line), some (En (α := Tp (T3 Int Int Int)) rows), some (En (α := Tp Int) prices), none, some (En (α := List (Dc Int)) opened), some (En (α := List Int) every), some (.cell 2), some (En (α := Int) moment), some (En (α := Tp Int) alive), some (En (α := Tp Int) moved), none, some (En (α := Int) cost), none, none, none, none, none, none, none, none, none, none], [.tab q_law, Cl (α := Int) well, Cl (α := Int) costs]⟩ ((forB ((defBody s_law).getD 7 passS)).drop 4) (EndL (ρ := Bool) (fun (v : (List Int)) => ⟨[none, some (.cell 1), none, some (En (α := Tp (Int × Int)) line), some (En (α := Tp (T3 Int Int Int)) rows), some (En (α := Tp Int) prices), none, some (En (α := List (Dc Int)) opened), some (En (α := List Int) every), some (.cell 2), none, none, none, none, none, none, none, none, none, none, none, none, none, none, none], [.tab q_law, Cl (α := Int) well, Cl (α := Int) v]⟩) R_law (law_13 well costs line rows prices opened every moment alive moved cost)) := by
  obtain ⟨q316_, q317_, q321_, q333_, q336_⟩ := h
  exact wss_ifM (EndL (ρ := Bool) (fun (v : (List Int)) => ⟨[none, some (.cell 1), none, some (En (α := Tp (Int × Int)) line), some (En (α := Tp (T3 Int Int Int)) rows), some (En (α := Tp Int) prices), none, some (En (α := List (Dc Int)) opened), some (En (α := List Int) every), some (.cell 2), none, none, none, none, none, none, none, none, none, none, none, none, none, none, none], [.tab q_law, Cl (α := Int) well, Cl (α := Int) v]⟩) R_law) (p := (!(v_l_like (α := Tp Int) (v_alive_at line moment) alive)) || (!(v_l_like (α := Tp Int) (v_moved_for line moment) moved))) (m1 := law_16 well costs line rows prices opened every moment moved cost) (m2 := law_14 well costs line rows prices opened every moment moved cost) rfl (et_w (ew_or (p := !(v_l_like (α := Tp Int) (v_alive_at line moment) alive)) (q := !(v_l_like (α := Tp Int) (v_moved_for line moment) moved)) (et_not (et_B (ev_cf (φ := φ_l_like) (ds := [Enc.enc (α := Tp Int) (v_alive_at line moment), Enc.enc (α := Tp Int) alive]) (r := Enc.enc (α := Bool) (v_l_like (α := Tp Int) (v_alive_at line moment) alive)) D_l_like (hr.mono (by decide)) pass0 (ea_cons (ev_cfK (φ := φ_alive_at) (ds := [Enc.enc (α := Tp (Int × Int)) line]) (ds2 := [Enc.enc (α := Int) moment]) (r := Enc.enc (α := Tp Int) (v_alive_at line moment)) DK_alive_at_1 (hr.mono (by decide)) pass0 (ea_cons (ev_name (a := En (α := Tp (Int × Int)) line) (i := 3)) (ea_nil)) (ek_cons (ev_name (a := En (α := Int) moment) (i := 10)) (ek_nil)) ⟨line, moment, rfl, rfl, q316_, rfl, rfl⟩) (ea_cons (ev_name (a := En (α := Tp Int) alive) (i := 11)) (ea_nil))) ⟨_, _, (v_alive_at line moment), alive, rfl, rfl, q317_, rfl, rfl⟩))) (fun hp320_ => ew_or1 (et_not (et_B (ev_cf (φ := φ_l_like) (ds := [Enc.enc (α := Tp Int) (v_moved_for line moment), Enc.enc (α := Tp Int) moved]) (r := Enc.enc (α := Bool) (v_l_like (α := Tp Int) (v_moved_for line moment) moved)) D_l_like (hr.mono (by decide)) pass0 (ea_cons (ev_cf (φ := φ_moved_for) (ds := [Enc.enc (α := Tp (Int × Int)) line, Enc.enc (α := Int) moment]) (r := Enc.enc (α := Tp Int) (v_moved_for line moment)) D_moved_for (hr.mono (by decide)) pass0 (ea_cons (ev_name (a := En (α := Tp (Int × Int)) line) (i := 3)) (ea_cons (ev_name (a := En (α := Int) moment) (i := 10)) (ea_nil))) ⟨line, moment, rfl, rfl, (q321_ hp320_).1, rfl, rfl⟩) (ea_cons (ev_name (a := En (α := Tp Int) moved) (i := 12)) (ea_nil))) ⟨_, _, (v_moved_for line moment), moved, rfl, rfl, (q321_ hp320_).2, rfl, rfl⟩)))))) (fun hp332_ => wss_fg (fg_of (by exact And.intro (Or.inl rfl) (And.intro (Or.inr rfl) (And.intro (Or.inl rfl) (And.intro (Or.inr rfl) (And.intro (Or.inr rfl) (And.intro (Or.inr rfl) (And.intro (Or.inl rfl) (And.intro (Or.inr rfl) (And.intro (Or.inr rfl) (And.intro (Or.inr rfl) (And.intro (Or.inr rfl) (And.intro (Or.inl rfl) (And.intro (Or.inr rfl) (And.intro (Or.inl rfl) (And.intro (Or.inr rfl) (And.intro (Or.inl rfl) (And.intro (Or.inl rfl) (And.intro (Or.inl rfl) (And.intro (Or.inl rfl) (And.intro (Or.inl rfl) (And.intro (Or.inl rfl) (And.intro (Or.inl rfl) (And.intro (Or.inl rfl) (And.intro (Or.inl rfl) (And.intro (Or.inl rfl) (True.intro))))))))))))))))))))))))))) (law_16_w B D_l_well D_l_line D_l_windows D_l_open D_l_lots D_l_one D_l_moments D_l_meet D_l_like D_l_dip DK_fewest_moved_0 D_is_enough_moved D_fewest_moved D_alive_at D_price_for DK_alive_at_1 D_moved_for D_l_mixed hr hB hGB hZ hcd TB RT TH FA FM ga gm DR_price well costs line rows prices opened every moment moved cost (q333_ hp332_))) (fun hp335_ => end_thn (S' := ⟨[none, some (.cell 1), none, some (En (α := Tp (Int × Int)) line), some (En (α := Tp (T3 Int Int Int)) rows), some (En (α := Tp Int) prices), none, some (En (α := List (Dc Int)) opened), some (En (α := List Int) every), some (.cell 2), some (En (α := Int) moment), none, some (En (α := Tp Int) moved), none, some (En (α := Int) cost), none, none, none, none, none, none, none, none, none, none], [.tab q_law, Cl (α := Int) well, Cl (α := Int) costs]⟩) (fg_of (by exact And.intro (Or.inl rfl) (And.intro (Or.inr rfl) (And.intro (Or.inl rfl) (And.intro (Or.inr rfl) (And.intro (Or.inr rfl) (And.intro (Or.inr rfl) (And.intro (Or.inl rfl) (And.intro (Or.inr rfl) (And.intro (Or.inr rfl) (And.intro (Or.inr rfl) (And.intro (Or.inr rfl) (And.intro (Or.inl rfl) (And.intro (Or.inr rfl) (And.intro (Or.inl rfl) (And.intro (Or.inr rfl) (And.intro (Or.inl rfl) (And.intro (Or.inl rfl) (And.intro (Or.inl rfl) (And.intro (Or.inl rfl) (And.intro (Or.inl rfl) (And.intro (Or.inl rfl) (And.intro (Or.inl rfl) (And.intro (Or.inl rfl) (And.intro (Or.inl rfl) (And.intro (Or.inl rfl) (True.intro))))))))))))))))))))))))))) (law_14_w B D_l_well D_l_line D_l_windows D_l_open D_l_lots D_l_one D_l_moments D_l_meet D_l_like D_l_dip DK_fewest_moved_0 D_is_enough_moved D_fewest_moved D_alive_at D_price_for DK_alive_at_1 D_moved_for D_l_mixed hr hB hGB hZ hcd TB RT TH FA FM ga gm DR_price well costs line rows prices opened every moment moved cost (q336_ hp335_)))
def law_12 (well : List Int) (costs : List Int) (line : List (Int × Int)) (rows : List (Int × Int × Int)) (prices : List Int) (opened : List (List (Int × Int))) (every : List Int) (moment : Int) (alive : List Int) (moved : List Int) (cost : Int) : Flow' Bool (List Int) := law_13 well (costs ++ [cost]) line rows prices opened every moment alive moved cost
def law_12P (well : List Int) (costs : List Int) (line : List (Int × Int)) (rows : List (Int × Int × Int)) (prices : List Int) (opened : List (List (Int × Int))) (every : List Int) (moment : Int) (alive : List Int) (moved : List Int) (cost : Int) : Prop := ((costs).length < 100000) ∧ (law_13P well (costs ++ [cost]) line rows prices opened every moment alive moved cost)
theorem law_12_w (well : List Int) (costs : List Int) (line : List (Int × Int)) (rows : List (Int × Int × Int)) (prices : List Int) (opened : List (List (Int × Int))) (every : List Int) (moment : Int) (alive : List Int) (moved : List Int) (cost : Int) (h : law_12P well costs line rows prices opened every moment alive moved cost) : WSs (X_law P w K mg base f cdv Ar outer s H E) G ⟨[none, some (.cell 1), none, some (En (α := Tp (Int × Int)) line), some (En (α := Tp (T3 Int Int Int)) rows), some (En (α := Tp Int) prices), none, some (En (α := List (Dc Int)) opened), some (En (α := List Int) every), some (.cell 2), some (En (α := Int) moment), some (En (α := Tp Int) alive), some (En (α := Tp Int) moved), none, some (En (α := Int) cost), none, none, none, none, none, none, none, none, none, none], [.tab q_law, Cl (α := Int) well, Cl (α := Int) costs]⟩ ((forB ((defBody s_law).getD 7 passS)).drop 3) (EndL (ρ := Bool) (fun (v : (List Int)) => ⟨[none, some (.cell 1), none, some (En (α := Tp (Int × Int)) line), some (En (α := Tp (T3 Int Int Int)) rows), some (En (α := Tp Int) prices), none, some (En (α := List (Dc Int)) opened), some (En (α := List Int) every), some (.cell 2), none, none, none, none, none, none, none, none, none, none, none, none, none, none, none], [.tab q_law, Cl (α := Int) well, Cl (α := Int) v]⟩) R_law (law_12 well costs line rows prices opened every moment alive moved cost)) := by
  obtain ⟨q315_, q337_⟩ := h
  exact wss_sn (sn_expr (ev_append (α := Int) (xs0 := costs) (xs := costs) (u := cost) (ev_name (a := .cell 2) (i := 9)) (ev_name (a := En (α := Int) cost) (i := 14)) rfl rfl q315_)) (law_13_w B D_l_well D_l_line D_l_windows D_l_open D_l_lots D_l_one D_l_moments D_l_meet D_l_like D_l_dip DK_fewest_moved_0 D_is_enough_moved D_fewest_moved D_alive_at D_price_for DK_alive_at_1 D_moved_for D_l_mixed hr hB hGB hZ hcd TB RT TH FA FM ga gm DR_price well (costs ++ [cost]) line rows prices opened every moment alive moved cost q337_)
def law_11 (well : List Int) (costs : List Int) (line : List (Int × Int)) (rows : List (Int × Int × Int)) (prices : List Int) (opened : List (List (Int × Int))) (every : List Int) (moment : Int) (alive : List Int) (moved : List Int) : Flow' Bool (List Int) := law_12 well costs line rows prices opened every moment alive moved (((moved).map (fun (z310 : Int) => gI prices ((gI rows z310).1))).sum)
def law_11P (well : List Int) (costs : List Int) (line : List (Int × Int)) (rows : List (Int × Int × Int)) (prices : List Int) (opened : List (List (Int × Int))) (every : List Int) (moment : Int) (alive : List Int) (moved : List Int) : Prop := (∀ z310 ∈ moved, (InR z310 (rows).length) ∧ (InR ((gI rows z310).1) (prices).length)) ∧ ((moved).length ≤ 100000) ∧ (law_12P well costs line rows prices opened every moment alive moved (((moved).map (fun (z310 : Int) => gI prices ((gI rows z310).1))).sum))
theorem law_11_w (well : List Int) (costs : List Int) (line : List (Int × Int)) (rows : List (Int × Int × Int)) (prices : List Int) (opened : List (List (Int × Int))) (every : List Int) (moment : Int) (alive : List Int) (moved : List Int) (h : law_11P well costs line rows prices opened every moment alive moved) : WSs (X_law P w K mg base f cdv Ar outer s H E) G ⟨[none, some (.cell 1), none, some (En (α := Tp (Int × Int)) line), some (En (α := Tp (T3 Int Int Int)) rows), some (En (α := Tp Int) prices), none, some (En (α := List (Dc Int)) opened), some (En (α := List Int) every), some (.cell 2), some (En (α := Int) moment), some (En (α := Tp Int) alive), some (En (α := Tp Int) moved), none, none, none, none, none, none, none, none, none, none, none, none], [.tab q_law, Cl (α := Int) well, Cl (α := Int) costs]⟩ ((forB ((defBody s_law).getD 7 passS)).drop 2) (EndL (ρ := Bool) (fun (v : (List Int)) => ⟨[none, some (.cell 1), none, some (En (α := Tp (Int × Int)) line), some (En (α := Tp (T3 Int Int Int)) rows), some (En (α := Tp Int) prices), none, some (En (α := List (Dc Int)) opened), some (En (α := List Int) every), some (.cell 2), none, none, none, none, none, none, none, none, none, none, none, none, none, none, none], [.tab q_law, Cl (α := Int) well, Cl (α := Int) v]⟩) R_law (law_11 well costs line rows prices opened every moment alive moved)) := by
  obtain ⟨q313_, q314_, q338_⟩ := h
  exact wss_sn (sn_set (i := 14) sc_law.nd (ev_sum (is := (moved).map (fun (z310 : Int) => gI prices ((gI rows z310).1))) rfl B.sum (lc_all (α := Int) (β := Int) (xs := moved) (f := fun (z310 : Int) => gI prices ((gI rows z310).1)) (sl' := fun (z310 : Int) => [none, some (.cell 1), none, some (En (α := Tp (Int × Int)) line), some (En (α := Tp (T3 Int Int Int)) rows), some (En (α := Tp Int) prices), none, some (En (α := List (Dc Int)) opened), some (En (α := List Int) every), some (.cell 2), some (En (α := Int) moment), some (En (α := Tp Int) alive), some (En (α := Tp Int) moved), some (En (α := Int) z310), none, none, none, none, none, none, none, none, none, none, none]) [("w", 13)] (lcm_pe rfl sc_law.nd (blkOk_by rfl)) (ei_of (es_tup (ev_name (a := En (α := Tp Int) moved) (i := 12)))) (fun _ _ => trivial) q314_ (fun _ _ _ _ _  z310 c310 => eg_name (i := 13) sc_law.nd) (fun _ _ _ _ _  z310 c310 hm310 => ev_ixT (α := Int) (xs := prices) (ev_name (a := En (α := Tp Int) prices) (i := 5)) (ev_part (j := 0) (ds := [Enc.enc (α := Int) ((gI rows z310).1), Enc.enc (α := Int) ((gI rows z310).2.1), Enc.enc (α := Int) ((gI rows z310).2.2)]) (ev_ixT (α := T3 Int Int Int) (xs := rows) (ev_name (a := En (α := Tp (T3 Int Int Int)) rows) (i := 4)) (ev_name (a := En (α := Int) z310) (i := 13)) ((rdt (α := T3 Int Int Int))) (q313_ z310 hm310).1) rfl) ((rdt (α := Int))) (q313_ z310 hm310).2)) (rdl (α := Int)))) (law_12_w B D_l_well D_l_line D_l_windows D_l_open D_l_lots D_l_one D_l_moments D_l_meet D_l_like D_l_dip DK_fewest_moved_0 D_is_enough_moved D_fewest_moved D_alive_at D_price_for DK_alive_at_1 D_moved_for D_l_mixed hr hB hGB hZ hcd TB RT TH FA FM ga gm DR_price well costs line rows prices opened every moment alive moved (((moved).map (fun (z310 : Int) => gI prices ((gI rows z310).1))).sum) q338_)
def law_10 (well : List Int) (costs : List Int) (line : List (Int × Int)) (rows : List (Int × Int × Int)) (prices : List Int) (opened : List (List (Int × Int))) (every : List Int) (moment : Int) (alive : List Int) : Flow' Bool (List Int) := law_11 well costs line rows prices opened every moment alive (((every).filter (fun (z308 : Int) => !decide (z308 ∈ alive))).map (fun (z308 : Int) => z308))
def law_10P (well : List Int) (costs : List Int) (line : List (Int × Int)) (rows : List (Int × Int × Int)) (prices : List Int) (opened : List (List (Int × Int))) (every : List Int) (moment : Int) (alive : List Int) : Prop := ((every).length ≤ 100000) ∧ (law_11P well costs line rows prices opened every moment alive (((every).filter (fun (z308 : Int) => !decide (z308 ∈ alive))).map (fun (z308 : Int) => z308)))
theorem law_10_w (well : List Int) (costs : List Int) (line : List (Int × Int)) (rows : List (Int × Int × Int)) (prices : List Int) (opened : List (List (Int × Int))) (every : List Int) (moment : Int) (alive : List Int) (h : law_10P well costs line rows prices opened every moment alive) : WSs (X_law P w K mg base f cdv Ar outer s H E) G ⟨[none, some (.cell 1), none, some (En (α := Tp (Int × Int)) line), some (En (α := Tp (T3 Int Int Int)) rows), some (En (α := Tp Int) prices), none, some (En (α := List (Dc Int)) opened), some (En (α := List Int) every), some (.cell 2), some (En (α := Int) moment), some (En (α := Tp Int) alive), none, none, none, none, none, none, none, none, none, none, none, none, none], [.tab q_law, Cl (α := Int) well, Cl (α := Int) costs]⟩ ((forB ((defBody s_law).getD 7 passS)).drop 1) (EndL (ρ := Bool) (fun (v : (List Int)) => ⟨[none, some (.cell 1), none, some (En (α := Tp (Int × Int)) line), some (En (α := Tp (T3 Int Int Int)) rows), some (En (α := Tp Int) prices), none, some (En (α := List (Dc Int)) opened), some (En (α := List Int) every), some (.cell 2), none, none, none, none, none, none, none, none, none, none, none, none, none, none, none], [.tab q_law, Cl (α := Int) well, Cl (α := Int) v]⟩) R_law (law_10 well costs line rows prices opened every moment alive)) := by
  obtain ⟨q309_, q339_⟩ := h
  exact wss_sn (sn_set (i := 12) sc_law.nd (EV.be (En (α := Tp Int) (((every).filter (fun (z308 : Int) => !decide (z308 ∈ alive))).map (fun (z308 : Int) => z308))) (ev_tupL (ds := List.map (Enc.enc (α := Int)) (((every).filter (fun (z308 : Int) => !decide (z308 ∈ alive))).map (fun (z308 : Int) => z308))) B.tuple (lc_any (α := Int) (β := Int) (xs := every) (p := fun (z308 : Int) => !decide (z308 ∈ alive)) (f := fun (z308 : Int) => z308) (sl' := fun (z308 : Int) => [none, some (.cell 1), none, some (En (α := Tp (Int × Int)) line), some (En (α := Tp (T3 Int Int Int)) rows), some (En (α := Tp Int) prices), none, some (En (α := List (Dc Int)) opened), some (En (α := List Int) every), some (.cell 2), some (En (α := Int) moment), some (En (α := Tp Int) alive), none, some (En (α := Int) z308), none, none, none, none, none, none, none, none, none, none, none]) [("w", 13)] (lcm_pe rfl sc_law.nd (blkOk_by rfl)) (ei_of (es_lst (ev_name (a := En (α := List Int) every) (i := 8)))) (fun _ _ => trivial) q309_ (fun _ _ _ _ _  z308 c308 => eg_name (i := 13) sc_law.nd) (fun _ _ _ _ _  z308 c308 hm308 => ets_one (et_nin (is := alive) (ev_name (a := En (α := Int) z308) (i := 13)) (ev_name (a := En (α := Tp Int) alive) (i := 11)) (.inr (rdt (α := Int))))) (fun _ _ _ _ _  z308 c308 hm308 hp308 => ev_name (a := En (α := Int) z308) (i := 13))) ((rdl (α := Int)))))) (law_11_w B D_l_well D_l_line D_l_windows D_l_open D_l_lots D_l_one D_l_moments D_l_meet D_l_like D_l_dip DK_fewest_moved_0 D_is_enough_moved D_fewest_moved D_alive_at D_price_for DK_alive_at_1 D_moved_for D_l_mixed hr hB hGB hZ hcd TB RT TH FA FM ga gm DR_price well costs line rows prices opened every moment alive (((every).filter (fun (z308 : Int) => !decide (z308 ∈ alive))).map (fun (z308 : Int) => z308)) q339_)
def law_9 (well : List Int) (costs : List Int) (line : List (Int × Int)) (rows : List (Int × Int × Int)) (prices : List Int) (opened : List (List (Int × Int))) (every : List Int) (moment : Int) : Flow' Bool (List Int) := law_10 well costs line rows prices opened every moment (sortI ((sortI ((gI opened moment).map (fun (z : Int × Int) => z.1))).map (fun (z303 : Int) => (dgetO (gI opened moment) z303).getD default)))
def law_9P (well : List Int) (costs : List Int) (line : List (Int × Int)) (rows : List (Int × Int × Int)) (prices : List Int) (opened : List (List (Int × Int))) (every : List Int) (moment : Int) : Prop := (InR moment (opened).length) ∧ ((gI opened moment).length < 64) ∧ (∀ z303 ∈ (sortI ((gI opened moment).map (fun (z : Int × Int) => z.1))), (InR moment (opened).length) ∧ ((dgetO (gI opened moment) z303).isSome = true)) ∧ ((sortI ((gI opened moment).map (fun (z : Int × Int) => z.1))).length ≤ 100000) ∧ (law_10P well costs line rows prices opened every moment (sortI ((sortI ((gI opened moment).map (fun (z : Int × Int) => z.1))).map (fun (z303 : Int) => (dgetO (gI opened moment) z303).getD default))))
theorem law_9_w (well : List Int) (costs : List Int) (line : List (Int × Int)) (rows : List (Int × Int × Int)) (prices : List Int) (opened : List (List (Int × Int))) (every : List Int) (moment : Int) (h : law_9P well costs line rows prices opened every moment) : WSs (X_law P w K mg base f cdv Ar outer s H E) G ⟨[none, some (.cell 1), none, some (En (α := Tp (Int × Int)) line), some (En (α := Tp (T3 Int Int Int)) rows), some (En (α := Tp Int) prices), none, some (En (α := List (Dc Int)) opened), some (En (α := List Int) every), some (.cell 2), some (En (α := Int) moment), none, none, none, none, none, none, none, none, none, none, none, none, none, none], [.tab q_law, Cl (α := Int) well, Cl (α := Int) costs]⟩ (forB ((defBody s_law).getD 7 passS)) (EndL (ρ := Bool) (fun (v : (List Int)) => ⟨[none, some (.cell 1), none, some (En (α := Tp (Int × Int)) line), some (En (α := Tp (T3 Int Int Int)) rows), some (En (α := Tp Int) prices), none, some (En (α := List (Dc Int)) opened), some (En (α := List Int) every), some (.cell 2), none, none, none, none, none, none, none, none, none, none, none, none, none, none, none], [.tab q_law, Cl (α := Int) well, Cl (α := Int) v]⟩) R_law (law_9 well costs line rows prices opened every moment)) := by
  obtain ⟨q301_, q302_, q306_, q307_, q340_⟩ := h
  exact wss_sn (sn_set (i := 11) sc_law.nd (EV.be (En (α := Tp Int) (sortI ((sortI ((gI opened moment).map (fun (z : Int × Int) => z.1))).map (fun (z303 : Int) => (dgetO (gI opened moment) z303).getD default)))) (ev_tupL (ds := List.map (Enc.enc (α := Int)) (sortI ((sortI ((gI opened moment).map (fun (z : Int × Int) => z.1))).map (fun (z303 : Int) => (dgetO (gI opened moment) z303).getD default)))) B.tuple (ev_sortI (is := (sortI ((gI opened moment).map (fun (z : Int × Int) => z.1))).map (fun (z303 : Int) => (dgetO (gI opened moment) z303).getD default)) B.sorted (lc_all (α := Int) (β := Int) (xs := sortI ((gI opened moment).map (fun (z : Int × Int) => z.1))) (f := fun (z303 : Int) => (dgetO (gI opened moment) z303).getD default) (sl' := fun (z303 : Int) => [none, some (.cell 1), none, some (En (α := Tp (Int × Int)) line), some (En (α := Tp (T3 Int Int Int)) rows), some (En (α := Tp Int) prices), some (En (α := Int) z303), some (En (α := List (Dc Int)) opened), some (En (α := List Int) every), some (.cell 2), some (En (α := Int) moment), none, none, none, none, none, none, none, none, none, none, none, none, none, none]) [("lock", 6)] (lcm_pe rfl sc_law.nd (blkOk_by rfl)) (ei_of (es_lst (ev_sortK (α := Int) (d := gI opened moment) rfl B.sorted (ev_ixL (α := Dc Int) (xs := opened) (ev_name (a := En (α := List (Dc Int)) opened) (i := 7)) (ev_name (a := En (α := Int) moment) (i := 10)) ((rdl (α := Dc Int))) q301_) q302_))) (fun _ _ => trivial) q307_ (fun _ _ _ _ _  z303 c303 => eg_name (i := 6) sc_law.nd) (fun _ _ _ _ _  z303 c303 hm303 => ev_dget (α := Int) (d := (gI opened moment)) (hr.mono (by decide) : Room 0 _).u1 (ev_ixL (α := Dc Int) (xs := opened) (ev_name (a := En (α := List (Dc Int)) opened) (i := 7)) (ev_name (a := En (α := Int) moment) (i := 10)) ((rdl (α := Dc Int))) (q306_ z303 hm303).1) (ev_name (a := En (α := Int) z303) (i := 6)) (q306_ z303 hm303).2)) (rdl (α := Int))) ((rdl (α := Int)))))) (law_10_w B D_l_well D_l_line D_l_windows D_l_open D_l_lots D_l_one D_l_moments D_l_meet D_l_like D_l_dip DK_fewest_moved_0 D_is_enough_moved D_fewest_moved D_alive_at D_price_for DK_alive_at_1 D_moved_for D_l_mixed hr hB hGB hZ hcd TB RT TH FA FM ga gm DR_price well costs line rows prices opened every moment (sortI ((sortI ((gI opened moment).map (fun (z : Int × Int) => z.1))).map (fun (z303 : Int) => (dgetO (gI opened moment) z303).getD default))) q340_)
def law_25 (well : List Int) (costs : List Int) (cheap : List Int) (line : List (Int × Int)) (rows : List (Int × Int × Int)) (prices : List Int) (opened : List (List (Int × Int))) (every : List Int) (best : Option (Int × Int)) : Flow' Bool ((List Int) × (List Int)) := .ret false
def law_25P (well : List Int) (costs : List Int) (cheap : List Int) (line : List (Int × Int)) (rows : List (Int × Int × Int)) (prices : List Int) (opened : List (List (Int × Int))) (every : List Int) (best : Option (Int × Int)) : Prop := True
theorem law_25_w (well : List Int) (costs : List Int) (cheap : List Int) (line : List (Int × Int)) (rows : List (Int × Int × Int)) (prices : List Int) (opened : List (List (Int × Int))) (every : List Int) (best : Option (Int × Int)) (h : law_25P well costs cheap line rows prices opened every best) : WSs (X_law P w K mg base f cdv Ar outer s H E) G ⟨[none, some (.cell 1), none, some (En (α := Tp (Int × Int)) line), some (En (α := Tp (T3 Int Int Int)) rows), some (En (α := Tp Int) prices), none, some (En (α := List (Dc Int)) opened), some (En (α := List Int) every), some (.cell 2), none, none, none, none, none, some (En (α := Option (Int × Int)) best), some (.cell 3), none, none, none, none, none, none, none, none], [.tab q_law, Cl (α := Int) well, Cl (α := Int) costs, Cl (α := Int) cheap]⟩ (ifA ((ifA ((forB ((defBody s_law).getD 9 passS)).getD 4 passS)).getD 0 passS)) (Thn (X_law P w K mg base f cdv Ar outer s H E) G ((ifA ((forB ((defBody s_law).getD 9 passS)).getD 4 passS)).drop 1) (Thn (X_law P w K mg base f cdv Ar outer s H E) G ((forB ((defBody s_law).getD 9 passS)).drop 5) (EndL (ρ := Bool) (fun (v : (List Int) × (List Int)) => ⟨[none, some (.cell 1), none, some (En (α := Tp (Int × Int)) line), some (En (α := Tp (T3 Int Int Int)) rows), some (En (α := Tp Int) prices), none, some (En (α := List (Dc Int)) opened), some (En (α := List Int) every), some (.cell 2), none, none, none, none, none, some (En (α := Option (Int × Int)) best), some (.cell 3), none, none, none, none, none, none, none, none], [.tab q_law, Cl (α := Int) v.1, Cl (α := Int) costs, Cl (α := Int) v.2]⟩) R_law)) (law_25 well costs cheap line rows prices opened every best)) := by
  exact wss_ret (ev_bl) ⟨_, rfl, ret_dat⟩
def law_24 (well : List Int) (costs : List Int) (cheap : List Int) (line : List (Int × Int)) (rows : List (Int × Int × Int)) (prices : List Int) (opened : List (List (Int × Int))) (every : List Int) (best : Option (Int × Int)) (lot : List Int) (fine : Bool) : Flow' Bool ((List Int) × (List Int)) := cond (!(v_l_like (α := Bool) (v_is_enough_moved line ((v_l_mixed (α := Int) well lot).1)) fine)) (law_25 ((v_l_mixed (α := Int) well lot).2) costs cheap line rows prices opened every best) (.next ((v_l_mixed (α := Int) well lot).2, cheap))
def law_24P (well : List Int) (costs : List Int) (cheap : List Int) (line : List (Int × Int)) (rows : List (Int × Int × Int)) (prices : List Int) (opened : List (List (Int × Int))) (every : List Int) (best : Option (Int × Int)) (lot : List Int) (fine : Bool) : Prop := (P_l_mixed (α := Int) well lot) ∧ (P_is_enough_moved line ((v_l_mixed (α := Int) well lot).1)) ∧ (P_l_like (α := Bool) (v_is_enough_moved line ((v_l_mixed (α := Int) well lot).1)) fine) ∧ ((!(v_l_like (α := Bool) (v_is_enough_moved line ((v_l_mixed (α := Int) well lot).1)) fine)) = true → (law_25P ((v_l_mixed (α := Int) well lot).2) costs cheap line rows prices opened every best))
theorem law_24_w (well : List Int) (costs : List Int) (cheap : List Int) (line : List (Int × Int)) (rows : List (Int × Int × Int)) (prices : List Int) (opened : List (List (Int × Int))) (every : List Int) (best : Option (Int × Int)) (lot : List Int) (fine : Bool) (h : law_24P well costs cheap line rows prices opened every best lot fine) : WSs (X_law P w K mg base f cdv Ar outer s H E) G ⟨[none, some (.cell 1), none, some (En (α := Tp (Int × Int)) line), some (En (α := Tp (T3 Int Int Int)) rows), some (En (α := Tp Int) prices), none, some (En (α := List (Dc Int)) opened), some (En (α := List Int) every), some (.cell 2), none, none, none, none, none, some (En (α := Option (Int × Int)) best), some (.cell 3), some (En (α := Tp Int) lot), none, some (En (α := Bool) fine), none, none, none, none, none], [.tab q_law, Cl (α := Int) well, Cl (α := Int) costs, Cl (α := Int) cheap]⟩ (ifA ((forB ((defBody s_law).getD 9 passS)).getD 4 passS)) (Thn (X_law P w K mg base f cdv Ar outer s H E) G ((forB ((defBody s_law).getD 9 passS)).drop 5) (EndL (ρ := Bool) (fun (v : (List Int) × (List Int)) => ⟨[none, some (.cell 1), none, some (En (α := Tp (Int × Int)) line), some (En (α := Tp (T3 Int Int Int)) rows), some (En (α := Tp Int) prices), none, some (En (α := List (Dc Int)) opened), some (En (α := List Int) every), some (.cell 2), none, none, none, none, none, some (En (α := Option (Int × Int)) best), some (.cell 3), none, none, none, none, none, none, none, none], [.tab q_law, Cl (α := Int) v.1, Cl (α := Int) costs, Cl (α := Int) v.2]⟩) R_law) (law_24 well costs cheap line rows prices opened every best lot fine)) := by
  obtain ⟨q362_, q363_, q364_, q367_⟩ := h
  exact wss_ifM (Thn (X_law P w K mg base f cdv Ar outer s H E) G ((forB ((defBody s_law).getD 9 passS)).drop 5) (EndL (ρ := Bool) (fun (v : (List Int) × (List Int)) => ⟨[none, some (.cell 1), none, some (En (α := Tp (Int × Int)) line), some (En (α := Tp (T3 Int Int Int)) rows), some (En (α := Tp Int) prices), none, some (En (α := List (Dc Int)) opened), some (En (α := List Int) every), some (.cell 2), none, none, none, none, none, some (En (α := Option (Int × Int)) best), some (.cell 3), none, none, none, none, none, none, none, none], [.tab q_law, Cl (α := Int) v.1, Cl (α := Int) costs, Cl (α := Int) v.2]⟩) R_law)) (p := !(v_l_like (α := Bool) (v_is_enough_moved line ((v_l_mixed (α := Int) well lot).1)) fine)) (m1 := law_25 ((v_l_mixed (α := Int) well lot).2) costs cheap line rows prices opened every best) (m2 := .next ((v_l_mixed (α := Int) well lot).2, cheap)) rfl (et_not (et_B (ev_cf (φ := φ_l_like) (ds := [Enc.enc (α := Bool) (v_is_enough_moved line ((v_l_mixed (α := Int) well lot).1)), Enc.enc (α := Bool) fine]) (r := Enc.enc (α := Bool) (v_l_like (α := Bool) (v_is_enough_moved line ((v_l_mixed (α := Int) well lot).1)) fine)) D_l_like (hr.mono (by decide)) pass0 (ea_cons (ev_cf (φ := φ_is_enough_moved) (ds := [Enc.enc (α := Tp (Int × Int)) line, Enc.enc (α := Tp Int) ((v_l_mixed (α := Int) well lot).1)]) (r := Enc.enc (α := Bool) (v_is_enough_moved line ((v_l_mixed (α := Int) well lot).1))) D_is_enough_moved (hr.mono (by decide)) pass0 (ea_cons (ev_name (a := En (α := Tp (Int × Int)) line) (i := 3)) (ea_cons (EV.be (En (α := Tp Int) ((v_l_mixed (α := Int) well lot).1)) (ev_tupL (ds := List.map (Enc.enc (α := Int)) ((v_l_mixed (α := Int) well lot).1)) B.tuple (ev_cf1 (φ := φ_l_mixed) (j := 1) (α := Int) (xs := well) (ys := (v_l_mixed (α := Int) well lot).2) (args := [.cell 0, En (α := List Int) lot]) (r := Enc.enc (α := List Int) ((v_l_mixed (α := Int) well lot).1)) D_l_mixed (hr.mono (by decide)) pass0 (ea_cons (ev_name (a := .cell 1) (i := 1)) (ea_cons (EV.be (En (α := List Int) lot) (ev_list (ds := List.map (Enc.enc (α := Int)) lot) B.list (ev_name (a := En (α := Tp Int) lot) (i := 17)) (.inr (rdt (α := Int))))) (ea_nil))) ⟨_, _, _, _, _, well, lot, rfl, rfl, q362_, rfl, rfl⟩ (fun k h => by simp at h) rfl) ((rdl (α := Int))))) (ea_nil))) ⟨line, ((v_l_mixed (α := Int) well lot).1), rfl, rfl, q363_, rfl, rfl⟩) (ea_cons (ev_name (a := En (α := Bool) fine) (i := 19)) (ea_nil))) ⟨_, _, (v_is_enough_moved line ((v_l_mixed (α := Int) well lot).1)), fine, rfl, rfl, q364_, rfl, rfl⟩))) (fun hp366_ => wss_fg (fg_of (by exact And.intro (Or.inl rfl) (And.intro (Or.inr rfl) (And.intro (Or.inl rfl) (And.intro (Or.inr rfl) (And.intro (Or.inr rfl) (And.intro (Or.inr rfl) (And.intro (Or.inl rfl) (And.intro (Or.inr rfl) (And.intro (Or.inr rfl) (And.intro (Or.inr rfl) (And.intro (Or.inl rfl) (And.intro (Or.inl rfl) (And.intro (Or.inl rfl) (And.intro (Or.inl rfl) (And.intro (Or.inl rfl) (And.intro (Or.inr rfl) (And.intro (Or.inr rfl) (And.intro (Or.inl rfl) (And.intro (Or.inl rfl) (And.intro (Or.inl rfl) (And.intro (Or.inl rfl) (And.intro (Or.inl rfl) (And.intro (Or.inl rfl) (And.intro (Or.inl rfl) (And.intro (Or.inl rfl) (True.intro))))))))))))))))))))))))))) (law_25_w B D_l_well D_l_line D_l_windows D_l_open D_l_lots D_l_one D_l_moments D_l_meet D_l_like D_l_dip DK_fewest_moved_0 D_is_enough_moved D_fewest_moved D_alive_at D_price_for DK_alive_at_1 D_moved_for D_l_mixed hr hB hGB hZ hcd TB RT TH FA FM ga gm DR_price ((v_l_mixed (α := Int) well lot).2) costs cheap line rows prices opened every best (q367_ hp366_))) (fun hp368_ => end_thn (S' := ⟨[none, some (.cell 1), none, some (En (α := Tp (Int × Int)) line), some (En (α := Tp (T3 Int Int Int)) rows), some (En (α := Tp Int) prices), none, some (En (α := List (Dc Int)) opened), some (En (α := List Int) every), some (.cell 2), none, none, none, none, none, some (En (α := Option (Int × Int)) best), some (.cell 3), none, none, none, none, none, none, none, none], [.tab q_law, Cl (α := Int) ((v_l_mixed (α := Int) well lot).2), Cl (α := Int) costs, Cl (α := Int) cheap]⟩) (fg_of (by exact And.intro (Or.inl rfl) (And.intro (Or.inr rfl) (And.intro (Or.inl rfl) (And.intro (Or.inr rfl) (And.intro (Or.inr rfl) (And.intro (Or.inr rfl) (And.intro (Or.inl rfl) (And.intro (Or.inr rfl) (And.intro (Or.inr rfl) (And.intro (Or.inr rfl) (And.intro (Or.inl rfl) (And.intro (Or.inl rfl) (And.intro (Or.inl rfl) (And.intro (Or.inl rfl) (And.intro (Or.inl rfl) (And.intro (Or.inr rfl) (And.intro (Or.inr rfl) (And.intro (Or.inl rfl) (And.intro (Or.inl rfl) (And.intro (Or.inl rfl) (And.intro (Or.inl rfl) (And.intro (Or.inl rfl) (And.intro (Or.inl rfl) (And.intro (Or.inl rfl) (And.intro (Or.inl rfl) (True.intro))))))))))))))))))))))))))) (end_thn (S' := ⟨[none, some (.cell 1), none, some (En (α := Tp (Int × Int)) line), some (En (α := Tp (T3 Int Int Int)) rows), some (En (α := Tp Int) prices), none, some (En (α := List (Dc Int)) opened), some (En (α := List Int) every), some (.cell 2), none, none, none, none, none, some (En (α := Option (Int × Int)) best), some (.cell 3), none, none, none, none, none, none, none, none], [.tab q_law, Cl (α := Int) ((v_l_mixed (α := Int) well lot).2), Cl (α := Int) costs, Cl (α := Int) cheap]⟩) (fg_of (by exact And.intro (Or.inl rfl) (And.intro (Or.inr rfl) (And.intro (Or.inl rfl) (And.intro (Or.inr rfl) (And.intro (Or.inr rfl) (And.intro (Or.inr rfl) (And.intro (Or.inl rfl) (And.intro (Or.inr rfl) (And.intro (Or.inr rfl) (And.intro (Or.inr rfl) (And.intro (Or.inl rfl) (And.intro (Or.inl rfl) (And.intro (Or.inl rfl) (And.intro (Or.inl rfl) (And.intro (Or.inl rfl) (And.intro (Or.inr rfl) (And.intro (Or.inr rfl) (And.intro (Or.inl rfl) (And.intro (Or.inl rfl) (And.intro (Or.inl rfl) (And.intro (Or.inl rfl) (And.intro (Or.inl rfl) (And.intro (Or.inl rfl) (And.intro (Or.inl rfl) (And.intro (Or.inl rfl) (True.intro))))))))))))))))))))))))))) (end_nx ⟨_, rfl, fg_of (by exact And.intro (Or.inl rfl) (And.intro (Or.inr rfl) (And.intro (Or.inl rfl) (And.intro (Or.inr rfl) (And.intro (Or.inr rfl) (And.intro (Or.inr rfl) (And.intro (Or.inl rfl) (And.intro (Or.inr rfl) (And.intro (Or.inr rfl) (And.intro (Or.inr rfl) (And.intro (Or.inl rfl) (And.intro (Or.inl rfl) (And.intro (Or.inl rfl) (And.intro (Or.inl rfl) (And.intro (Or.inl rfl) (And.intro (Or.inr rfl) (And.intro (Or.inr rfl) (And.intro (Or.inl rfl) (And.intro (Or.inl rfl) (And.intro (Or.inl rfl) (And.intro (Or.inl rfl) (And.intro (Or.inl rfl) (And.intro (Or.inl rfl) (And.intro (Or.inl rfl) (And.intro (Or.inl rfl) (True.intro))))))))))))))))))))))))))⟩)))
def law_23 (well : List Int) (costs : List Int) (cheap : List Int) (line : List (Int × Int)) (rows : List (Int × Int × Int)) (prices : List Int) (opened : List (List (Int × Int))) (every : List Int) (best : Option (Int × Int)) (lot : List Int) (fine : Bool) : Flow' Bool ((List Int) × (List Int)) := cond ((decide (((v_l_dip well (4 : Int)).1) = (0 : Int))) || (decide ((rows.length : Int) < ((lot.length : Int) + (2 : Int))))) (law_24 ((v_l_dip well (4 : Int)).2) costs cheap line rows prices opened every best lot fine) (.next ((v_l_dip well (4 : Int)).2, cheap))
def law_23P (well : List Int) (costs : List Int) (cheap : List Int) (line : List (Int × Int)) (rows : List (Int × Int × Int)) (prices : List Int) (opened : List (List (Int × Int))) (every : List Int) (best : Option (Int × Int)) (lot : List Int) (fine : Bool) : Prop := (P_l_dip well (4 : Int)) ∧ (((decide (((v_l_dip well (4 : Int)).1) = (0 : Int))) || (decide ((rows.length : Int) < ((lot.length : Int) + (2 : Int))))) = true → (law_24P ((v_l_dip well (4 : Int)).2) costs cheap line rows prices opened every best lot fine))
theorem law_23_w (well : List Int) (costs : List Int) (cheap : List Int) (line : List (Int × Int)) (rows : List (Int × Int × Int)) (prices : List Int) (opened : List (List (Int × Int))) (every : List Int) (best : Option (Int × Int)) (lot : List Int) (fine : Bool) (h : law_23P well costs cheap line rows prices opened every best lot fine) : WSs (X_law P w K mg base f cdv Ar outer s H E) G ⟨[none, some (.cell 1), none, some (En (α := Tp (Int × Int)) line), some (En (α := Tp (T3 Int Int Int)) rows), some (En (α := Tp Int) prices), none, some (En (α := List (Dc Int)) opened), some (En (α := List Int) every), some (.cell 2), none, none, none, none, none, some (En (α := Option (Int × Int)) best), some (.cell 3), some (En (α := Tp Int) lot), none, some (En (α := Bool) fine), none, none, none, none, none], [.tab q_law, Cl (α := Int) well, Cl (α := Int) costs, Cl (α := Int) cheap]⟩ ((forB ((defBody s_law).getD 9 passS)).drop 4) (EndL (ρ := Bool) (fun (v : (List Int) × (List Int)) => ⟨[none, some (.cell 1), none, some (En (α := Tp (Int × Int)) line), some (En (α := Tp (T3 Int Int Int)) rows), some (En (α := Tp Int) prices), none, some (En (α := List (Dc Int)) opened), some (En (α := List Int) every), some (.cell 2), none, none, none, none, none, some (En (α := Option (Int × Int)) best), some (.cell 3), none, none, none, none, none, none, none, none], [.tab q_law, Cl (α := Int) v.1, Cl (α := Int) costs, Cl (α := Int) v.2]⟩) R_law (law_23 well costs cheap line rows prices opened every best lot fine)) := by
  obtain ⟨q360_, q371_⟩ := h
  exact wss_ifM (EndL (ρ := Bool) (fun (v : (List Int) × (List Int)) => ⟨[none, some (.cell 1), none, some (En (α := Tp (Int × Int)) line), some (En (α := Tp (T3 Int Int Int)) rows), some (En (α := Tp Int) prices), none, some (En (α := List (Dc Int)) opened), some (En (α := List Int) every), some (.cell 2), none, none, none, none, none, some (En (α := Option (Int × Int)) best), some (.cell 3), none, none, none, none, none, none, none, none], [.tab q_law, Cl (α := Int) v.1, Cl (α := Int) costs, Cl (α := Int) v.2]⟩) R_law) (p := (decide (((v_l_dip well (4 : Int)).1) = (0 : Int))) || (decide ((rows.length : Int) < ((lot.length : Int) + (2 : Int))))) (m1 := law_24 ((v_l_dip well (4 : Int)).2) costs cheap line rows prices opened every best lot fine) (m2 := .next ((v_l_dip well (4 : Int)).2, cheap)) rfl (et_w (ew_or (p := decide (((v_l_dip well (4 : Int)).1) = (0 : Int))) (q := decide ((rows.length : Int) < ((lot.length : Int) + (2 : Int)))) (et_eqI (ev_cf1 (φ := φ_l_dip) (j := 1) (α := Int) (xs := well) (ys := (v_l_dip well (4 : Int)).2) (args := [.cell 0, En (α := Int) (4 : Int)]) (r := Enc.enc (α := Int) ((v_l_dip well (4 : Int)).1)) D_l_dip (hr.mono (by decide)) pass0 (ea_cons (ev_name (a := .cell 1) (i := 1)) (ea_cons (ev_int) (ea_nil))) ⟨well, (4 : Int), rfl, rfl, q360_, rfl, rfl⟩ (fun k h => by simp at h) rfl) (ev_int)) (fun hp361_ => ew_or1 (et_gt (ev_add (ev_len (α := Int) (xs := lot) B.len (ev_name (a := En (α := Tp Int) lot) (i := 17)) (.inr (rdt (α := Int)))) (ev_int)) (ev_len (α := T3 Int Int Int) (xs := rows) B.len (ev_name (a := En (α := Tp (T3 Int Int Int)) rows) (i := 4)) (.inr (rdt (α := T3 Int Int Int)))))))) (fun hp370_ => law_24_w B D_l_well D_l_line D_l_windows D_l_open D_l_lots D_l_one D_l_moments D_l_meet D_l_like D_l_dip DK_fewest_moved_0 D_is_enough_moved D_fewest_moved D_alive_at D_price_for DK_alive_at_1 D_moved_for D_l_mixed hr hB hGB hZ hcd TB RT TH FA FM ga gm DR_price ((v_l_dip well (4 : Int)).2) costs cheap line rows prices opened every best lot fine (q371_ hp370_)) (fun hp372_ => end_thn (S' := ⟨[none, some (.cell 1), none, some (En (α := Tp (Int × Int)) line), some (En (α := Tp (T3 Int Int Int)) rows), some (En (α := Tp Int) prices), none, some (En (α := List (Dc Int)) opened), some (En (α := List Int) every), some (.cell 2), none, none, none, none, none, some (En (α := Option (Int × Int)) best), some (.cell 3), none, none, none, none, none, none, none, none], [.tab q_law, Cl (α := Int) ((v_l_dip well (4 : Int)).2), Cl (α := Int) costs, Cl (α := Int) cheap]⟩) (fg_of (by exact And.intro (Or.inl rfl) (And.intro (Or.inr rfl) (And.intro (Or.inl rfl) (And.intro (Or.inr rfl) (And.intro (Or.inr rfl) (And.intro (Or.inr rfl) (And.intro (Or.inl rfl) (And.intro (Or.inr rfl) (And.intro (Or.inr rfl) (And.intro (Or.inr rfl) (And.intro (Or.inl rfl) (And.intro (Or.inl rfl) (And.intro (Or.inl rfl) (And.intro (Or.inl rfl) (And.intro (Or.inl rfl) (And.intro (Or.inr rfl) (And.intro (Or.inr rfl) (And.intro (Or.inl rfl) (And.intro (Or.inl rfl) (And.intro (Or.inl rfl) (And.intro (Or.inl rfl) (And.intro (Or.inl rfl) (And.intro (Or.inl rfl) (And.intro (Or.inl rfl) (And.intro (Or.inl rfl) (True.intro))))))))))))))))))))))))))) (end_nx ⟨_, rfl, fg_of (by exact And.intro (Or.inl rfl) (And.intro (Or.inr rfl) (And.intro (Or.inl rfl) (And.intro (Or.inr rfl) (And.intro (Or.inr rfl) (And.intro (Or.inr rfl) (And.intro (Or.inl rfl) (And.intro (Or.inr rfl) (And.intro (Or.inr rfl) (And.intro (Or.inr rfl) (And.intro (Or.inl rfl) (And.intro (Or.inl rfl) (And.intro (Or.inl rfl) (And.intro (Or.inl rfl) (And.intro (Or.inl rfl) (And.intro (Or.inr rfl) (And.intro (Or.inr rfl) (And.intro (Or.inl rfl) (And.intro (Or.inl rfl) (And.intro (Or.inl rfl) (And.intro (Or.inl rfl) (And.intro (Or.inl rfl) (And.intro (Or.inl rfl) (And.intro (Or.inl rfl) (And.intro (Or.inl rfl) (True.intro))))))))))))))))))))))))))⟩))
def law_26 (well : List Int) (costs : List Int) (cheap : List Int) (line : List (Int × Int)) (rows : List (Int × Int × Int)) (prices : List Int) (opened : List (List (Int × Int))) (every : List Int) (best : Option (Int × Int)) (lot : List Int) (fine : Bool) : Flow' Bool ((List Int) × (List Int)) := law_23 well costs (cheap ++ [((lot).map (fun (z373 : Int) => gI prices ((gI rows z373).1))).sum]) line rows prices opened every best lot fine
def law_26P (well : List Int) (costs : List Int) (cheap : List Int) (line : List (Int × Int)) (rows : List (Int × Int × Int)) (prices : List Int) (opened : List (List (Int × Int))) (every : List Int) (best : Option (Int × Int)) (lot : List Int) (fine : Bool) : Prop := (∀ z373 ∈ lot, (InR z373 (rows).length) ∧ (InR ((gI rows z373).1) (prices).length)) ∧ ((lot).length ≤ 100000) ∧ ((cheap).length < 100000) ∧ (law_23P well costs (cheap ++ [((lot).map (fun (z373 : Int) => gI prices ((gI rows z373).1))).sum]) line rows prices opened every best lot fine)
theorem law_26_w (well : List Int) (costs : List Int) (cheap : List Int) (line : List (Int × Int)) (rows : List (Int × Int × Int)) (prices : List Int) (opened : List (List (Int × Int))) (every : List Int) (best : Option (Int × Int)) (lot : List Int) (fine : Bool) (h : law_26P well costs cheap line rows prices opened every best lot fine) : WSs (X_law P w K mg base f cdv Ar outer s H E) G ⟨[none, some (.cell 1), none, some (En (α := Tp (Int × Int)) line), some (En (α := Tp (T3 Int Int Int)) rows), some (En (α := Tp Int) prices), none, some (En (α := List (Dc Int)) opened), some (En (α := List Int) every), some (.cell 2), none, none, none, none, none, some (En (α := Option (Int × Int)) best), some (.cell 3), some (En (α := Tp Int) lot), none, some (En (α := Bool) fine), none, none, none, none, none], [.tab q_law, Cl (α := Int) well, Cl (α := Int) costs, Cl (α := Int) cheap]⟩ (ifA ((forB ((defBody s_law).getD 9 passS)).getD 3 passS)) (Thn (X_law P w K mg base f cdv Ar outer s H E) G ((forB ((defBody s_law).getD 9 passS)).drop 4) (EndL (ρ := Bool) (fun (v : (List Int) × (List Int)) => ⟨[none, some (.cell 1), none, some (En (α := Tp (Int × Int)) line), some (En (α := Tp (T3 Int Int Int)) rows), some (En (α := Tp Int) prices), none, some (En (α := List (Dc Int)) opened), some (En (α := List Int) every), some (.cell 2), none, none, none, none, none, some (En (α := Option (Int × Int)) best), some (.cell 3), none, none, none, none, none, none, none, none], [.tab q_law, Cl (α := Int) v.1, Cl (α := Int) costs, Cl (α := Int) v.2]⟩) R_law) (law_26 well costs cheap line rows prices opened every best lot fine)) := by
  obtain ⟨q376_, q377_, q378_, q379_⟩ := h
  exact wss_sn (sn_expr (ev_append (α := Int) (xs0 := cheap) (xs := cheap) (u := ((lot).map (fun (z373 : Int) => gI prices ((gI rows z373).1))).sum) (ev_name (a := .cell 3) (i := 16)) (ev_sum (is := (lot).map (fun (z373 : Int) => gI prices ((gI rows z373).1))) rfl B.sum (lc_all (α := Int) (β := Int) (xs := lot) (f := fun (z373 : Int) => gI prices ((gI rows z373).1)) (sl' := fun (z373 : Int) => [none, some (.cell 1), none, some (En (α := Tp (Int × Int)) line), some (En (α := Tp (T3 Int Int Int)) rows), some (En (α := Tp Int) prices), none, some (En (α := List (Dc Int)) opened), some (En (α := List Int) every), some (.cell 2), none, none, none, some (En (α := Int) z373), none, some (En (α := Option (Int × Int)) best), some (.cell 3), some (En (α := Tp Int) lot), none, some (En (α := Bool) fine), none, none, none, none, none]) [("w", 13)] (lcm_pe rfl sc_law.nd (blkOk_by rfl)) (ei_of (es_tup (ev_name (a := En (α := Tp Int) lot) (i := 17)))) (fun _ _ => trivial) q377_ (fun _ _ _ _ _  z373 c373 => eg_name (i := 13) sc_law.nd) (fun _ _ _ _ _  z373 c373 hm373 => ev_ixT (α := Int) (xs := prices) (ev_name (a := En (α := Tp Int) prices) (i := 5)) (ev_part (j := 0) (ds := [Enc.enc (α := Int) ((gI rows z373).1), Enc.enc (α := Int) ((gI rows z373).2.1), Enc.enc (α := Int) ((gI rows z373).2.2)]) (ev_ixT (α := T3 Int Int Int) (xs := rows) (ev_name (a := En (α := Tp (T3 Int Int Int)) rows) (i := 4)) (ev_name (a := En (α := Int) z373) (i := 13)) ((rdt (α := T3 Int Int Int))) (q376_ z373 hm373).1) rfl) ((rdt (α := Int))) (q376_ z373 hm373).2)) (rdl (α := Int))) rfl rfl q378_)) (end_thn (S' := ⟨[none, some (.cell 1), none, some (En (α := Tp (Int × Int)) line), some (En (α := Tp (T3 Int Int Int)) rows), some (En (α := Tp Int) prices), none, some (En (α := List (Dc Int)) opened), some (En (α := List Int) every), some (.cell 2), none, none, none, none, none, some (En (α := Option (Int × Int)) best), some (.cell 3), some (En (α := Tp Int) lot), none, some (En (α := Bool) fine), none, none, none, none, none], [.tab q_law, Cl (α := Int) well, Cl (α := Int) costs, Cl (α := Int) (cheap ++ [((lot).map (fun (z373 : Int) => gI prices ((gI rows z373).1))).sum])]⟩) (fg_of (by exact And.intro (Or.inl rfl) (And.intro (Or.inr rfl) (And.intro (Or.inl rfl) (And.intro (Or.inr rfl) (And.intro (Or.inr rfl) (And.intro (Or.inr rfl) (And.intro (Or.inl rfl) (And.intro (Or.inr rfl) (And.intro (Or.inr rfl) (And.intro (Or.inr rfl) (And.intro (Or.inl rfl) (And.intro (Or.inl rfl) (And.intro (Or.inl rfl) (And.intro (Or.inl rfl) (And.intro (Or.inl rfl) (And.intro (Or.inr rfl) (And.intro (Or.inr rfl) (And.intro (Or.inr rfl) (And.intro (Or.inl rfl) (And.intro (Or.inr rfl) (And.intro (Or.inl rfl) (And.intro (Or.inl rfl) (And.intro (Or.inl rfl) (And.intro (Or.inl rfl) (And.intro (Or.inl rfl) (True.intro))))))))))))))))))))))))))) (law_23_w B D_l_well D_l_line D_l_windows D_l_open D_l_lots D_l_one D_l_moments D_l_meet D_l_like D_l_dip DK_fewest_moved_0 D_is_enough_moved D_fewest_moved D_alive_at D_price_for DK_alive_at_1 D_moved_for D_l_mixed hr hB hGB hZ hcd TB RT TH FA FM ga gm DR_price well costs (cheap ++ [((lot).map (fun (z373 : Int) => gI prices ((gI rows z373).1))).sum]) line rows prices opened every best lot fine q379_))
def law_22 (well : List Int) (costs : List Int) (cheap : List Int) (line : List (Int × Int)) (rows : List (Int × Int × Int)) (prices : List Int) (opened : List (List (Int × Int))) (every : List Int) (best : Option (Int × Int)) (lot : List Int) (fine : Bool) : Flow' Bool ((List Int) × (List Int)) := cond fine (law_26 well costs cheap line rows prices opened every best lot fine) (law_23 well costs cheap line rows prices opened every best lot fine)
def law_22P (well : List Int) (costs : List Int) (cheap : List Int) (line : List (Int × Int)) (rows : List (Int × Int × Int)) (prices : List Int) (opened : List (List (Int × Int))) (every : List Int) (best : Option (Int × Int)) (lot : List Int) (fine : Bool) : Prop := (fine = true → (law_26P well costs cheap line rows prices opened every best lot fine)) ∧ (fine = false → (law_23P well costs cheap line rows prices opened every best lot fine))
theorem law_22_w (well : List Int) (costs : List Int) (cheap : List Int) (line : List (Int × Int)) (rows : List (Int × Int × Int)) (prices : List Int) (opened : List (List (Int × Int))) (every : List Int) (best : Option (Int × Int)) (lot : List Int) (fine : Bool) (h : law_22P well costs cheap line rows prices opened every best lot fine) : WSs (X_law P w K mg base f cdv Ar outer s H E) G ⟨[none, some (.cell 1), none, some (En (α := Tp (Int × Int)) line), some (En (α := Tp (T3 Int Int Int)) rows), some (En (α := Tp Int) prices), none, some (En (α := List (Dc Int)) opened), some (En (α := List Int) every), some (.cell 2), none, none, none, none, none, some (En (α := Option (Int × Int)) best), some (.cell 3), some (En (α := Tp Int) lot), none, some (En (α := Bool) fine), none, none, none, none, none], [.tab q_law, Cl (α := Int) well, Cl (α := Int) costs, Cl (α := Int) cheap]⟩ ((forB ((defBody s_law).getD 9 passS)).drop 3) (EndL (ρ := Bool) (fun (v : (List Int) × (List Int)) => ⟨[none, some (.cell 1), none, some (En (α := Tp (Int × Int)) line), some (En (α := Tp (T3 Int Int Int)) rows), some (En (α := Tp Int) prices), none, some (En (α := List (Dc Int)) opened), some (En (α := List Int) every), some (.cell 2), none, none, none, none, none, some (En (α := Option (Int × Int)) best), some (.cell 3), none, none, none, none, none, none, none, none], [.tab q_law, Cl (α := Int) v.1, Cl (α := Int) costs, Cl (α := Int) v.2]⟩) R_law (law_22 well costs cheap line rows prices opened every best lot fine)) := by
  obtain ⟨q382_, q385_⟩ := h
  exact wss_ifM (EndL (ρ := Bool) (fun (v : (List Int) × (List Int)) => ⟨[none, some (.cell 1), none, some (En (α := Tp (Int × Int)) line), some (En (α := Tp (T3 Int Int Int)) rows), some (En (α := Tp Int) prices), none, some (En (α := List (Dc Int)) opened), some (En (α := List Int) every), some (.cell 2), none, none, none, none, none, some (En (α := Option (Int × Int)) best), some (.cell 3), none, none, none, none, none, none, none, none], [.tab q_law, Cl (α := Int) v.1, Cl (α := Int) costs, Cl (α := Int) v.2]⟩) R_law) (p := fine) (m1 := law_26 well costs cheap line rows prices opened every best lot fine) (m2 := law_23 well costs cheap line rows prices opened every best lot fine) rfl (et_B (ev_name (a := En (α := Bool) fine) (i := 19))) (fun hp381_ => law_26_w B D_l_well D_l_line D_l_windows D_l_open D_l_lots D_l_one D_l_moments D_l_meet D_l_like D_l_dip DK_fewest_moved_0 D_is_enough_moved D_fewest_moved D_alive_at D_price_for DK_alive_at_1 D_moved_for D_l_mixed hr hB hGB hZ hcd TB RT TH FA FM ga gm DR_price well costs cheap line rows prices opened every best lot fine (q382_ hp381_)) (fun hp384_ => end_thn (S' := ⟨[none, some (.cell 1), none, some (En (α := Tp (Int × Int)) line), some (En (α := Tp (T3 Int Int Int)) rows), some (En (α := Tp Int) prices), none, some (En (α := List (Dc Int)) opened), some (En (α := List Int) every), some (.cell 2), none, none, none, none, none, some (En (α := Option (Int × Int)) best), some (.cell 3), some (En (α := Tp Int) lot), none, some (En (α := Bool) fine), none, none, none, none, none], [.tab q_law, Cl (α := Int) well, Cl (α := Int) costs, Cl (α := Int) cheap]⟩) (fg_of (by exact And.intro (Or.inl rfl) (And.intro (Or.inr rfl) (And.intro (Or.inl rfl) (And.intro (Or.inr rfl) (And.intro (Or.inr rfl) (And.intro (Or.inr rfl) (And.intro (Or.inl rfl) (And.intro (Or.inr rfl) (And.intro (Or.inr rfl) (And.intro (Or.inr rfl) (And.intro (Or.inl rfl) (And.intro (Or.inl rfl) (And.intro (Or.inl rfl) (And.intro (Or.inl rfl) (And.intro (Or.inl rfl) (And.intro (Or.inr rfl) (And.intro (Or.inr rfl) (And.intro (Or.inr rfl) (And.intro (Or.inl rfl) (And.intro (Or.inr rfl) (And.intro (Or.inl rfl) (And.intro (Or.inl rfl) (And.intro (Or.inl rfl) (And.intro (Or.inl rfl) (And.intro (Or.inl rfl) (True.intro))))))))))))))))))))))))))) (law_23_w B D_l_well D_l_line D_l_windows D_l_open D_l_lots D_l_one D_l_moments D_l_meet D_l_like D_l_dip DK_fewest_moved_0 D_is_enough_moved D_fewest_moved D_alive_at D_price_for DK_alive_at_1 D_moved_for D_l_mixed hr hB hGB hZ hcd TB RT TH FA FM ga gm DR_price well costs cheap line rows prices opened every best lot fine (q385_ hp384_)))
def law_27 (well : List Int) (costs : List Int) (cheap : List Int) (line : List (Int × Int)) (rows : List (Int × Int × Int)) (prices : List Int) (opened : List (List (Int × Int))) (every : List Int) (best : Option (Int × Int)) (lot : List Int) (fine : Bool) : Flow' Bool ((List Int) × (List Int)) := .ret false
def law_27P (well : List Int) (costs : List Int) (cheap : List Int) (line : List (Int × Int)) (rows : List (Int × Int × Int)) (prices : List Int) (opened : List (List (Int × Int))) (every : List Int) (best : Option (Int × Int)) (lot : List Int) (fine : Bool) : Prop := True
theorem law_27_w (well : List Int) (costs : List Int) (cheap : List Int) (line : List (Int × Int)) (rows : List (Int × Int × Int)) (prices : List Int) (opened : List (List (Int × Int))) (every : List Int) (best : Option (Int × Int)) (lot : List Int) (fine : Bool) (h : law_27P well costs cheap line rows prices opened every best lot fine) : WSs (X_law P w K mg base f cdv Ar outer s H E) G ⟨[none, some (.cell 1), none, some (En (α := Tp (Int × Int)) line), some (En (α := Tp (T3 Int Int Int)) rows), some (En (α := Tp Int) prices), none, some (En (α := List (Dc Int)) opened), some (En (α := List Int) every), some (.cell 2), none, none, none, none, none, some (En (α := Option (Int × Int)) best), some (.cell 3), some (En (α := Tp Int) lot), none, some (En (α := Bool) fine), none, none, none, none, none], [.tab q_law, Cl (α := Int) well, Cl (α := Int) costs, Cl (α := Int) cheap]⟩ (ifA ((forB ((defBody s_law).getD 9 passS)).getD 2 passS)) (Thn (X_law P w K mg base f cdv Ar outer s H E) G ((forB ((defBody s_law).getD 9 passS)).drop 3) (EndL (ρ := Bool) (fun (v : (List Int) × (List Int)) => ⟨[none, some (.cell 1), none, some (En (α := Tp (Int × Int)) line), some (En (α := Tp (T3 Int Int Int)) rows), some (En (α := Tp Int) prices), none, some (En (α := List (Dc Int)) opened), some (En (α := List Int) every), some (.cell 2), none, none, none, none, none, some (En (α := Option (Int × Int)) best), some (.cell 3), none, none, none, none, none, none, none, none], [.tab q_law, Cl (α := Int) v.1, Cl (α := Int) costs, Cl (α := Int) v.2]⟩) R_law) (law_27 well costs cheap line rows prices opened every best lot fine)) := by
  exact wss_ret (ev_bl) ⟨_, rfl, ret_dat⟩
def law_21 (well : List Int) (costs : List Int) (cheap : List Int) (line : List (Int × Int)) (rows : List (Int × Int × Int)) (prices : List Int) (opened : List (List (Int × Int))) (every : List Int) (best : Option (Int × Int)) (lot : List Int) (left : List Int) (fine : Bool) : Flow' Bool ((List Int) × (List Int)) := cond (!decide (fine = ((decide (left = [])) || ((((opened).map (fun (z345 : List (Int × Int)) => sortI ((sortI (z345.map (fun (z : Int × Int) => z.1))).map (fun (z347 : Int) => (dgetO z345 z347).getD default)))).map (fun (z353 : List Int) => ((left).map (fun (z354 : Int) => decide (z354 ∈ z353))).all id)).any id)))) (law_27 well costs cheap line rows prices opened every best lot fine) (law_22 well costs cheap line rows prices opened every best lot fine)
def law_21P (well : List Int) (costs : List Int) (cheap : List Int) (line : List (Int × Int)) (rows : List (Int × Int × Int)) (prices : List Int) (opened : List (List (Int × Int))) (every : List Int) (best : Option (Int × Int)) (lot : List Int) (left : List Int) (fine : Bool) : Prop := ((decide (left = [])) = false → (∀ z345 ∈ opened, ((z345).length < 64) ∧ (∀ z347 ∈ (sortI (z345.map (fun (z : Int × Int) => z.1))), ((dgetO z345 z347).isSome = true)) ∧ ((sortI (z345.map (fun (z : Int × Int) => z.1))).length ≤ 100000)) ∧ ((opened).length ≤ 100000) ∧ (∀ z353 ∈ ((opened).map (fun (z345 : List (Int × Int)) => sortI ((sortI (z345.map (fun (z : Int × Int) => z.1))).map (fun (z347 : Int) => (dgetO z345 z347).getD default)))), ((left).length ≤ 100000)) ∧ (((opened).map (fun (z345 : List (Int × Int)) => sortI ((sortI (z345.map (fun (z : Int × Int) => z.1))).map (fun (z347 : Int) => (dgetO z345 z347).getD default)))).length ≤ 100000)) ∧ ((!decide (fine = ((decide (left = [])) || ((((opened).map (fun (z345 : List (Int × Int)) => sortI ((sortI (z345.map (fun (z : Int × Int) => z.1))).map (fun (z347 : Int) => (dgetO z345 z347).getD default)))).map (fun (z353 : List Int) => ((left).map (fun (z354 : Int) => decide (z354 ∈ z353))).all id)).any id)))) = true → (law_27P well costs cheap line rows prices opened every best lot fine)) ∧ ((!decide (fine = ((decide (left = [])) || ((((opened).map (fun (z345 : List (Int × Int)) => sortI ((sortI (z345.map (fun (z : Int × Int) => z.1))).map (fun (z347 : Int) => (dgetO z345 z347).getD default)))).map (fun (z353 : List Int) => ((left).map (fun (z354 : Int) => decide (z354 ∈ z353))).all id)).any id)))) = false → (law_22P well costs cheap line rows prices opened every best lot fine))
theorem law_21_w (well : List Int) (costs : List Int) (cheap : List Int) (line : List (Int × Int)) (rows : List (Int × Int × Int)) (prices : List Int) (opened : List (List (Int × Int))) (every : List Int) (best : Option (Int × Int)) (lot : List Int) (left : List Int) (fine : Bool) (h : law_21P well costs cheap line rows prices opened every best lot left fine) : WSs (X_law P w K mg base f cdv Ar outer s H E) G ⟨[none, some (.cell 1), none, some (En (α := Tp (Int × Int)) line), some (En (α := Tp (T3 Int Int Int)) rows), some (En (α := Tp Int) prices), none, some (En (α := List (Dc Int)) opened), some (En (α := List Int) every), some (.cell 2), none, none, none, none, none, some (En (α := Option (Int × Int)) best), some (.cell 3), some (En (α := Tp Int) lot), some (En (α := List Int) left), some (En (α := Bool) fine), none, none, none, none, none], [.tab q_law, Cl (α := Int) well, Cl (α := Int) costs, Cl (α := Int) cheap]⟩ ((forB ((defBody s_law).getD 9 passS)).drop 2) (EndL (ρ := Bool) (fun (v : (List Int) × (List Int)) => ⟨[none, some (.cell 1), none, some (En (α := Tp (Int × Int)) line), some (En (α := Tp (T3 Int Int Int)) rows), some (En (α := Tp Int) prices), none, some (En (α := List (Dc Int)) opened), some (En (α := List Int) every), some (.cell 2), none, none, none, none, none, some (En (α := Option (Int × Int)) best), some (.cell 3), none, none, none, none, none, none, none, none], [.tab q_law, Cl (α := Int) v.1, Cl (α := Int) costs, Cl (α := Int) v.2]⟩) R_law (law_21 well costs cheap line rows prices opened every best lot left fine)) := by
  obtain ⟨q359_, q388_, q391_⟩ := h
  exact wss_ifM (EndL (ρ := Bool) (fun (v : (List Int) × (List Int)) => ⟨[none, some (.cell 1), none, some (En (α := Tp (Int × Int)) line), some (En (α := Tp (T3 Int Int Int)) rows), some (En (α := Tp Int) prices), none, some (En (α := List (Dc Int)) opened), some (En (α := List Int) every), some (.cell 2), none, none, none, none, none, some (En (α := Option (Int × Int)) best), some (.cell 3), none, none, none, none, none, none, none, none], [.tab q_law, Cl (α := Int) v.1, Cl (α := Int) costs, Cl (α := Int) v.2]⟩) R_law) (p := !decide (fine = ((decide (left = [])) || ((((opened).map (fun (z345 : List (Int × Int)) => sortI ((sortI (z345.map (fun (z : Int × Int) => z.1))).map (fun (z347 : Int) => (dgetO z345 z347).getD default)))).map (fun (z353 : List Int) => ((left).map (fun (z354 : Int) => decide (z354 ∈ z353))).all id)).any id)))) (m1 := law_27 well costs cheap line rows prices opened every best lot fine) (m2 := law_22 well costs cheap line rows prices opened every best lot fine) rfl (et_neB (ev_name (a := En (α := Bool) fine) (i := 19)) (ev_or (p := decide (left = [])) (q := (((opened).map (fun (z345 : List (Int × Int)) => sortI ((sortI (z345.map (fun (z : Int × Int) => z.1))).map (fun (z347 : Int) => (dgetO z345 z347).getD default)))).map (fun (z353 : List Int) => ((left).map (fun (z354 : Int) => decide (z354 ∈ z353))).all id)).any id) (ev_eqL (α := Int) (xs := left) (ys := []) (hr.mono (by decide) : Room 0 _).units (ev_name (a := En (α := List Int) left) (i := 18)) (EV.be (En (α := List Int) []) (ev_lst (ds := []) ea_nil)) ((rdl (α := Int))) ((rdl (α := Int)))) (fun hp358_ => ev_b1 (ev_any (bs := ((opened).map (fun (z345 : List (Int × Int)) => sortI ((sortI (z345.map (fun (z : Int × Int) => z.1))).map (fun (z347 : Int) => (dgetO z345 z347).getD default)))).map (fun (z353 : List Int) => ((left).map (fun (z354 : Int) => decide (z354 ∈ z353))).all id)) rfl B.any (lc_all (α := List Int) (β := Bool) (xs := (opened).map (fun (z345 : List (Int × Int)) => sortI ((sortI (z345.map (fun (z : Int × Int) => z.1))).map (fun (z347 : Int) => (dgetO z345 z347).getD default)))) (f := fun (z353 : List Int) => ((left).map (fun (z354 : Int) => decide (z354 ∈ z353))).all id) (sl' := fun (z353 : List Int) => [none, some (.cell 1), none, some (En (α := Tp (Int × Int)) line), some (En (α := Tp (T3 Int Int Int)) rows), some (En (α := Tp Int) prices), none, some (En (α := List (Dc Int)) opened), some (En (α := List Int) every), some (.cell 2), none, none, none, none, none, some (En (α := Option (Int × Int)) best), some (.cell 3), some (En (α := Tp Int) lot), some (En (α := List Int) left), some (En (α := Bool) fine), some (En (α := List Int) z353), none, none, none, none]) [("lots", 20)] (lcm_pe rfl sc_law.nd (blkOk_by rfl)) (ei_of (es_lst (lc_all (α := Dc Int) (β := List Int) (xs := opened) (f := fun (z345 : List (Int × Int)) => sortI ((sortI (z345.map (fun (z : Int × Int) => z.1))).map (fun (z347 : Int) => (dgetO z345 z347).getD default))) (sl' := fun (z345 : List (Int × Int)) => [none, some (.cell 1), none, some (En (α := Tp (Int × Int)) line), some (En (α := Tp (T3 Int Int Int)) rows), some (En (α := Tp Int) prices), none, some (En (α := List (Dc Int)) opened), some (En (α := List Int) every), some (.cell 2), none, none, none, none, none, some (En (α := Option (Int × Int)) best), some (.cell 3), some (En (α := Tp Int) lot), some (En (α := List Int) left), some (En (α := Bool) fine), none, some (En (α := Dc Int) z345), none, none, none]) [("one", 21)] (lcm_pe rfl sc_law.nd (blkOk_by rfl)) (ei_of (es_lst (ev_name (a := En (α := List (Dc Int)) opened) (i := 7)))) (fun _ _ => trivial) (q359_ hp358_).2.1 (fun _ _ _ _ _  z345 c345 => eg_name (i := 21) sc_law.nd) (fun _ _ _ _ _  z345 c345 hm345 => ev_sortI (is := (sortI (z345.map (fun (z : Int × Int) => z.1))).map (fun (z347 : Int) => (dgetO z345 z347).getD default)) B.sorted (lc_all (α := Int) (β := Int) (xs := sortI (z345.map (fun (z : Int × Int) => z.1))) (f := fun (z347 : Int) => (dgetO z345 z347).getD default) (sl' := fun (z347 : Int) => [none, some (.cell 1), none, some (En (α := Tp (Int × Int)) line), some (En (α := Tp (T3 Int Int Int)) rows), some (En (α := Tp Int) prices), some (En (α := Int) z347), some (En (α := List (Dc Int)) opened), some (En (α := List Int) every), some (.cell 2), none, none, none, none, none, some (En (α := Option (Int × Int)) best), some (.cell 3), some (En (α := Tp Int) lot), some (En (α := List Int) left), some (En (α := Bool) fine), none, some (En (α := Dc Int) z345), none, none, none]) [("lock", 6)] (lcm_pe rfl sc_law.nd (blkOk_by rfl)) (ei_of (es_lst (ev_sortK (α := Int) (d := z345) rfl B.sorted (ev_name (a := En (α := Dc Int) z345) (i := 21)) ((q359_ hp358_).1 z345 hm345).1))) (fun _ _ => trivial) ((q359_ hp358_).1 z345 hm345).2.2 (fun _ _ _ _ _  z347 c347 => eg_name (i := 6) sc_law.nd) (fun _ _ _ _ _  z347 c347 hm347 => ev_dget (α := Int) (d := z345) (hr.mono (by decide) : Room 0 _).u1 (ev_name (a := En (α := Dc Int) z345) (i := 21)) (ev_name (a := En (α := Int) z347) (i := 6)) (((q359_ hp358_).1 z345 hm345).2.1 z347 hm347))) (rdl (α := Int)))))) (fun _ _ => trivial) (q359_ hp358_).2.2.2 (fun _ _ _ _ _  z353 c353 => eg_name (i := 20) sc_law.nd) (fun _ _ _ _ _  z353 c353 hm353 => ev_all (bs := (left).map (fun (z354 : Int) => decide (z354 ∈ z353))) rfl B.all (lc_all (α := Int) (β := Bool) (xs := left) (f := fun (z354 : Int) => decide (z354 ∈ z353)) (sl' := fun (z354 : Int) => [none, some (.cell 1), none, some (En (α := Tp (Int × Int)) line), some (En (α := Tp (T3 Int Int Int)) rows), some (En (α := Tp Int) prices), none, some (En (α := List (Dc Int)) opened), some (En (α := List Int) every), some (.cell 2), none, none, none, some (En (α := Int) z354), none, some (En (α := Option (Int × Int)) best), some (.cell 3), some (En (α := Tp Int) lot), some (En (α := List Int) left), some (En (α := Bool) fine), some (En (α := List Int) z353), none, none, none, none]) [("w", 13)] (lcm_pe rfl sc_law.nd (blkOk_by rfl)) (ei_of (es_lst (ev_name (a := En (α := List Int) left) (i := 18)))) (fun _ _ => trivial) ((q359_ hp358_).2.2.1 z353 hm353) (fun _ _ _ _ _  z354 c354 => eg_name (i := 13) sc_law.nd) (fun _ _ _ _ _  z354 c354 hm354 => ev_in (is := z353) (ev_name (a := En (α := Int) z354) (i := 13)) (ev_name (a := En (α := List Int) z353) (i := 20)) (.inl (rdl (α := Int))))) (rdl (α := Bool)))) (rdl (α := Bool)))))) (fun hp387_ => wss_fg (fg_of (by exact And.intro (Or.inl rfl) (And.intro (Or.inr rfl) (And.intro (Or.inl rfl) (And.intro (Or.inr rfl) (And.intro (Or.inr rfl) (And.intro (Or.inr rfl) (And.intro (Or.inl rfl) (And.intro (Or.inr rfl) (And.intro (Or.inr rfl) (And.intro (Or.inr rfl) (And.intro (Or.inl rfl) (And.intro (Or.inl rfl) (And.intro (Or.inl rfl) (And.intro (Or.inl rfl) (And.intro (Or.inl rfl) (And.intro (Or.inr rfl) (And.intro (Or.inr rfl) (And.intro (Or.inr rfl) (And.intro (Or.inl rfl) (And.intro (Or.inr rfl) (And.intro (Or.inl rfl) (And.intro (Or.inl rfl) (And.intro (Or.inl rfl) (And.intro (Or.inl rfl) (And.intro (Or.inl rfl) (True.intro))))))))))))))))))))))))))) (law_27_w B D_l_well D_l_line D_l_windows D_l_open D_l_lots D_l_one D_l_moments D_l_meet D_l_like D_l_dip DK_fewest_moved_0 D_is_enough_moved D_fewest_moved D_alive_at D_price_for DK_alive_at_1 D_moved_for D_l_mixed hr hB hGB hZ hcd TB RT TH FA FM ga gm DR_price well costs cheap line rows prices opened every best lot fine (q388_ hp387_))) (fun hp390_ => end_thn (S' := ⟨[none, some (.cell 1), none, some (En (α := Tp (Int × Int)) line), some (En (α := Tp (T3 Int Int Int)) rows), some (En (α := Tp Int) prices), none, some (En (α := List (Dc Int)) opened), some (En (α := List Int) every), some (.cell 2), none, none, none, none, none, some (En (α := Option (Int × Int)) best), some (.cell 3), some (En (α := Tp Int) lot), none, some (En (α := Bool) fine), none, none, none, none, none], [.tab q_law, Cl (α := Int) well, Cl (α := Int) costs, Cl (α := Int) cheap]⟩) (fg_of (by exact And.intro (Or.inl rfl) (And.intro (Or.inr rfl) (And.intro (Or.inl rfl) (And.intro (Or.inr rfl) (And.intro (Or.inr rfl) (And.intro (Or.inr rfl) (And.intro (Or.inl rfl) (And.intro (Or.inr rfl) (And.intro (Or.inr rfl) (And.intro (Or.inr rfl) (And.intro (Or.inl rfl) (And.intro (Or.inl rfl) (And.intro (Or.inl rfl) (And.intro (Or.inl rfl) (And.intro (Or.inl rfl) (And.intro (Or.inr rfl) (And.intro (Or.inr rfl) (And.intro (Or.inr rfl) (And.intro (Or.inl rfl) (And.intro (Or.inr rfl) (And.intro (Or.inl rfl) (And.intro (Or.inl rfl) (And.intro (Or.inl rfl) (And.intro (Or.inl rfl) (And.intro (Or.inl rfl) (True.intro))))))))))))))))))))))))))) (law_22_w B D_l_well D_l_line D_l_windows D_l_open D_l_lots D_l_one D_l_moments D_l_meet D_l_like D_l_dip DK_fewest_moved_0 D_is_enough_moved D_fewest_moved D_alive_at D_price_for DK_alive_at_1 D_moved_for D_l_mixed hr hB hGB hZ hcd TB RT TH FA FM ga gm DR_price well costs cheap line rows prices opened every best lot fine (q391_ hp390_)))
def law_20 (well : List Int) (costs : List Int) (cheap : List Int) (line : List (Int × Int)) (rows : List (Int × Int × Int)) (prices : List Int) (opened : List (List (Int × Int))) (every : List Int) (best : Option (Int × Int)) (lot : List Int) (left : List Int) : Flow' Bool ((List Int) × (List Int)) := law_21 well costs cheap line rows prices opened every best lot left (v_l_meet rows left)
def law_20P (well : List Int) (costs : List Int) (cheap : List Int) (line : List (Int × Int)) (rows : List (Int × Int × Int)) (prices : List Int) (opened : List (List (Int × Int))) (every : List Int) (best : Option (Int × Int)) (lot : List Int) (left : List Int) : Prop := (P_l_meet rows left) ∧ (law_21P well costs cheap line rows prices opened every best lot left (v_l_meet rows left))
theorem law_20_w (well : List Int) (costs : List Int) (cheap : List Int) (line : List (Int × Int)) (rows : List (Int × Int × Int)) (prices : List Int) (opened : List (List (Int × Int))) (every : List Int) (best : Option (Int × Int)) (lot : List Int) (left : List Int) (h : law_20P well costs cheap line rows prices opened every best lot left) : WSs (X_law P w K mg base f cdv Ar outer s H E) G ⟨[none, some (.cell 1), none, some (En (α := Tp (Int × Int)) line), some (En (α := Tp (T3 Int Int Int)) rows), some (En (α := Tp Int) prices), none, some (En (α := List (Dc Int)) opened), some (En (α := List Int) every), some (.cell 2), none, none, none, none, none, some (En (α := Option (Int × Int)) best), some (.cell 3), some (En (α := Tp Int) lot), some (En (α := List Int) left), none, none, none, none, none, none], [.tab q_law, Cl (α := Int) well, Cl (α := Int) costs, Cl (α := Int) cheap]⟩ ((forB ((defBody s_law).getD 9 passS)).drop 1) (EndL (ρ := Bool) (fun (v : (List Int) × (List Int)) => ⟨[none, some (.cell 1), none, some (En (α := Tp (Int × Int)) line), some (En (α := Tp (T3 Int Int Int)) rows), some (En (α := Tp Int) prices), none, some (En (α := List (Dc Int)) opened), some (En (α := List Int) every), some (.cell 2), none, none, none, none, none, some (En (α := Option (Int × Int)) best), some (.cell 3), none, none, none, none, none, none, none, none], [.tab q_law, Cl (α := Int) v.1, Cl (α := Int) costs, Cl (α := Int) v.2]⟩) R_law (law_20 well costs cheap line rows prices opened every best lot left)) := by
  obtain ⟨q344_, q392_⟩ := h
  exact wss_sn (sn_set (i := 19) sc_law.nd (ev_cf (φ := φ_l_meet) (ds := [Enc.enc (α := Tp (T3 Int Int Int)) rows, Enc.enc (α := List Int) left]) (r := Enc.enc (α := Bool) (v_l_meet rows left)) D_l_meet (hr.mono (by decide)) pass0 (ea_cons (ev_name (a := En (α := Tp (T3 Int Int Int)) rows) (i := 4)) (ea_cons (ev_name (a := En (α := List Int) left) (i := 18)) (ea_nil))) ⟨rows, left, rfl, rfl, q344_, rfl, rfl⟩)) (law_21_w B D_l_well D_l_line D_l_windows D_l_open D_l_lots D_l_one D_l_moments D_l_meet D_l_like D_l_dip DK_fewest_moved_0 D_is_enough_moved D_fewest_moved D_alive_at D_price_for DK_alive_at_1 D_moved_for D_l_mixed hr hB hGB hZ hcd TB RT TH FA FM ga gm DR_price well costs cheap line rows prices opened every best lot left (v_l_meet rows left) q392_)
def law_19 (well : List Int) (costs : List Int) (cheap : List Int) (line : List (Int × Int)) (rows : List (Int × Int × Int)) (prices : List Int) (opened : List (List (Int × Int))) (every : List Int) (best : Option (Int × Int)) (lot : List Int) : Flow' Bool ((List Int) × (List Int)) := law_20 well costs cheap line rows prices opened every best lot (((every).filter (fun (z342 : Int) => !decide (z342 ∈ lot))).map (fun (z342 : Int) => z342))
def law_19P (well : List Int) (costs : List Int) (cheap : List Int) (line : List (Int × Int)) (rows : List (Int × Int × Int)) (prices : List Int) (opened : List (List (Int × Int))) (every : List Int) (best : Option (Int × Int)) (lot : List Int) : Prop := ((every).length ≤ 100000) ∧ (law_20P well costs cheap line rows prices opened every best lot (((every).filter (fun (z342 : Int) => !decide (z342 ∈ lot))).map (fun (z342 : Int) => z342)))
theorem law_19_w (well : List Int) (costs : List Int) (cheap : List Int) (line : List (Int × Int)) (rows : List (Int × Int × Int)) (prices : List Int) (opened : List (List (Int × Int))) (every : List Int) (best : Option (Int × Int)) (lot : List Int) (h : law_19P well costs cheap line rows prices opened every best lot) : WSs (X_law P w K mg base f cdv Ar outer s H E) G ⟨[none, some (.cell 1), none, some (En (α := Tp (Int × Int)) line), some (En (α := Tp (T3 Int Int Int)) rows), some (En (α := Tp Int) prices), none, some (En (α := List (Dc Int)) opened), some (En (α := List Int) every), some (.cell 2), none, none, none, none, none, some (En (α := Option (Int × Int)) best), some (.cell 3), some (En (α := Tp Int) lot), none, none, none, none, none, none, none], [.tab q_law, Cl (α := Int) well, Cl (α := Int) costs, Cl (α := Int) cheap]⟩ (forB ((defBody s_law).getD 9 passS)) (EndL (ρ := Bool) (fun (v : (List Int) × (List Int)) => ⟨[none, some (.cell 1), none, some (En (α := Tp (Int × Int)) line), some (En (α := Tp (T3 Int Int Int)) rows), some (En (α := Tp Int) prices), none, some (En (α := List (Dc Int)) opened), some (En (α := List Int) every), some (.cell 2), none, none, none, none, none, some (En (α := Option (Int × Int)) best), some (.cell 3), none, none, none, none, none, none, none, none], [.tab q_law, Cl (α := Int) v.1, Cl (α := Int) costs, Cl (α := Int) v.2]⟩) R_law (law_19 well costs cheap line rows prices opened every best lot)) := by
  obtain ⟨q343_, q393_⟩ := h
  exact wss_sn (sn_set (i := 18) sc_law.nd (lc_any (α := Int) (β := Int) (xs := every) (p := fun (z342 : Int) => !decide (z342 ∈ lot)) (f := fun (z342 : Int) => z342) (sl' := fun (z342 : Int) => [none, some (.cell 1), none, some (En (α := Tp (Int × Int)) line), some (En (α := Tp (T3 Int Int Int)) rows), some (En (α := Tp Int) prices), none, some (En (α := List (Dc Int)) opened), some (En (α := List Int) every), some (.cell 2), none, none, none, some (En (α := Int) z342), none, some (En (α := Option (Int × Int)) best), some (.cell 3), some (En (α := Tp Int) lot), none, none, none, none, none, none, none]) [("w", 13)] (lcm_pe rfl sc_law.nd (blkOk_by rfl)) (ei_of (es_lst (ev_name (a := En (α := List Int) every) (i := 8)))) (fun _ _ => trivial) q343_ (fun _ _ _ _ _  z342 c342 => eg_name (i := 13) sc_law.nd) (fun _ _ _ _ _  z342 c342 hm342 => ets_one (et_nin (is := lot) (ev_name (a := En (α := Int) z342) (i := 13)) (ev_name (a := En (α := Tp Int) lot) (i := 17)) (.inr (rdt (α := Int))))) (fun _ _ _ _ _  z342 c342 hm342 hp342 => ev_name (a := En (α := Int) z342) (i := 13)))) (law_20_w B D_l_well D_l_line D_l_windows D_l_open D_l_lots D_l_one D_l_moments D_l_meet D_l_like D_l_dip DK_fewest_moved_0 D_is_enough_moved D_fewest_moved D_alive_at D_price_for DK_alive_at_1 D_moved_for D_l_mixed hr hB hGB hZ hcd TB RT TH FA FM ga gm DR_price well costs cheap line rows prices opened every best lot (((every).filter (fun (z342 : Int) => !decide (z342 ∈ lot))).map (fun (z342 : Int) => z342)) q393_)
def law_35 (cell1 : List Int) (cell2 : List Int) (cell3 : List Int) (line : List (Int × Int)) (prices : List Int) (many : Int) : Bool := decide (("layer" : Str) = ("layer" : Str))
def law_35P (cell1 : List Int) (cell2 : List Int) (cell3 : List Int) (line : List (Int × Int)) (prices : List Int) (many : Int) : Prop := (P_many_layers line ∧ v_many_layers line ≤ many ∧ P_locks_of line)
theorem law_35_w (cell1 : List Int) (cell2 : List Int) (cell3 : List Int) (line : List (Int × Int)) (prices : List Int) (many : Int) (h : law_35P cell1 cell2 cell3 line prices many) : WSs (X_law P w K mg base f cdv Ar outer s H E) G ⟨[none, none, none, some (En (α := Tp (Int × Int)) line), none, some (En (α := Tp Int) prices), none, none, none, none, none, none, none, none, none, none, none, none, none, none, none, none, some (En (α := Int) many), none, none], [.tab q_law, Cl (α := Int) cell1, Cl (α := Int) cell2, Cl (α := Int) cell3]⟩ ((defBody s_law).drop 17) (EndR R_law (law_35 cell1 cell2 cell3 line prices many)) := by
  have q410_ := h
  exact wss_ret (ev_eqS (ev_heardF (k := 5) (C := C) (fI := fI) (r := ("layer" : Str)) (S' := ⟨[none, none, none, some (En (α := Tp (Int × Int)) line), none, some (En (α := Tp Int) prices), none, none, none, none, none, none, none, none, none, none, none, none, none, none, none, none, some (En (α := Int) many), none, none], [.tab q_law, Cl (α := Int) cell1, Cl (α := Int) cell2, Cl (α := Int) cell3]⟩) TH RT TB hcd sc_l_heard rfl rfl rfl rfl (hr.mono (by decide)) (LamX.lamS_by rfl) rfl (fun _ _ _ _ _ => rfl) hGB rfl hZ (hu_of rfl) (fun A outer s H E f c' hr => er_callL (E := E) DR_price (hr.mono (by decide)) (passes_call (takes_of rfl rfl rfl rfl) (fun _ _ _ _ h => h)) (ds := [Enc.enc (α := Tp (Int × Int)) line, Enc.enc (α := Int) many, Enc.enc (α := Tp Int) prices]) (ea_cons (ev_name (a := En (α := Tp (Int × Int)) line) (i := 3)) (ea_cons (ev_name (a := En (α := Int) many) (i := 22)) (ea_cons (ev_name (a := En (α := Tp Int) prices) (i := 5)) (ea_nil)))) ⟨line, many, prices, rfl, q410_⟩)) (ev_str)) (ret_dat)
def law_36 (cell1 : List Int) (cell2 : List Int) (cell3 : List Int) (line : List (Int × Int)) (prices : List Int) (many : Int) : Bool := false
def law_36P (cell1 : List Int) (cell2 : List Int) (cell3 : List Int) (line : List (Int × Int)) (prices : List Int) (many : Int) : Prop := True
theorem law_36_w (cell1 : List Int) (cell2 : List Int) (cell3 : List Int) (line : List (Int × Int)) (prices : List Int) (many : Int) (h : law_36P cell1 cell2 cell3 line prices many) : WSs (X_law P w K mg base f cdv Ar outer s H E) G ⟨[none, none, none, some (En (α := Tp (Int × Int)) line), none, some (En (α := Tp Int) prices), none, none, none, none, none, none, none, none, none, none, none, none, none, none, none, none, some (En (α := Int) many), none, none], [.tab q_law, Cl (α := Int) cell1, Cl (α := Int) cell2, Cl (α := Int) cell3]⟩ (ifA ((defBody s_law).getD 16 passS)) (Thn (X_law P w K mg base f cdv Ar outer s H E) G ((defBody s_law).drop 17) (EndR R_law) (law_36 cell1 cell2 cell3 line prices many)) := by
  exact wss_ret (ev_bl) (ret_dat)
def law_34 (cell1 : List Int) (cell2 : List Int) (cell3 : List Int) (line : List (Int × Int)) (prices : List Int) (lock : Int) (many : Int) (long : List (Int × Int)) : Bool := cond ((!(v_l_like (α := Option (Int × Int)) (v_fewest_moved long [(3 : Int)]) (some ((3 : Int) * (((long.length : Int) / (2 : Int)) - (1 : Int)), (0 : Int))))) || (!(v_l_like (α := Tp Int) (v_alive_at long lock) [lock]))) (law_36 cell1 cell2 cell3 line prices many) (law_35 cell1 cell2 cell3 line prices many)
def law_34P (cell1 : List Int) (cell2 : List Int) (cell3 : List Int) (line : List (Int × Int)) (prices : List Int) (lock : Int) (many : Int) (long : List (Int × Int)) : Prop := (P_fewest_moved long [(3 : Int)]) ∧ (P_l_like (α := Option (Int × Int)) (v_fewest_moved long [(3 : Int)]) (some ((3 : Int) * (((long.length : Int) / (2 : Int)) - (1 : Int)), (0 : Int)))) ∧ ((!(v_l_like (α := Option (Int × Int)) (v_fewest_moved long [(3 : Int)]) (some ((3 : Int) * (((long.length : Int) / (2 : Int)) - (1 : Int)), (0 : Int))))) = false → (P_alive_at long lock) ∧ (P_l_like (α := Tp Int) (v_alive_at long lock) [lock])) ∧ (((!(v_l_like (α := Option (Int × Int)) (v_fewest_moved long [(3 : Int)]) (some ((3 : Int) * (((long.length : Int) / (2 : Int)) - (1 : Int)), (0 : Int))))) || (!(v_l_like (α := Tp Int) (v_alive_at long lock) [lock]))) = true → (law_36P cell1 cell2 cell3 line prices many)) ∧ (((!(v_l_like (α := Option (Int × Int)) (v_fewest_moved long [(3 : Int)]) (some ((3 : Int) * (((long.length : Int) / (2 : Int)) - (1 : Int)), (0 : Int))))) || (!(v_l_like (α := Tp Int) (v_alive_at long lock) [lock]))) = false → (law_35P cell1 cell2 cell3 line prices many))
theorem law_34_w (cell1 : List Int) (cell2 : List Int) (cell3 : List Int) (line : List (Int × Int)) (prices : List Int) (lock : Int) (many : Int) (long : List (Int × Int)) (h : law_34P cell1 cell2 cell3 line prices lock many long) : WSs (X_law P w K mg base f cdv Ar outer s H E) G ⟨[none, none, none, some (En (α := Tp (Int × Int)) line), none, some (En (α := Tp Int) prices), some (En (α := Int) lock), none, none, none, none, none, none, none, none, none, none, none, none, none, none, none, some (En (α := Int) many), none, some (En (α := Tp (Int × Int)) long)], [.tab q_law, Cl (α := Int) cell1, Cl (α := Int) cell2, Cl (α := Int) cell3]⟩ ((defBody s_law).drop 16) (EndR R_law (law_34 cell1 cell2 cell3 line prices lock many long)) := by
  obtain ⟨q404_, q405_, q409_, q413_, q416_⟩ := h
  exact wss_ifM (EndR R_law) (p := (!(v_l_like (α := Option (Int × Int)) (v_fewest_moved long [(3 : Int)]) (some ((3 : Int) * (((long.length : Int) / (2 : Int)) - (1 : Int)), (0 : Int))))) || (!(v_l_like (α := Tp Int) (v_alive_at long lock) [lock]))) (m1 := law_36 cell1 cell2 cell3 line prices many) (m2 := law_35 cell1 cell2 cell3 line prices many) rfl (et_w (ew_or (p := !(v_l_like (α := Option (Int × Int)) (v_fewest_moved long [(3 : Int)]) (some ((3 : Int) * (((long.length : Int) / (2 : Int)) - (1 : Int)), (0 : Int))))) (q := !(v_l_like (α := Tp Int) (v_alive_at long lock) [lock])) (et_not (et_B (ev_cf (φ := φ_l_like) (ds := [Enc.enc (α := Option (Int × Int)) (v_fewest_moved long [(3 : Int)]), Enc.enc (α := Option (Int × Int)) (some ((3 : Int) * (((long.length : Int) / (2 : Int)) - (1 : Int)), (0 : Int)))]) (r := Enc.enc (α := Bool) (v_l_like (α := Option (Int × Int)) (v_fewest_moved long [(3 : Int)]) (some ((3 : Int) * (((long.length : Int) / (2 : Int)) - (1 : Int)), (0 : Int))))) D_l_like (hr.mono (by decide)) pass0 (ea_cons (ev_cf (φ := φ_fewest_moved) (ds := [Enc.enc (α := Tp (Int × Int)) long, Enc.enc (α := Tp Int) [(3 : Int)]]) (r := Enc.enc (α := Option (Int × Int)) (v_fewest_moved long [(3 : Int)])) D_fewest_moved (hr.mono (by decide)) pass0 (ea_cons (ev_name (a := En (α := Tp (Int × Int)) long) (i := 24)) (ea_cons (EV.be (En (α := Tp Int) [(3 : Int)]) (ev_tup (ds := [Enc.enc (α := Int) (3 : Int)]) (ea_cons (ev_int) (ea_nil)))) (ea_nil))) ⟨long, [(3 : Int)], rfl, rfl, q404_, rfl, rfl⟩) (ea_cons (EV.be (En (α := Int × Int) ((3 : Int) * (((long.length : Int) / (2 : Int)) - (1 : Int)), (0 : Int))) (ev_tup (ds := [Enc.enc (α := Int) ((3 : Int) * (((long.length : Int) / (2 : Int)) - (1 : Int))), Enc.enc (α := Int) (0 : Int)]) (ea_cons (ev_mul (ev_int) (ev_sub (ev_fdiv (ev_len (α := Int × Int) (xs := long) B.len (ev_name (a := En (α := Tp (Int × Int)) long) (i := 24)) (.inr (rdt (α := Int × Int)))) (ev_int) ⟨by decide, by decide⟩) (ev_int)) (.inl (by decide))) (ea_cons (ev_int) (ea_nil))))) (ea_nil))) ⟨_, _, (v_fewest_moved long [(3 : Int)]), (some ((3 : Int) * (((long.length : Int) / (2 : Int)) - (1 : Int)), (0 : Int))), rfl, rfl, q405_, rfl, rfl⟩))) (fun hp408_ => ew_or1 (et_not (et_B (ev_cf (φ := φ_l_like) (ds := [Enc.enc (α := Tp Int) (v_alive_at long lock), Enc.enc (α := Tp Int) [lock]]) (r := Enc.enc (α := Bool) (v_l_like (α := Tp Int) (v_alive_at long lock) [lock])) D_l_like (hr.mono (by decide)) pass0 (ea_cons (ev_cf (φ := φ_alive_at) (ds := [Enc.enc (α := Tp (Int × Int)) long, Enc.enc (α := Int) lock]) (r := Enc.enc (α := Tp Int) (v_alive_at long lock)) D_alive_at (hr.mono (by decide)) pass0 (ea_cons (ev_name (a := En (α := Tp (Int × Int)) long) (i := 24)) (ea_cons (ev_name (a := En (α := Int) lock) (i := 6)) (ea_nil))) ⟨long, lock, rfl, rfl, (q409_ hp408_).1, rfl, rfl⟩) (ea_cons (EV.be (En (α := Tp Int) [lock]) (ev_tup (ds := [Enc.enc (α := Int) lock]) (ea_cons (ev_name (a := En (α := Int) lock) (i := 6)) (ea_nil)))) (ea_nil))) ⟨_, _, (v_alive_at long lock), [lock], rfl, rfl, (q409_ hp408_).2, rfl, rfl⟩)))))) (fun hp412_ => wss_fg (fg_of (by exact And.intro (Or.inl rfl) (And.intro (Or.inl rfl) (And.intro (Or.inl rfl) (And.intro (Or.inr rfl) (And.intro (Or.inl rfl) (And.intro (Or.inr rfl) (And.intro (Or.inl rfl) (And.intro (Or.inl rfl) (And.intro (Or.inl rfl) (And.intro (Or.inl rfl) (And.intro (Or.inl rfl) (And.intro (Or.inl rfl) (And.intro (Or.inl rfl) (And.intro (Or.inl rfl) (And.intro (Or.inl rfl) (And.intro (Or.inl rfl) (And.intro (Or.inl rfl) (And.intro (Or.inl rfl) (And.intro (Or.inl rfl) (And.intro (Or.inl rfl) (And.intro (Or.inl rfl) (And.intro (Or.inl rfl) (And.intro (Or.inr rfl) (And.intro (Or.inl rfl) (And.intro (Or.inl rfl) (True.intro))))))))))))))))))))))))))) (law_36_w B D_l_well D_l_line D_l_windows D_l_open D_l_lots D_l_one D_l_moments D_l_meet D_l_like D_l_dip DK_fewest_moved_0 D_is_enough_moved D_fewest_moved D_alive_at D_price_for DK_alive_at_1 D_moved_for D_l_mixed hr hB hGB hZ hcd TB RT TH FA FM ga gm DR_price cell1 cell2 cell3 line prices many (q413_ hp412_))) (fun hp415_ => end_thn (S' := ⟨[none, none, none, some (En (α := Tp (Int × Int)) line), none, some (En (α := Tp Int) prices), none, none, none, none, none, none, none, none, none, none, none, none, none, none, none, none, some (En (α := Int) many), none, none], [.tab q_law, Cl (α := Int) cell1, Cl (α := Int) cell2, Cl (α := Int) cell3]⟩) (fg_of (by exact And.intro (Or.inl rfl) (And.intro (Or.inl rfl) (And.intro (Or.inl rfl) (And.intro (Or.inr rfl) (And.intro (Or.inl rfl) (And.intro (Or.inr rfl) (And.intro (Or.inl rfl) (And.intro (Or.inl rfl) (And.intro (Or.inl rfl) (And.intro (Or.inl rfl) (And.intro (Or.inl rfl) (And.intro (Or.inl rfl) (And.intro (Or.inl rfl) (And.intro (Or.inl rfl) (And.intro (Or.inl rfl) (And.intro (Or.inl rfl) (And.intro (Or.inl rfl) (And.intro (Or.inl rfl) (And.intro (Or.inl rfl) (And.intro (Or.inl rfl) (And.intro (Or.inl rfl) (And.intro (Or.inl rfl) (And.intro (Or.inr rfl) (And.intro (Or.inl rfl) (And.intro (Or.inl rfl) (True.intro))))))))))))))))))))))))))) (law_35_w B D_l_well D_l_line D_l_windows D_l_open D_l_lots D_l_one D_l_moments D_l_meet D_l_like D_l_dip DK_fewest_moved_0 D_is_enough_moved D_fewest_moved D_alive_at D_price_for DK_alive_at_1 D_moved_for D_l_mixed hr hB hGB hZ hcd TB RT TH FA FM ga gm DR_price cell1 cell2 cell3 line prices many (q416_ hp415_)))
def law_33 (well : List Int) (cell2 : List Int) (cell3 : List Int) (line : List (Int × Int)) (prices : List Int) (many : Int) : Bool := law_34 ((v_l_dip ((v_l_dip well (20 : Int)).2) (20 : Int)).2) cell2 cell3 line prices ((v_l_dip ((v_l_dip well (20 : Int)).2) (20 : Int)).1) many ((List.replicate ((20 : Int) + ((v_l_dip well (20 : Int)).1)).toNat [(((0 : Int), (0 : Int)), ((1 : Int), (0 : Int))).1, (((0 : Int), (0 : Int)), ((1 : Int), (0 : Int))).2]).flatten)
def law_33P (well : List Int) (cell2 : List Int) (cell3 : List Int) (line : List (Int × Int)) (prices : List Int) (many : Int) : Prop := (P_l_dip well (20 : Int)) ∧ (2 ≤ ((20 : Int) + ((v_l_dip well (20 : Int)).1)) ∧ ((20 : Int) + ((v_l_dip well (20 : Int)).1)) ≤ 1000) ∧ ([(((0 : Int), (0 : Int)), ((1 : Int), (0 : Int))).1, (((0 : Int), (0 : Int)), ((1 : Int), (0 : Int))).2] ≠ []) ∧ (([(((0 : Int), (0 : Int)), ((1 : Int), (0 : Int))).1, (((0 : Int), (0 : Int)), ((1 : Int), (0 : Int))).2]).length ≤ 1000) ∧ (P_l_dip ((v_l_dip well (20 : Int)).2) (20 : Int)) ∧ (law_34P ((v_l_dip ((v_l_dip well (20 : Int)).2) (20 : Int)).2) cell2 cell3 line prices ((v_l_dip ((v_l_dip well (20 : Int)).2) (20 : Int)).1) many ((List.replicate ((20 : Int) + ((v_l_dip well (20 : Int)).1)).toNat [(((0 : Int), (0 : Int)), ((1 : Int), (0 : Int))).1, (((0 : Int), (0 : Int)), ((1 : Int), (0 : Int))).2]).flatten))
theorem law_33_w (well : List Int) (cell2 : List Int) (cell3 : List Int) (line : List (Int × Int)) (prices : List Int) (many : Int) (h : law_33P well cell2 cell3 line prices many) : WSs (X_law P w K mg base f cdv Ar outer s H E) G ⟨[none, some (.cell 1), none, some (En (α := Tp (Int × Int)) line), none, some (En (α := Tp Int) prices), none, none, none, none, none, none, none, none, none, none, none, none, none, none, none, none, some (En (α := Int) many), none, none], [.tab q_law, Cl (α := Int) well, Cl (α := Int) cell2, Cl (α := Int) cell3]⟩ ((defBody s_law).drop 15) (EndR R_law (law_33 well cell2 cell3 line prices many)) := by
  obtain ⟨q399_, q400_, q401_, q402_, q403_, q417_⟩ := h
  exact wss_sn (sn_par2 (i := 24) (j := 6) rfl sc_law.nd (ea_cons (ev_repT (α := Int × Int) (xs := [(((0 : Int), (0 : Int)), ((1 : Int), (0 : Int))).1, (((0 : Int), (0 : Int)), ((1 : Int), (0 : Int))).2]) (EV.be (En (α := (Int × Int) × (Int × Int)) (((0 : Int), (0 : Int)), ((1 : Int), (0 : Int)))) (ev_tup (ds := [Enc.enc (α := Int × Int) ((0 : Int), (0 : Int)), Enc.enc (α := Int × Int) ((1 : Int), (0 : Int))]) (ea_cons (EV.be (En (α := Int × Int) ((0 : Int), (0 : Int))) (ev_tup (ds := [Enc.enc (α := Int) (0 : Int), Enc.enc (α := Int) (0 : Int)]) (ea_cons (ev_int) (ea_cons (ev_int) (ea_nil))))) (ea_cons (EV.be (En (α := Int × Int) ((1 : Int), (0 : Int))) (ev_tup (ds := [Enc.enc (α := Int) (1 : Int), Enc.enc (α := Int) (0 : Int)]) (ea_cons (ev_int) (ea_cons (ev_int) (ea_nil))))) (ea_nil))))) (ev_add (ev_int) (ev_cf1 (φ := φ_l_dip) (j := 1) (α := Int) (xs := well) (ys := (v_l_dip well (20 : Int)).2) (args := [.cell 0, En (α := Int) (20 : Int)]) (r := Enc.enc (α := Int) ((v_l_dip well (20 : Int)).1)) D_l_dip (hr.mono (by decide)) pass0 (ea_cons (ev_name (a := .cell 1) (i := 1)) (ea_cons (ev_int) (ea_nil))) ⟨well, (20 : Int), rfl, rfl, q399_, rfl, rfl⟩ (fun k h => by simp at h) rfl)) q401_ q400_ q402_) (ea_cons (ev_cf1 (φ := φ_l_dip) (j := 1) (α := Int) (xs := (v_l_dip well (20 : Int)).2) (ys := (v_l_dip ((v_l_dip well (20 : Int)).2) (20 : Int)).2) (args := [.cell 0, En (α := Int) (20 : Int)]) (r := Enc.enc (α := Int) ((v_l_dip ((v_l_dip well (20 : Int)).2) (20 : Int)).1)) D_l_dip (hr.mono (by decide)) pass0 (ea_cons (ev_name (a := .cell 1) (i := 1)) (ea_cons (ev_int) (ea_nil))) ⟨((v_l_dip well (20 : Int)).2), (20 : Int), rfl, rfl, q403_, rfl, rfl⟩ (fun k h => by simp at h) rfl) (ea_nil)))) (wss_fg (fg_of (by exact And.intro (Or.inl rfl) (And.intro (Or.inl rfl) (And.intro (Or.inl rfl) (And.intro (Or.inr rfl) (And.intro (Or.inl rfl) (And.intro (Or.inr rfl) (And.intro (Or.inr rfl) (And.intro (Or.inl rfl) (And.intro (Or.inl rfl) (And.intro (Or.inl rfl) (And.intro (Or.inl rfl) (And.intro (Or.inl rfl) (And.intro (Or.inl rfl) (And.intro (Or.inl rfl) (And.intro (Or.inl rfl) (And.intro (Or.inl rfl) (And.intro (Or.inl rfl) (And.intro (Or.inl rfl) (And.intro (Or.inl rfl) (And.intro (Or.inl rfl) (And.intro (Or.inl rfl) (And.intro (Or.inl rfl) (And.intro (Or.inr rfl) (And.intro (Or.inl rfl) (And.intro (Or.inr rfl) (True.intro))))))))))))))))))))))))))) (law_34_w B D_l_well D_l_line D_l_windows D_l_open D_l_lots D_l_one D_l_moments D_l_meet D_l_like D_l_dip DK_fewest_moved_0 D_is_enough_moved D_fewest_moved D_alive_at D_price_for DK_alive_at_1 D_moved_for D_l_mixed hr hB hGB hZ hcd TB RT TH FA FM ga gm DR_price ((v_l_dip ((v_l_dip well (20 : Int)).2) (20 : Int)).2) cell2 cell3 line prices ((v_l_dip ((v_l_dip well (20 : Int)).2) (20 : Int)).1) many ((List.replicate ((20 : Int) + ((v_l_dip well (20 : Int)).1)).toNat [(((0 : Int), (0 : Int)), ((1 : Int), (0 : Int))).1, (((0 : Int), (0 : Int)), ((1 : Int), (0 : Int))).2]).flatten) q417_))
def law_37 (well : List Int) (cell2 : List Int) (cell3 : List Int) (line : List (Int × Int)) (prices : List Int) (many : Int) : Bool := false
def law_37P (well : List Int) (cell2 : List Int) (cell3 : List Int) (line : List (Int × Int)) (prices : List Int) (many : Int) : Prop := True
theorem law_37_w (well : List Int) (cell2 : List Int) (cell3 : List Int) (line : List (Int × Int)) (prices : List Int) (many : Int) (h : law_37P well cell2 cell3 line prices many) : WSs (X_law P w K mg base f cdv Ar outer s H E) G ⟨[none, some (.cell 1), none, some (En (α := Tp (Int × Int)) line), none, some (En (α := Tp Int) prices), none, none, none, none, none, none, none, none, none, none, none, none, none, none, none, none, some (En (α := Int) many), none, none], [.tab q_law, Cl (α := Int) well, Cl (α := Int) cell2, Cl (α := Int) cell3]⟩ (ifA ((defBody s_law).getD 14 passS)) (Thn (X_law P w K mg base f cdv Ar outer s H E) G ((defBody s_law).drop 15) (EndR R_law) (law_37 well cell2 cell3 line prices many)) := by
  exact wss_ret (ev_bl) (ret_dat)
def law_32 (well : List Int) (cell2 : List Int) (cell3 : List Int) (line : List (Int × Int)) (prices : List Int) (many : Int) (works : List FnRef) : Bool := cond (!decide (("layer" : Str) = ("layer" : Str))) (law_37 ((v_l_dip ((v_l_one (α := FnRef) well works).2) (3 : Int)).2) cell2 cell3 line prices many) (law_33 ((v_l_dip ((v_l_one (α := FnRef) well works).2) (3 : Int)).2) cell2 cell3 line prices many)
def law_32P (well : List Int) (cell2 : List Int) (cell3 : List Int) (line : List (Int × Int)) (prices : List Int) (many : Int) (works : List FnRef) : Prop := (P_l_one (α := FnRef) well works) ∧ (P_l_dip ((v_l_one (α := FnRef) well works).2) (3 : Int)) ∧ (P_many_layers line ∧ v_many_layers line ≤ (many + ((v_l_dip ((v_l_one (α := FnRef) well works).2) (3 : Int)).1))) ∧ ((!decide (("layer" : Str) = ("layer" : Str))) = true → (law_37P ((v_l_dip ((v_l_one (α := FnRef) well works).2) (3 : Int)).2) cell2 cell3 line prices many)) ∧ ((!decide (("layer" : Str) = ("layer" : Str))) = false → (law_33P ((v_l_dip ((v_l_one (α := FnRef) well works).2) (3 : Int)).2) cell2 cell3 line prices many))
theorem law_32_w (well : List Int) (cell2 : List Int) (cell3 : List Int) (line : List (Int × Int)) (prices : List Int) (many : Int) (works : List FnRef) (h : law_32P well cell2 cell3 line prices many works) : WSs (X_law P w K mg base f cdv Ar outer s H E) G ⟨[none, some (.cell 1), none, some (En (α := Tp (Int × Int)) line), none, some (En (α := Tp Int) prices), none, none, none, none, none, none, none, none, none, none, none, none, none, none, none, none, some (En (α := Int) many), some (En (α := List FnRef) works), none], [.tab q_law, Cl (α := Int) well, Cl (α := Int) cell2, Cl (α := Int) cell3]⟩ ((defBody s_law).drop 14) (EndR R_law (law_32 well cell2 cell3 line prices many works)) := by
  obtain ⟨q396_, q397_, q398_, q420_, q423_⟩ := h
  exact wss_ifM (EndR R_law) (p := !decide (("layer" : Str) = ("layer" : Str))) (m1 := law_37 ((v_l_dip ((v_l_one (α := FnRef) well works).2) (3 : Int)).2) cell2 cell3 line prices many) (m2 := law_33 ((v_l_dip ((v_l_one (α := FnRef) well works).2) (3 : Int)).2) cell2 cell3 line prices many) rfl (et_neS (ev_heardF (k := 5) (C := C) (fI := fI) (r := ("layer" : Str)) (S' := ⟨[none, some (.cell 1), none, some (En (α := Tp (Int × Int)) line), none, some (En (α := Tp Int) prices), none, none, none, none, none, none, none, none, none, none, none, none, none, none, none, none, some (En (α := Int) many), some (En (α := List FnRef) works), none], [.tab q_law, Cl (α := Int) ((v_l_dip ((v_l_one (α := FnRef) well works).2) (3 : Int)).2), Cl (α := Int) cell2, Cl (α := Int) cell3]⟩) TH RT TB hcd sc_l_heard rfl rfl rfl rfl (hr.mono (by decide)) (LamX.lamS_by rfl) rfl (fun _ _ _ _ _ => rfl) hGB rfl hZ (hu_of rfl) (fun A outer s H E f c' hr => (FnRef.two ((v_l_one (α := FnRef) well works).1)).elim (fun ha => er_callX (E := E) (f := FN.fa) FA (hr.mono (by decide)) (passes_call (takes_of rfl rfl rfl rfl) (fun _ _ _ _ h => h)) (EV.to (ev_cf1 (φ := φ_l_one) (j := 1) (α := Int) (xs := well) (ys := (v_l_one (α := FnRef) well works).2) (args := [.cell 0, En (α := List FnRef) works]) (r := Enc.enc (α := FnRef) ((v_l_one (α := FnRef) well works).1)) D_l_one (hr.mono (by decide)) pass0 (ea_cons (ev_name (a := .cell 1) (i := 1)) (ea_cons (ev_name (a := En (α := List FnRef) works) (i := 23)) (ea_nil))) ⟨_, _, _, well, works, rfl, rfl, q396_, rfl, rfl⟩ (fun k h => by simp at h) rfl) (congrArg (fun z : FnRef => En (α := FnRef) z) ha)) (ds := [Enc.enc (α := Tp (Int × Int)) line, Enc.enc (α := Int) (many + ((v_l_dip ((v_l_one (α := FnRef) well works).2) (3 : Int)).1))]) (ea_cons (ev_name (a := En (α := Tp (Int × Int)) line) (i := 3)) (ea_cons (ev_add (ev_name (a := En (α := Int) many) (i := 22)) (ev_cf1 (φ := φ_l_dip) (j := 1) (α := Int) (xs := (v_l_one (α := FnRef) well works).2) (ys := (v_l_dip ((v_l_one (α := FnRef) well works).2) (3 : Int)).2) (args := [.cell 0, En (α := Int) (3 : Int)]) (r := Enc.enc (α := Int) ((v_l_dip ((v_l_one (α := FnRef) well works).2) (3 : Int)).1)) D_l_dip (hr.mono (by decide)) pass0 (ea_cons (ev_name (a := .cell 1) (i := 1)) (ea_cons (ev_int) (ea_nil))) ⟨((v_l_one (α := FnRef) well works).2), (3 : Int), rfl, rfl, q397_, rfl, rfl⟩ (fun k h => by simp at h) rfl)) (ea_nil))) ⟨line, (many + ((v_l_dip ((v_l_one (α := FnRef) well works).2) (3 : Int)).1)), rfl, q398_⟩) (fun ha => er_callX (E := E) (f := FN.fm) FM (hr.mono (by decide)) (passes_call (takes_of rfl rfl rfl rfl) (fun _ _ _ _ h => h)) (EV.to (ev_cf1 (φ := φ_l_one) (j := 1) (α := Int) (xs := well) (ys := (v_l_one (α := FnRef) well works).2) (args := [.cell 0, En (α := List FnRef) works]) (r := Enc.enc (α := FnRef) ((v_l_one (α := FnRef) well works).1)) D_l_one (hr.mono (by decide)) pass0 (ea_cons (ev_name (a := .cell 1) (i := 1)) (ea_cons (ev_name (a := En (α := List FnRef) works) (i := 23)) (ea_nil))) ⟨_, _, _, well, works, rfl, rfl, q396_, rfl, rfl⟩ (fun k h => by simp at h) rfl) (congrArg (fun z : FnRef => En (α := FnRef) z) ha)) (ds := [Enc.enc (α := Tp (Int × Int)) line, Enc.enc (α := Int) (many + ((v_l_dip ((v_l_one (α := FnRef) well works).2) (3 : Int)).1))]) (ea_cons (ev_name (a := En (α := Tp (Int × Int)) line) (i := 3)) (ea_cons (ev_add (ev_name (a := En (α := Int) many) (i := 22)) (ev_cf1 (φ := φ_l_dip) (j := 1) (α := Int) (xs := (v_l_one (α := FnRef) well works).2) (ys := (v_l_dip ((v_l_one (α := FnRef) well works).2) (3 : Int)).2) (args := [.cell 0, En (α := Int) (3 : Int)]) (r := Enc.enc (α := Int) ((v_l_dip ((v_l_one (α := FnRef) well works).2) (3 : Int)).1)) D_l_dip (hr.mono (by decide)) pass0 (ea_cons (ev_name (a := .cell 1) (i := 1)) (ea_cons (ev_int) (ea_nil))) ⟨((v_l_one (α := FnRef) well works).2), (3 : Int), rfl, rfl, q397_, rfl, rfl⟩ (fun k h => by simp at h) rfl)) (ea_nil))) ⟨line, (many + ((v_l_dip ((v_l_one (α := FnRef) well works).2) (3 : Int)).1)), rfl, q398_⟩))) (ev_str)) (fun hp419_ => wss_fg (fg_of (by exact And.intro (Or.inl rfl) (And.intro (Or.inr rfl) (And.intro (Or.inl rfl) (And.intro (Or.inr rfl) (And.intro (Or.inl rfl) (And.intro (Or.inr rfl) (And.intro (Or.inl rfl) (And.intro (Or.inl rfl) (And.intro (Or.inl rfl) (And.intro (Or.inl rfl) (And.intro (Or.inl rfl) (And.intro (Or.inl rfl) (And.intro (Or.inl rfl) (And.intro (Or.inl rfl) (And.intro (Or.inl rfl) (And.intro (Or.inl rfl) (And.intro (Or.inl rfl) (And.intro (Or.inl rfl) (And.intro (Or.inl rfl) (And.intro (Or.inl rfl) (And.intro (Or.inl rfl) (And.intro (Or.inl rfl) (And.intro (Or.inr rfl) (And.intro (Or.inl rfl) (And.intro (Or.inl rfl) (True.intro))))))))))))))))))))))))))) (law_37_w B D_l_well D_l_line D_l_windows D_l_open D_l_lots D_l_one D_l_moments D_l_meet D_l_like D_l_dip DK_fewest_moved_0 D_is_enough_moved D_fewest_moved D_alive_at D_price_for DK_alive_at_1 D_moved_for D_l_mixed hr hB hGB hZ hcd TB RT TH FA FM ga gm DR_price ((v_l_dip ((v_l_one (α := FnRef) well works).2) (3 : Int)).2) cell2 cell3 line prices many (q420_ hp419_))) (fun hp422_ => end_thn (S' := ⟨[none, some (.cell 1), none, some (En (α := Tp (Int × Int)) line), none, some (En (α := Tp Int) prices), none, none, none, none, none, none, none, none, none, none, none, none, none, none, none, none, some (En (α := Int) many), none, none], [.tab q_law, Cl (α := Int) ((v_l_dip ((v_l_one (α := FnRef) well works).2) (3 : Int)).2), Cl (α := Int) cell2, Cl (α := Int) cell3]⟩) (fg_of (by exact And.intro (Or.inl rfl) (And.intro (Or.inr rfl) (And.intro (Or.inl rfl) (And.intro (Or.inr rfl) (And.intro (Or.inl rfl) (And.intro (Or.inr rfl) (And.intro (Or.inl rfl) (And.intro (Or.inl rfl) (And.intro (Or.inl rfl) (And.intro (Or.inl rfl) (And.intro (Or.inl rfl) (And.intro (Or.inl rfl) (And.intro (Or.inl rfl) (And.intro (Or.inl rfl) (And.intro (Or.inl rfl) (And.intro (Or.inl rfl) (And.intro (Or.inl rfl) (And.intro (Or.inl rfl) (And.intro (Or.inl rfl) (And.intro (Or.inl rfl) (And.intro (Or.inl rfl) (And.intro (Or.inl rfl) (And.intro (Or.inr rfl) (And.intro (Or.inl rfl) (And.intro (Or.inl rfl) (True.intro))))))))))))))))))))))))))) (law_33_w B D_l_well D_l_line D_l_windows D_l_open D_l_lots D_l_one D_l_moments D_l_meet D_l_like D_l_dip DK_fewest_moved_0 D_is_enough_moved D_fewest_moved D_alive_at D_price_for DK_alive_at_1 D_moved_for D_l_mixed hr hB hGB hZ hcd TB RT TH FA FM ga gm DR_price ((v_l_dip ((v_l_one (α := FnRef) well works).2) (3 : Int)).2) cell2 cell3 line prices many (q423_ hp422_)))
def law_31 (well : List Int) (cell2 : List Int) (cell3 : List Int) (line : List (Int × Int)) (prices : List Int) (many : Int) : Bool := law_32 well cell2 cell3 line prices many [FnRef.al, FnRef.mo]
def law_31P (well : List Int) (cell2 : List Int) (cell3 : List Int) (line : List (Int × Int)) (prices : List Int) (many : Int) : Prop := (law_32P well cell2 cell3 line prices many [FnRef.al, FnRef.mo])
theorem law_31_w (well : List Int) (cell2 : List Int) (cell3 : List Int) (line : List (Int × Int)) (prices : List Int) (many : Int) (h : law_31P well cell2 cell3 line prices many) : WSs (X_law P w K mg base f cdv Ar outer s H E) G ⟨[none, some (.cell 1), none, some (En (α := Tp (Int × Int)) line), none, some (En (α := Tp Int) prices), none, none, none, none, none, none, none, none, none, none, none, none, none, none, none, none, some (En (α := Int) many), none, none], [.tab q_law, Cl (α := Int) well, Cl (α := Int) cell2, Cl (α := Int) cell3]⟩ ((defBody s_law).drop 13) (EndR R_law (law_31 well cell2 cell3 line prices many)) := by
  have q424_ := h
  exact wss_sn (sn_set (i := 23) sc_law.nd (EV.be (En (α := List FnRef) [FnRef.al, FnRef.mo]) (ev_lst (ds := [Enc.enc (α := FnRef) FnRef.al, Enc.enc (α := FnRef) FnRef.mo]) (ea_cons (EV.be (En (α := FnRef) FnRef.al) (ev_glob (v := .ref FN.fa) ga rfl)) (ea_cons (EV.be (En (α := FnRef) FnRef.mo) (ev_glob (v := .ref FN.fm) gm rfl)) (ea_nil)))))) (law_32_w B D_l_well D_l_line D_l_windows D_l_open D_l_lots D_l_one D_l_moments D_l_meet D_l_like D_l_dip DK_fewest_moved_0 D_is_enough_moved D_fewest_moved D_alive_at D_price_for DK_alive_at_1 D_moved_for D_l_mixed hr hB hGB hZ hcd TB RT TH FA FM ga gm DR_price well cell2 cell3 line prices many [FnRef.al, FnRef.mo] q424_)
def law_30 (well : List Int) (cell2 : List Int) (cell3 : List Int) (line : List (Int × Int)) (prices : List Int) (opened : List (List (Int × Int))) : Bool := law_31 well cell2 cell3 line prices (opened.length : Int)
def law_30P (well : List Int) (cell2 : List Int) (cell3 : List Int) (line : List (Int × Int)) (prices : List Int) (opened : List (List (Int × Int))) : Prop := (law_31P well cell2 cell3 line prices (opened.length : Int))
theorem law_30_w (well : List Int) (cell2 : List Int) (cell3 : List Int) (line : List (Int × Int)) (prices : List Int) (opened : List (List (Int × Int))) (h : law_30P well cell2 cell3 line prices opened) : WSs (X_law P w K mg base f cdv Ar outer s H E) G ⟨[none, some (.cell 1), none, some (En (α := Tp (Int × Int)) line), none, some (En (α := Tp Int) prices), none, some (En (α := List (Dc Int)) opened), none, none, none, none, none, none, none, none, none, none, none, none, none, none, none, none, none], [.tab q_law, Cl (α := Int) well, Cl (α := Int) cell2, Cl (α := Int) cell3]⟩ ((defBody s_law).drop 12) (EndR R_law (law_30 well cell2 cell3 line prices opened)) := by
  have q425_ := h
  exact wss_sn (sn_set (i := 22) sc_law.nd (ev_len (α := Dc Int) (xs := opened) B.len (ev_name (a := En (α := List (Dc Int)) opened) (i := 7)) (.inl (rdl (α := Dc Int))))) (wss_fg (fg_of (by exact And.intro (Or.inl rfl) (And.intro (Or.inr rfl) (And.intro (Or.inl rfl) (And.intro (Or.inr rfl) (And.intro (Or.inl rfl) (And.intro (Or.inr rfl) (And.intro (Or.inl rfl) (And.intro (Or.inl rfl) (And.intro (Or.inl rfl) (And.intro (Or.inl rfl) (And.intro (Or.inl rfl) (And.intro (Or.inl rfl) (And.intro (Or.inl rfl) (And.intro (Or.inl rfl) (And.intro (Or.inl rfl) (And.intro (Or.inl rfl) (And.intro (Or.inl rfl) (And.intro (Or.inl rfl) (And.intro (Or.inl rfl) (And.intro (Or.inl rfl) (And.intro (Or.inl rfl) (And.intro (Or.inl rfl) (And.intro (Or.inr rfl) (And.intro (Or.inl rfl) (And.intro (Or.inl rfl) (True.intro))))))))))))))))))))))))))) (law_31_w B D_l_well D_l_line D_l_windows D_l_open D_l_lots D_l_one D_l_moments D_l_meet D_l_like D_l_dip DK_fewest_moved_0 D_is_enough_moved D_fewest_moved D_alive_at D_price_for DK_alive_at_1 D_moved_for D_l_mixed hr hB hGB hZ hcd TB RT TH FA FM ga gm DR_price well cell2 cell3 line prices (opened.length : Int) q425_))
def law_38 (well : List Int) (cell2 : List Int) (cell3 : List Int) (line : List (Int × Int)) (prices : List Int) (opened : List (List (Int × Int))) : Bool := false
def law_38P (well : List Int) (cell2 : List Int) (cell3 : List Int) (line : List (Int × Int)) (prices : List Int) (opened : List (List (Int × Int))) : Prop := True
theorem law_38_w (well : List Int) (cell2 : List Int) (cell3 : List Int) (line : List (Int × Int)) (prices : List Int) (opened : List (List (Int × Int))) (h : law_38P well cell2 cell3 line prices opened) : WSs (X_law P w K mg base f cdv Ar outer s H E) G ⟨[none, some (.cell 1), none, some (En (α := Tp (Int × Int)) line), none, some (En (α := Tp Int) prices), none, some (En (α := List (Dc Int)) opened), none, none, none, none, none, none, none, none, none, none, none, none, none, none, none, none, none], [.tab q_law, Cl (α := Int) well, Cl (α := Int) cell2, Cl (α := Int) cell3]⟩ (ifA ((defBody s_law).getD 11 passS)) (Thn (X_law P w K mg base f cdv Ar outer s H E) G ((defBody s_law).drop 12) (EndR R_law) (law_38 well cell2 cell3 line prices opened)) := by
  exact wss_ret (ev_bl) (ret_dat)
def law_29 (well : List Int) (cell2 : List Int) (cell3 : List Int) (line : List (Int × Int)) (prices : List Int) (opened : List (List (Int × Int))) (best : Option (Int × Int)) : Bool := cond (!(v_l_like (α := Option (Int × Int)) (v_fewest_moved line prices) best)) (law_38 well cell2 cell3 line prices opened) (law_30 well cell2 cell3 line prices opened)
def law_29P (well : List Int) (cell2 : List Int) (cell3 : List Int) (line : List (Int × Int)) (prices : List Int) (opened : List (List (Int × Int))) (best : Option (Int × Int)) : Prop := (P_fewest_moved line prices) ∧ (P_l_like (α := Option (Int × Int)) (v_fewest_moved line prices) best) ∧ ((!(v_l_like (α := Option (Int × Int)) (v_fewest_moved line prices) best)) = true → (law_38P well cell2 cell3 line prices opened)) ∧ ((!(v_l_like (α := Option (Int × Int)) (v_fewest_moved line prices) best)) = false → (law_30P well cell2 cell3 line prices opened))
theorem law_29_w (well : List Int) (cell2 : List Int) (cell3 : List Int) (line : List (Int × Int)) (prices : List Int) (opened : List (List (Int × Int))) (best : Option (Int × Int)) (h : law_29P well cell2 cell3 line prices opened best) : WSs (X_law P w K mg base f cdv Ar outer s H E) G ⟨[none, some (.cell 1), none, some (En (α := Tp (Int × Int)) line), none, some (En (α := Tp Int) prices), none, some (En (α := List (Dc Int)) opened), none, none, none, none, none, none, none, some (En (α := Option (Int × Int)) best), none, none, none, none, none, none, none, none, none], [.tab q_law, Cl (α := Int) well, Cl (α := Int) cell2, Cl (α := Int) cell3]⟩ ((defBody s_law).drop 11) (EndR R_law (law_29 well cell2 cell3 line prices opened best)) := by
  obtain ⟨q394_, q395_, q428_, q431_⟩ := h
  exact wss_ifM (EndR R_law) (p := !(v_l_like (α := Option (Int × Int)) (v_fewest_moved line prices) best)) (m1 := law_38 well cell2 cell3 line prices opened) (m2 := law_30 well cell2 cell3 line prices opened) rfl (et_not (et_B (ev_cf (φ := φ_l_like) (ds := [Enc.enc (α := Option (Int × Int)) (v_fewest_moved line prices), Enc.enc (α := Option (Int × Int)) best]) (r := Enc.enc (α := Bool) (v_l_like (α := Option (Int × Int)) (v_fewest_moved line prices) best)) D_l_like (hr.mono (by decide)) pass0 (ea_cons (ev_cfK0 (φ := φ_fewest_moved) (ds := [Enc.enc (α := Tp (Int × Int)) line, Enc.enc (α := Tp Int) prices]) (r := Enc.enc (α := Option (Int × Int)) (v_fewest_moved line prices)) DK_fewest_moved_0 (hr.mono (by decide)) pass0 (ek_cons (ev_name (a := En (α := Tp (Int × Int)) line) (i := 3)) (ek_cons (ev_name (a := En (α := Tp Int) prices) (i := 5)) (ek_nil))) ⟨line, prices, rfl, rfl, q394_, rfl, rfl⟩) (ea_cons (ev_name (a := En (α := Option (Int × Int)) best) (i := 15)) (ea_nil))) ⟨_, _, (v_fewest_moved line prices), best, rfl, rfl, q395_, rfl, rfl⟩))) (fun hp427_ => wss_fg (fg_of (by exact And.intro (Or.inl rfl) (And.intro (Or.inr rfl) (And.intro (Or.inl rfl) (And.intro (Or.inr rfl) (And.intro (Or.inl rfl) (And.intro (Or.inr rfl) (And.intro (Or.inl rfl) (And.intro (Or.inr rfl) (And.intro (Or.inl rfl) (And.intro (Or.inl rfl) (And.intro (Or.inl rfl) (And.intro (Or.inl rfl) (And.intro (Or.inl rfl) (And.intro (Or.inl rfl) (And.intro (Or.inl rfl) (And.intro (Or.inl rfl) (And.intro (Or.inl rfl) (And.intro (Or.inl rfl) (And.intro (Or.inl rfl) (And.intro (Or.inl rfl) (And.intro (Or.inl rfl) (And.intro (Or.inl rfl) (And.intro (Or.inl rfl) (And.intro (Or.inl rfl) (And.intro (Or.inl rfl) (True.intro))))))))))))))))))))))))))) (law_38_w B D_l_well D_l_line D_l_windows D_l_open D_l_lots D_l_one D_l_moments D_l_meet D_l_like D_l_dip DK_fewest_moved_0 D_is_enough_moved D_fewest_moved D_alive_at D_price_for DK_alive_at_1 D_moved_for D_l_mixed hr hB hGB hZ hcd TB RT TH FA FM ga gm DR_price well cell2 cell3 line prices opened (q428_ hp427_))) (fun hp430_ => end_thn (S' := ⟨[none, some (.cell 1), none, some (En (α := Tp (Int × Int)) line), none, some (En (α := Tp Int) prices), none, some (En (α := List (Dc Int)) opened), none, none, none, none, none, none, none, none, none, none, none, none, none, none, none, none, none], [.tab q_law, Cl (α := Int) well, Cl (α := Int) cell2, Cl (α := Int) cell3]⟩) (fg_of (by exact And.intro (Or.inl rfl) (And.intro (Or.inr rfl) (And.intro (Or.inl rfl) (And.intro (Or.inr rfl) (And.intro (Or.inl rfl) (And.intro (Or.inr rfl) (And.intro (Or.inl rfl) (And.intro (Or.inr rfl) (And.intro (Or.inl rfl) (And.intro (Or.inl rfl) (And.intro (Or.inl rfl) (And.intro (Or.inl rfl) (And.intro (Or.inl rfl) (And.intro (Or.inl rfl) (And.intro (Or.inl rfl) (And.intro (Or.inl rfl) (And.intro (Or.inl rfl) (And.intro (Or.inl rfl) (And.intro (Or.inl rfl) (And.intro (Or.inl rfl) (And.intro (Or.inl rfl) (And.intro (Or.inl rfl) (And.intro (Or.inl rfl) (And.intro (Or.inl rfl) (And.intro (Or.inl rfl) (True.intro))))))))))))))))))))))))))) (law_30_w B D_l_well D_l_line D_l_windows D_l_open D_l_lots D_l_one D_l_moments D_l_meet D_l_like D_l_dip DK_fewest_moved_0 D_is_enough_moved D_fewest_moved D_alive_at D_price_for DK_alive_at_1 D_moved_for D_l_mixed hr hB hGB hZ hcd TB RT TH FA FM ga gm DR_price well cell2 cell3 line prices opened (q431_ hp430_)))
def law_39 (well : List Int) (costs : List Int) (cheap : List Int) (line : List (Int × Int)) (prices : List Int) (opened : List (List (Int × Int))) (best : Option (Int × Int)) : Bool := law_29 well costs cheap line prices opened (some (minL cheap, (List.idxOf (minL cheap) costs : Int)))
def law_39P (well : List Int) (costs : List Int) (cheap : List Int) (line : List (Int × Int)) (prices : List Int) (opened : List (List (Int × Int))) (best : Option (Int × Int)) : Prop := (cheap ≠ []) ∧ ((minL cheap) ∈ costs) ∧ (law_29P well costs cheap line prices opened (some (minL cheap, (List.idxOf (minL cheap) costs : Int))))
theorem law_39_w (well : List Int) (costs : List Int) (cheap : List Int) (line : List (Int × Int)) (prices : List Int) (opened : List (List (Int × Int))) (best : Option (Int × Int)) (h : law_39P well costs cheap line prices opened best) : WSs (X_law P w K mg base f cdv Ar outer s H E) G ⟨[none, some (.cell 1), none, some (En (α := Tp (Int × Int)) line), none, some (En (α := Tp Int) prices), none, some (En (α := List (Dc Int)) opened), none, some (.cell 2), none, none, none, none, none, some (En (α := Option (Int × Int)) best), some (.cell 3), none, none, none, none, none, none, none, none], [.tab q_law, Cl (α := Int) well, Cl (α := Int) costs, Cl (α := Int) cheap]⟩ (ifA ((defBody s_law).getD 10 passS)) (Thn (X_law P w K mg base f cdv Ar outer s H E) G ((defBody s_law).drop 11) (EndR R_law) (law_39 well costs cheap line prices opened best)) := by
  obtain ⟨q432_, q433_, q434_⟩ := h
  exact wss_sn (sn_set (i := 15) sc_law.nd (EV.be (En (α := Option (Int × Int)) (some (minL cheap, (List.idxOf (minL cheap) costs : Int)))) (EV.be (En (α := Int × Int) (minL cheap, (List.idxOf (minL cheap) costs : Int))) (ev_tup (ds := [Enc.enc (α := Int) (minL cheap), Enc.enc (α := Int) (List.idxOf (minL cheap) costs : Int)]) (ea_cons (ev_min (is := cheap) rfl B.min (ev_name (a := .cell 3) (i := 16)) (rdc (α := Int) (xs := cheap) (k := 3)) q432_) (ea_cons (ev_index (is := costs) (i := minL cheap) (ev_name (a := .cell 2) (i := 9)) (ev_min (is := cheap) rfl B.min (ev_name (a := .cell 3) (i := 16)) (rdc (α := Int) (xs := cheap) (k := 3)) q432_) ((rdc (α := Int) (xs := costs) (k := 2))) q433_) (ea_nil))))))) (end_thn (S' := ⟨[none, some (.cell 1), none, some (En (α := Tp (Int × Int)) line), none, some (En (α := Tp Int) prices), none, some (En (α := List (Dc Int)) opened), none, none, none, none, none, none, none, some (En (α := Option (Int × Int)) (some (minL cheap, (List.idxOf (minL cheap) costs : Int)))), none, none, none, none, none, none, none, none, none], [.tab q_law, Cl (α := Int) well, Cl (α := Int) costs, Cl (α := Int) cheap]⟩) (fg_of (by exact And.intro (Or.inl rfl) (And.intro (Or.inr rfl) (And.intro (Or.inl rfl) (And.intro (Or.inr rfl) (And.intro (Or.inl rfl) (And.intro (Or.inr rfl) (And.intro (Or.inl rfl) (And.intro (Or.inr rfl) (And.intro (Or.inl rfl) (And.intro (Or.inl rfl) (And.intro (Or.inl rfl) (And.intro (Or.inl rfl) (And.intro (Or.inl rfl) (And.intro (Or.inl rfl) (And.intro (Or.inl rfl) (And.intro (Or.inr rfl) (And.intro (Or.inl rfl) (And.intro (Or.inl rfl) (And.intro (Or.inl rfl) (And.intro (Or.inl rfl) (And.intro (Or.inl rfl) (And.intro (Or.inl rfl) (And.intro (Or.inl rfl) (And.intro (Or.inl rfl) (And.intro (Or.inl rfl) (True.intro))))))))))))))))))))))))))) (law_29_w B D_l_well D_l_line D_l_windows D_l_open D_l_lots D_l_one D_l_moments D_l_meet D_l_like D_l_dip DK_fewest_moved_0 D_is_enough_moved D_fewest_moved D_alive_at D_price_for DK_alive_at_1 D_moved_for D_l_mixed hr hB hGB hZ hcd TB RT TH FA FM ga gm DR_price well costs cheap line prices opened (some (minL cheap, (List.idxOf (minL cheap) costs : Int))) q434_))
def law_28 (well : List Int) (costs : List Int) (cheap : List Int) (line : List (Int × Int)) (prices : List Int) (opened : List (List (Int × Int))) (best : Option (Int × Int)) : Bool := cond (!decide (costs = [])) (law_39 well costs cheap line prices opened best) (law_29 well costs cheap line prices opened best)
def law_28P (well : List Int) (costs : List Int) (cheap : List Int) (line : List (Int × Int)) (prices : List Int) (opened : List (List (Int × Int))) (best : Option (Int × Int)) : Prop := ((!decide (costs = [])) = true → (law_39P well costs cheap line prices opened best)) ∧ ((!decide (costs = [])) = false → (law_29P well costs cheap line prices opened best))
theorem law_28_w (well : List Int) (costs : List Int) (cheap : List Int) (line : List (Int × Int)) (prices : List Int) (opened : List (List (Int × Int))) (best : Option (Int × Int)) (h : law_28P well costs cheap line prices opened best) : WSs (X_law P w K mg base f cdv Ar outer s H E) G ⟨[none, some (.cell 1), none, some (En (α := Tp (Int × Int)) line), none, some (En (α := Tp Int) prices), none, some (En (α := List (Dc Int)) opened), none, some (.cell 2), none, none, none, none, none, some (En (α := Option (Int × Int)) best), some (.cell 3), none, none, none, none, none, none, none, none], [.tab q_law, Cl (α := Int) well, Cl (α := Int) costs, Cl (α := Int) cheap]⟩ ((defBody s_law).drop 10) (EndR R_law (law_28 well costs cheap line prices opened best)) := by
  obtain ⟨q437_, q440_⟩ := h
  exact wss_ifM (EndR R_law) (p := !decide (costs = [])) (m1 := law_39 well costs cheap line prices opened best) (m2 := law_29 well costs cheap line prices opened best) rfl (et_neL (α := Int) (xs := costs) (ys := []) (hr.mono (by decide) : Room 0 _).units (ev_name (a := .cell 2) (i := 9)) (EV.be (En (α := List Int) []) (ev_lst (ds := []) ea_nil)) ((rdc (α := Int) (xs := costs) (k := 2))) ((rdl (α := Int)))) (fun hp436_ => law_39_w B D_l_well D_l_line D_l_windows D_l_open D_l_lots D_l_one D_l_moments D_l_meet D_l_like D_l_dip DK_fewest_moved_0 D_is_enough_moved D_fewest_moved D_alive_at D_price_for DK_alive_at_1 D_moved_for D_l_mixed hr hB hGB hZ hcd TB RT TH FA FM ga gm DR_price well costs cheap line prices opened best (q437_ hp436_)) (fun hp439_ => end_thn (S' := ⟨[none, some (.cell 1), none, some (En (α := Tp (Int × Int)) line), none, some (En (α := Tp Int) prices), none, some (En (α := List (Dc Int)) opened), none, none, none, none, none, none, none, some (En (α := Option (Int × Int)) best), none, none, none, none, none, none, none, none, none], [.tab q_law, Cl (α := Int) well, Cl (α := Int) costs, Cl (α := Int) cheap]⟩) (fg_of (by exact And.intro (Or.inl rfl) (And.intro (Or.inr rfl) (And.intro (Or.inl rfl) (And.intro (Or.inr rfl) (And.intro (Or.inl rfl) (And.intro (Or.inr rfl) (And.intro (Or.inl rfl) (And.intro (Or.inr rfl) (And.intro (Or.inl rfl) (And.intro (Or.inl rfl) (And.intro (Or.inl rfl) (And.intro (Or.inl rfl) (And.intro (Or.inl rfl) (And.intro (Or.inl rfl) (And.intro (Or.inl rfl) (And.intro (Or.inr rfl) (And.intro (Or.inl rfl) (And.intro (Or.inl rfl) (And.intro (Or.inl rfl) (And.intro (Or.inl rfl) (And.intro (Or.inl rfl) (And.intro (Or.inl rfl) (And.intro (Or.inl rfl) (And.intro (Or.inl rfl) (And.intro (Or.inl rfl) (True.intro))))))))))))))))))))))))))) (law_29_w B D_l_well D_l_line D_l_windows D_l_open D_l_lots D_l_one D_l_moments D_l_meet D_l_like D_l_dip DK_fewest_moved_0 D_is_enough_moved D_fewest_moved D_alive_at D_price_for DK_alive_at_1 D_moved_for D_l_mixed hr hB hGB hZ hcd TB RT TH FA FM ga gm DR_price well costs cheap line prices opened best (q440_ hp439_)))
def law_18 (well : List Int) (costs : List Int) (cheap : List Int) (line : List (Int × Int)) (rows : List (Int × Int × Int)) (prices : List Int) (opened : List (List (Int × Int))) (every : List Int) (best : Option (Int × Int)) : Bool := (loopF (fun (v : (List Int) × (List Int)) (x : List Int) => law_19 v.1 costs v.2 line rows prices opened every best x) (v_l_lots (rows.length : Int)) (well, cheap)).fin (id) (fun (v : (List Int) × (List Int)) => law_28 v.1 costs v.2 line prices opened best)
def law_18P (well : List Int) (costs : List Int) (cheap : List Int) (line : List (Int × Int)) (rows : List (Int × Int × Int)) (prices : List Int) (opened : List (List (Int × Int))) (every : List Int) (best : Option (Int × Int)) : Prop := (P_l_lots (rows.length : Int)) ∧ (loopFP (fun (v : (List Int) × (List Int)) (x : List Int) => law_19 v.1 costs v.2 line rows prices opened every best x) (fun (v : (List Int) × (List Int)) (x : List Int) => law_19P v.1 costs v.2 line rows prices opened every best x) (v_l_lots (rows.length : Int)) (well, cheap)) ∧ (∀ v, (loopF (fun (v : (List Int) × (List Int)) (x : List Int) => law_19 v.1 costs v.2 line rows prices opened every best x) (v_l_lots (rows.length : Int)) (well, cheap) = .next v ∨ loopF (fun (v : (List Int) × (List Int)) (x : List Int) => law_19 v.1 costs v.2 line rows prices opened every best x) (v_l_lots (rows.length : Int)) (well, cheap) = .brk v) → (fun (v : (List Int) × (List Int)) => law_28P v.1 costs v.2 line prices opened best) v)
theorem law_18_w (well : List Int) (costs : List Int) (cheap : List Int) (line : List (Int × Int)) (rows : List (Int × Int × Int)) (prices : List Int) (opened : List (List (Int × Int))) (every : List Int) (best : Option (Int × Int)) (h : law_18P well costs cheap line rows prices opened every best) : WSs (X_law P w K mg base f cdv Ar outer s H E) G ⟨[none, some (.cell 1), none, some (En (α := Tp (Int × Int)) line), some (En (α := Tp (T3 Int Int Int)) rows), some (En (α := Tp Int) prices), none, some (En (α := List (Dc Int)) opened), some (En (α := List Int) every), some (.cell 2), none, none, none, none, none, some (En (α := Option (Int × Int)) best), some (.cell 3), none, none, none, none, none, none, none, none], [.tab q_law, Cl (α := Int) well, Cl (α := Int) costs, Cl (α := Int) cheap]⟩ ((defBody s_law).drop 9) (EndR R_law (law_18 well costs cheap line rows prices opened every best)) := by
  obtain ⟨q341_, q441_, q442_⟩ := h
  exact wss_forM (α := Tp Int) (xs := v_l_lots (rows.length : Int)) (EndR R_law) (fun (v : (List Int) × (List Int)) (x : List Int) => law_19 v.1 costs v.2 line rows prices opened every best x) (well, cheap) (fun (v : (List Int) × (List Int)) => ⟨[none, some (.cell 1), none, some (En (α := Tp (Int × Int)) line), some (En (α := Tp (T3 Int Int Int)) rows), some (En (α := Tp Int) prices), none, some (En (α := List (Dc Int)) opened), some (En (α := List Int) every), some (.cell 2), none, none, none, none, none, some (En (α := Option (Int × Int)) best), some (.cell 3), none, none, none, none, none, none, none, none], [.tab q_law, Cl (α := Int) v.1, Cl (α := Int) costs, Cl (α := Int) v.2]⟩) R_law (id) (fun (v : (List Int) × (List Int)) => law_28 v.1 costs v.2 line prices opened best) rfl PassesOwn.never rfl (es_lst (ev_cf (φ := φ_l_lots) (ds := [Enc.enc (α := Int) (rows.length : Int)]) (r := Enc.enc (α := List (Tp Int)) (v_l_lots (rows.length : Int))) D_l_lots (hr.mono (by decide)) pass0 (ea_cons (ev_len (α := T3 Int Int Int) (xs := rows) B.len (ev_name (a := En (α := Tp (T3 Int Int Int)) rows) (i := 4)) (.inr (rdt (α := T3 Int Int Int)))) (ea_nil)) ⟨(rows.length : Int), rfl, rfl, q341_, rfl, rfl⟩)) (fg_of (by exact And.intro (Or.inl rfl) (And.intro (Or.inr rfl) (And.intro (Or.inl rfl) (And.intro (Or.inr rfl) (And.intro (Or.inr rfl) (And.intro (Or.inr rfl) (And.intro (Or.inl rfl) (And.intro (Or.inr rfl) (And.intro (Or.inr rfl) (And.intro (Or.inr rfl) (And.intro (Or.inl rfl) (And.intro (Or.inl rfl) (And.intro (Or.inl rfl) (And.intro (Or.inl rfl) (And.intro (Or.inl rfl) (And.intro (Or.inr rfl) (And.intro (Or.inr rfl) (And.intro (Or.inl rfl) (And.intro (Or.inl rfl) (And.intro (Or.inl rfl) (And.intro (Or.inl rfl) (And.intro (Or.inl rfl) (And.intro (Or.inl rfl) (And.intro (Or.inl rfl) (And.intro (Or.inl rfl) (True.intro))))))))))))))))))))))))))) (fun i x v hx hv => ⟨_, _, eg_name (i := 17) sc_law.nd, law_19_w B D_l_well D_l_line D_l_windows D_l_open D_l_lots D_l_one D_l_moments D_l_meet D_l_like D_l_dip DK_fewest_moved_0 D_is_enough_moved D_fewest_moved D_alive_at D_price_for DK_alive_at_1 D_moved_for D_l_mixed hr hB hGB hZ hcd TB RT TH FA FM ga gm DR_price v.1 costs v.2 line rows prices opened every best x (q441_ i x v hx hv)⟩) (fun _ _ _ h => h) (fun v hv => wss_fg (fg_of (by exact And.intro (Or.inl rfl) (And.intro (Or.inr rfl) (And.intro (Or.inl rfl) (And.intro (Or.inr rfl) (And.intro (Or.inl rfl) (And.intro (Or.inr rfl) (And.intro (Or.inl rfl) (And.intro (Or.inr rfl) (And.intro (Or.inl rfl) (And.intro (Or.inr rfl) (And.intro (Or.inl rfl) (And.intro (Or.inl rfl) (And.intro (Or.inl rfl) (And.intro (Or.inl rfl) (And.intro (Or.inl rfl) (And.intro (Or.inr rfl) (And.intro (Or.inr rfl) (And.intro (Or.inl rfl) (And.intro (Or.inl rfl) (And.intro (Or.inl rfl) (And.intro (Or.inl rfl) (And.intro (Or.inl rfl) (And.intro (Or.inl rfl) (And.intro (Or.inl rfl) (And.intro (Or.inl rfl) (True.intro))))))))))))))))))))))))))) (law_28_w B D_l_well D_l_line D_l_windows D_l_open D_l_lots D_l_one D_l_moments D_l_meet D_l_like D_l_dip DK_fewest_moved_0 D_is_enough_moved D_fewest_moved D_alive_at D_price_for DK_alive_at_1 D_moved_for D_l_mixed hr hB hGB hZ hcd TB RT TH FA FM ga gm DR_price v.1 costs v.2 line prices opened best (q442_ v hv)))
def law_17 (well : List Int) (costs : List Int) (line : List (Int × Int)) (rows : List (Int × Int × Int)) (prices : List Int) (opened : List (List (Int × Int))) (every : List Int) : Bool := law_18 well costs [] line rows prices opened every none
def law_17P (well : List Int) (costs : List Int) (line : List (Int × Int)) (rows : List (Int × Int × Int)) (prices : List Int) (opened : List (List (Int × Int))) (every : List Int) : Prop := (law_18P well costs [] line rows prices opened every none)
theorem law_17_w (well : List Int) (costs : List Int) (line : List (Int × Int)) (rows : List (Int × Int × Int)) (prices : List Int) (opened : List (List (Int × Int))) (every : List Int) (h : law_17P well costs line rows prices opened every) : WSs (X_law P w K mg base f cdv Ar outer s H E) G ⟨[none, some (.cell 1), none, some (En (α := Tp (Int × Int)) line), some (En (α := Tp (T3 Int Int Int)) rows), some (En (α := Tp Int) prices), none, some (En (α := List (Dc Int)) opened), some (En (α := List Int) every), some (.cell 2), none, none, none, none, none, none, none, none, none, none, none, none, none, none, none], [.tab q_law, Cl (α := Int) well, Cl (α := Int) costs]⟩ ((defBody s_law).drop 8) (EndR R_law (law_17 well costs line rows prices opened every)) := by
  have q443_ := h
  exact wss_sn (sn_par2 (i := 15) (j := 16) rfl sc_law.nd (ea_cons (ev_non) (ea_cons (ev_lstC (as := []) ea_nil) (ea_nil)))) (law_18_w B D_l_well D_l_line D_l_windows D_l_open D_l_lots D_l_one D_l_moments D_l_meet D_l_like D_l_dip DK_fewest_moved_0 D_is_enough_moved D_fewest_moved D_alive_at D_price_for DK_alive_at_1 D_moved_for D_l_mixed hr hB hGB hZ hcd TB RT TH FA FM ga gm DR_price well costs [] line rows prices opened every none q443_)
def law_8 (well : List Int) (costs : List Int) (line : List (Int × Int)) (rows : List (Int × Int × Int)) (prices : List Int) (opened : List (List (Int × Int))) (every : List Int) : Bool := (loopF (fun (v : (List Int)) (x : Int) => law_9 well v line rows prices opened every x) (rngL 0 ((opened.length : Int)).toNat) costs).fin (id) (fun (v : (List Int)) => law_17 well v line rows prices opened every)
def law_8P (well : List Int) (costs : List Int) (line : List (Int × Int)) (rows : List (Int × Int × Int)) (prices : List Int) (opened : List (List (Int × Int))) (every : List Int) : Prop := (RgOk (opened.length : Int)) ∧ (loopFP (fun (v : (List Int)) (x : Int) => law_9 well v line rows prices opened every x) (fun (v : (List Int)) (x : Int) => law_9P well v line rows prices opened every x) (rngL 0 ((opened.length : Int)).toNat) costs) ∧ (∀ v, (loopF (fun (v : (List Int)) (x : Int) => law_9 well v line rows prices opened every x) (rngL 0 ((opened.length : Int)).toNat) costs = .next v ∨ loopF (fun (v : (List Int)) (x : Int) => law_9 well v line rows prices opened every x) (rngL 0 ((opened.length : Int)).toNat) costs = .brk v) → (fun (v : (List Int)) => law_17P well v line rows prices opened every) v)
theorem law_8_w (well : List Int) (costs : List Int) (line : List (Int × Int)) (rows : List (Int × Int × Int)) (prices : List Int) (opened : List (List (Int × Int))) (every : List Int) (h : law_8P well costs line rows prices opened every) : WSs (X_law P w K mg base f cdv Ar outer s H E) G ⟨[none, some (.cell 1), none, some (En (α := Tp (Int × Int)) line), some (En (α := Tp (T3 Int Int Int)) rows), some (En (α := Tp Int) prices), none, some (En (α := List (Dc Int)) opened), some (En (α := List Int) every), some (.cell 2), none, none, none, none, none, none, none, none, none, none, none, none, none, none, none], [.tab q_law, Cl (α := Int) well, Cl (α := Int) costs]⟩ ((defBody s_law).drop 7) (EndR R_law (law_8 well costs line rows prices opened every)) := by
  obtain ⟨q300_, q444_, q445_⟩ := h
  exact wss_forM (α := Int) (xs := rngL 0 ((opened.length : Int)).toNat) (EndR R_law) (fun (v : (List Int)) (x : Int) => law_9 well v line rows prices opened every x) costs (fun (v : (List Int)) => ⟨[none, some (.cell 1), none, some (En (α := Tp (Int × Int)) line), some (En (α := Tp (T3 Int Int Int)) rows), some (En (α := Tp Int) prices), none, some (En (α := List (Dc Int)) opened), some (En (α := List Int) every), some (.cell 2), none, none, none, none, none, none, none, none, none, none, none, none, none, none, none], [.tab q_law, Cl (α := Int) well, Cl (α := Int) v]⟩) R_law (id) (fun (v : (List Int)) => law_17 well v line rows prices opened every) rfl PassesOwn.never rfl (es_rng1 B.range (ev_len (α := Dc Int) (xs := opened) B.len (ev_name (a := En (α := List (Dc Int)) opened) (i := 7)) (.inl (rdl (α := Dc Int)))) q300_) (fg_of (by exact And.intro (Or.inl rfl) (And.intro (Or.inr rfl) (And.intro (Or.inl rfl) (And.intro (Or.inr rfl) (And.intro (Or.inr rfl) (And.intro (Or.inr rfl) (And.intro (Or.inl rfl) (And.intro (Or.inr rfl) (And.intro (Or.inr rfl) (And.intro (Or.inr rfl) (And.intro (Or.inl rfl) (And.intro (Or.inl rfl) (And.intro (Or.inl rfl) (And.intro (Or.inl rfl) (And.intro (Or.inl rfl) (And.intro (Or.inl rfl) (And.intro (Or.inl rfl) (And.intro (Or.inl rfl) (And.intro (Or.inl rfl) (And.intro (Or.inl rfl) (And.intro (Or.inl rfl) (And.intro (Or.inl rfl) (And.intro (Or.inl rfl) (And.intro (Or.inl rfl) (And.intro (Or.inl rfl) (True.intro))))))))))))))))))))))))))) (fun i x v hx hv => ⟨_, _, eg_name (i := 10) sc_law.nd, law_9_w B D_l_well D_l_line D_l_windows D_l_open D_l_lots D_l_one D_l_moments D_l_meet D_l_like D_l_dip DK_fewest_moved_0 D_is_enough_moved D_fewest_moved D_alive_at D_price_for DK_alive_at_1 D_moved_for D_l_mixed hr hB hGB hZ hcd TB RT TH FA FM ga gm DR_price well v line rows prices opened every x (q444_ i x v hx hv)⟩) (fun _ _ _ h => h) (fun v hv => law_17_w B D_l_well D_l_line D_l_windows D_l_open D_l_lots D_l_one D_l_moments D_l_meet D_l_like D_l_dip DK_fewest_moved_0 D_is_enough_moved D_fewest_moved D_alive_at D_price_for DK_alive_at_1 D_moved_for D_l_mixed hr hB hGB hZ hcd TB RT TH FA FM ga gm DR_price well v line rows prices opened every (q445_ v hv))
def law_7 (well : List Int) (line : List (Int × Int)) (rows : List (Int × Int × Int)) (prices : List Int) (opened : List (List (Int × Int))) : Bool := law_8 well [] line rows prices opened (rngL 0 ((rows.length : Int)).toNat)
def law_7P (well : List Int) (line : List (Int × Int)) (rows : List (Int × Int × Int)) (prices : List Int) (opened : List (List (Int × Int))) : Prop := ((0 : Int) ≤ (rows.length : Int) ∧ (rows.length : Int) ≤ 100000) ∧ (law_8P well [] line rows prices opened (rngL 0 ((rows.length : Int)).toNat))
theorem law_7_w (well : List Int) (line : List (Int × Int)) (rows : List (Int × Int × Int)) (prices : List Int) (opened : List (List (Int × Int))) (h : law_7P well line rows prices opened) : WSs (X_law P w K mg base f cdv Ar outer s H E) G ⟨[none, some (.cell 1), none, some (En (α := Tp (Int × Int)) line), some (En (α := Tp (T3 Int Int Int)) rows), some (En (α := Tp Int) prices), none, some (En (α := List (Dc Int)) opened), none, none, none, none, none, none, none, none, none, none, none, none, none, none, none, none, none], [.tab q_law, Cl (α := Int) well]⟩ ((defBody s_law).drop 6) (EndR R_law (law_7 well line rows prices opened)) := by
  obtain ⟨q299_, q446_⟩ := h
  exact wss_sn (sn_par2 (i := 8) (j := 9) rfl sc_law.nd (ea_cons (ev_listR1 (n := (rows.length : Int)) rfl B.list B.range (ev_len (α := T3 Int Int Int) (xs := rows) B.len (ev_name (a := En (α := Tp (T3 Int Int Int)) rows) (i := 4)) (.inr (rdt (α := T3 Int Int Int)))) q299_) (ea_cons (ev_lstC (as := []) ea_nil) (ea_nil)))) (law_8_w B D_l_well D_l_line D_l_windows D_l_open D_l_lots D_l_one D_l_moments D_l_meet D_l_like D_l_dip DK_fewest_moved_0 D_is_enough_moved D_fewest_moved D_alive_at D_price_for DK_alive_at_1 D_moved_for D_l_mixed hr hB hGB hZ hcd TB RT TH FA FM ga gm DR_price well [] line rows prices opened (rngL 0 ((rows.length : Int)).toNat) q446_)
def law_6 (well : List Int) (line : List (Int × Int)) (rows : List (Int × Int × Int)) (prices : List Int) : Bool := law_7 well line rows prices (v_l_open (v_l_moments rows))
def law_6P (well : List Int) (line : List (Int × Int)) (rows : List (Int × Int × Int)) (prices : List Int) : Prop := (P_l_moments rows) ∧ (P_l_open (v_l_moments rows)) ∧ (law_7P well line rows prices (v_l_open (v_l_moments rows)))
theorem law_6_w (well : List Int) (line : List (Int × Int)) (rows : List (Int × Int × Int)) (prices : List Int) (h : law_6P well line rows prices) : WSs (X_law P w K mg base f cdv Ar outer s H E) G ⟨[none, some (.cell 1), none, some (En (α := Tp (Int × Int)) line), some (En (α := Tp (T3 Int Int Int)) rows), some (En (α := Tp Int) prices), none, none, none, none, none, none, none, none, none, none, none, none, none, none, none, none, none, none, none], [.tab q_law, Cl (α := Int) well]⟩ ((defBody s_law).drop 5) (EndR R_law (law_6 well line rows prices)) := by
  obtain ⟨q297_, q298_, q447_⟩ := h
  exact wss_sn (sn_set (i := 7) sc_law.nd (ev_cf (φ := φ_l_open) (ds := [Enc.enc (α := Tp (T3 Int Int Int)) (v_l_moments rows)]) (r := Enc.enc (α := List (Dc Int)) (v_l_open (v_l_moments rows))) D_l_open (hr.mono (by decide)) pass0 (ea_cons (ev_cf (φ := φ_l_moments) (ds := [Enc.enc (α := Tp (T3 Int Int Int)) rows]) (r := Enc.enc (α := Tp (T3 Int Int Int)) (v_l_moments rows)) D_l_moments (hr.mono (by decide)) pass0 (ea_cons (ev_name (a := En (α := Tp (T3 Int Int Int)) rows) (i := 4)) (ea_nil)) ⟨rows, rfl, rfl, q297_, rfl, rfl⟩) (ea_nil)) ⟨(v_l_moments rows), rfl, rfl, q298_, rfl, rfl⟩)) (law_7_w B D_l_well D_l_line D_l_windows D_l_open D_l_lots D_l_one D_l_moments D_l_meet D_l_like D_l_dip DK_fewest_moved_0 D_is_enough_moved D_fewest_moved D_alive_at D_price_for DK_alive_at_1 D_moved_for D_l_mixed hr hB hGB hZ hcd TB RT TH FA FM ga gm DR_price well line rows prices (v_l_open (v_l_moments rows)) q447_)
def law_5 (well : List Int) (locks : List Int) (line : List (Int × Int)) (rows : List (Int × Int × Int)) : Bool := law_6 ((lcRun (lcStep (fun (z280 : Int) (g280 : List Int) => true) (fun (z280 : Int) (g280 : List Int) => g280) (fun (z280 : Int) (g280 : List Int) => cond (decide ((0 : Int) < ((v_l_dip g280 (6 : Int)).1))) ((v_l_dip ((v_l_dip g280 (6 : Int)).2) (6 : Int)).1) ((10 ^ (9 : Nat) : Int) + ((v_l_dip ((v_l_dip g280 (6 : Int)).2) (99 : Int)).1))) (fun (z280 : Int) (g280 : List Int) => cond (decide ((0 : Int) < ((v_l_dip g280 (6 : Int)).1))) ((v_l_dip ((v_l_dip g280 (6 : Int)).2) (6 : Int)).2) ((v_l_dip ((v_l_dip g280 (6 : Int)).2) (99 : Int)).2))) locks well).2) line rows ((lcRun (lcStep (fun (z280 : Int) (g280 : List Int) => true) (fun (z280 : Int) (g280 : List Int) => g280) (fun (z280 : Int) (g280 : List Int) => cond (decide ((0 : Int) < ((v_l_dip g280 (6 : Int)).1))) ((v_l_dip ((v_l_dip g280 (6 : Int)).2) (6 : Int)).1) ((10 ^ (9 : Nat) : Int) + ((v_l_dip ((v_l_dip g280 (6 : Int)).2) (99 : Int)).1))) (fun (z280 : Int) (g280 : List Int) => cond (decide ((0 : Int) < ((v_l_dip g280 (6 : Int)).1))) ((v_l_dip ((v_l_dip g280 (6 : Int)).2) (6 : Int)).2) ((v_l_dip ((v_l_dip g280 (6 : Int)).2) (99 : Int)).2))) locks well).1)
def law_5P (well : List Int) (locks : List Int) (line : List (Int × Int)) (rows : List (Int × Int × Int)) : Prop := (∀ (i280 : Nat) (z280 : Int), locks[i280]? = some z280 → (fun (z280 : Int) (g280 : List Int) => true) z280 ((lcAt (lcStep (fun (z280 : Int) (g280 : List Int) => true) (fun (z280 : Int) (g280 : List Int) => g280) (fun (z280 : Int) (g280 : List Int) => cond (decide ((0 : Int) < ((v_l_dip g280 (6 : Int)).1))) ((v_l_dip ((v_l_dip g280 (6 : Int)).2) (6 : Int)).1) ((10 ^ (9 : Nat) : Int) + ((v_l_dip ((v_l_dip g280 (6 : Int)).2) (99 : Int)).1))) (fun (z280 : Int) (g280 : List Int) => cond (decide ((0 : Int) < ((v_l_dip g280 (6 : Int)).1))) ((v_l_dip ((v_l_dip g280 (6 : Int)).2) (6 : Int)).2) ((v_l_dip ((v_l_dip g280 (6 : Int)).2) (99 : Int)).2))) locks well i280).2) = true → (P_l_dip ((fun (z280 : Int) (g280 : List Int) => g280) z280 ((lcAt (lcStep (fun (z280 : Int) (g280 : List Int) => true) (fun (z280 : Int) (g280 : List Int) => g280) (fun (z280 : Int) (g280 : List Int) => cond (decide ((0 : Int) < ((v_l_dip g280 (6 : Int)).1))) ((v_l_dip ((v_l_dip g280 (6 : Int)).2) (6 : Int)).1) ((10 ^ (9 : Nat) : Int) + ((v_l_dip ((v_l_dip g280 (6 : Int)).2) (99 : Int)).1))) (fun (z280 : Int) (g280 : List Int) => cond (decide ((0 : Int) < ((v_l_dip g280 (6 : Int)).1))) ((v_l_dip ((v_l_dip g280 (6 : Int)).2) (6 : Int)).2) ((v_l_dip ((v_l_dip g280 (6 : Int)).2) (99 : Int)).2))) locks well i280).2)) (6 : Int)) ∧ ((decide ((0 : Int) < ((v_l_dip ((fun (z280 : Int) (g280 : List Int) => g280) z280 ((lcAt (lcStep (fun (z280 : Int) (g280 : List Int) => true) (fun (z280 : Int) (g280 : List Int) => g280) (fun (z280 : Int) (g280 : List Int) => cond (decide ((0 : Int) < ((v_l_dip g280 (6 : Int)).1))) ((v_l_dip ((v_l_dip g280 (6 : Int)).2) (6 : Int)).1) ((10 ^ (9 : Nat) : Int) + ((v_l_dip ((v_l_dip g280 (6 : Int)).2) (99 : Int)).1))) (fun (z280 : Int) (g280 : List Int) => cond (decide ((0 : Int) < ((v_l_dip g280 (6 : Int)).1))) ((v_l_dip ((v_l_dip g280 (6 : Int)).2) (6 : Int)).2) ((v_l_dip ((v_l_dip g280 (6 : Int)).2) (99 : Int)).2))) locks well i280).2)) (6 : Int)).1))) = true → (P_l_dip ((v_l_dip ((fun (z280 : Int) (g280 : List Int) => g280) z280 ((lcAt (lcStep (fun (z280 : Int) (g280 : List Int) => true) (fun (z280 : Int) (g280 : List Int) => g280) (fun (z280 : Int) (g280 : List Int) => cond (decide ((0 : Int) < ((v_l_dip g280 (6 : Int)).1))) ((v_l_dip ((v_l_dip g280 (6 : Int)).2) (6 : Int)).1) ((10 ^ (9 : Nat) : Int) + ((v_l_dip ((v_l_dip g280 (6 : Int)).2) (99 : Int)).1))) (fun (z280 : Int) (g280 : List Int) => cond (decide ((0 : Int) < ((v_l_dip g280 (6 : Int)).1))) ((v_l_dip ((v_l_dip g280 (6 : Int)).2) (6 : Int)).2) ((v_l_dip ((v_l_dip g280 (6 : Int)).2) (99 : Int)).2))) locks well i280).2)) (6 : Int)).2) (6 : Int))) ∧ ((decide ((0 : Int) < ((v_l_dip ((fun (z280 : Int) (g280 : List Int) => g280) z280 ((lcAt (lcStep (fun (z280 : Int) (g280 : List Int) => true) (fun (z280 : Int) (g280 : List Int) => g280) (fun (z280 : Int) (g280 : List Int) => cond (decide ((0 : Int) < ((v_l_dip g280 (6 : Int)).1))) ((v_l_dip ((v_l_dip g280 (6 : Int)).2) (6 : Int)).1) ((10 ^ (9 : Nat) : Int) + ((v_l_dip ((v_l_dip g280 (6 : Int)).2) (99 : Int)).1))) (fun (z280 : Int) (g280 : List Int) => cond (decide ((0 : Int) < ((v_l_dip g280 (6 : Int)).1))) ((v_l_dip ((v_l_dip g280 (6 : Int)).2) (6 : Int)).2) ((v_l_dip ((v_l_dip g280 (6 : Int)).2) (99 : Int)).2))) locks well i280).2)) (6 : Int)).1))) = false → (P_l_dip ((v_l_dip ((fun (z280 : Int) (g280 : List Int) => g280) z280 ((lcAt (lcStep (fun (z280 : Int) (g280 : List Int) => true) (fun (z280 : Int) (g280 : List Int) => g280) (fun (z280 : Int) (g280 : List Int) => cond (decide ((0 : Int) < ((v_l_dip g280 (6 : Int)).1))) ((v_l_dip ((v_l_dip g280 (6 : Int)).2) (6 : Int)).1) ((10 ^ (9 : Nat) : Int) + ((v_l_dip ((v_l_dip g280 (6 : Int)).2) (99 : Int)).1))) (fun (z280 : Int) (g280 : List Int) => cond (decide ((0 : Int) < ((v_l_dip g280 (6 : Int)).1))) ((v_l_dip ((v_l_dip g280 (6 : Int)).2) (6 : Int)).2) ((v_l_dip ((v_l_dip g280 (6 : Int)).2) (99 : Int)).2))) locks well i280).2)) (6 : Int)).2) (99 : Int)))) ∧ ((locks).length ≤ 100000) ∧ (law_6P ((lcRun (lcStep (fun (z280 : Int) (g280 : List Int) => true) (fun (z280 : Int) (g280 : List Int) => g280) (fun (z280 : Int) (g280 : List Int) => cond (decide ((0 : Int) < ((v_l_dip g280 (6 : Int)).1))) ((v_l_dip ((v_l_dip g280 (6 : Int)).2) (6 : Int)).1) ((10 ^ (9 : Nat) : Int) + ((v_l_dip ((v_l_dip g280 (6 : Int)).2) (99 : Int)).1))) (fun (z280 : Int) (g280 : List Int) => cond (decide ((0 : Int) < ((v_l_dip g280 (6 : Int)).1))) ((v_l_dip ((v_l_dip g280 (6 : Int)).2) (6 : Int)).2) ((v_l_dip ((v_l_dip g280 (6 : Int)).2) (99 : Int)).2))) locks well).2) line rows ((lcRun (lcStep (fun (z280 : Int) (g280 : List Int) => true) (fun (z280 : Int) (g280 : List Int) => g280) (fun (z280 : Int) (g280 : List Int) => cond (decide ((0 : Int) < ((v_l_dip g280 (6 : Int)).1))) ((v_l_dip ((v_l_dip g280 (6 : Int)).2) (6 : Int)).1) ((10 ^ (9 : Nat) : Int) + ((v_l_dip ((v_l_dip g280 (6 : Int)).2) (99 : Int)).1))) (fun (z280 : Int) (g280 : List Int) => cond (decide ((0 : Int) < ((v_l_dip g280 (6 : Int)).1))) ((v_l_dip ((v_l_dip g280 (6 : Int)).2) (6 : Int)).2) ((v_l_dip ((v_l_dip g280 (6 : Int)).2) (99 : Int)).2))) locks well).1))
theorem law_5_w (well : List Int) (locks : List Int) (line : List (Int × Int)) (rows : List (Int × Int × Int)) (h : law_5P well locks line rows) : WSs (X_law P w K mg base f cdv Ar outer s H E) G ⟨[none, some (.cell 1), some (En (α := List Int) locks), some (En (α := Tp (Int × Int)) line), some (En (α := Tp (T3 Int Int Int)) rows), none, none, none, none, none, none, none, none, none, none, none, none, none, none, none, none, none, none, none, none], [.tab q_law, Cl (α := Int) well]⟩ ((defBody s_law).drop 4) (EndR R_law (law_5 well locks line rows)) := by
  obtain ⟨q295_, q296_, q448_⟩ := h
  exact wss_sn (sn_set (i := 5) sc_law.nd (EV.be (En (α := Tp Int) ((lcRun (lcStep (fun (z280 : Int) (g280 : List Int) => true) (fun (z280 : Int) (g280 : List Int) => g280) (fun (z280 : Int) (g280 : List Int) => cond (decide ((0 : Int) < ((v_l_dip g280 (6 : Int)).1))) ((v_l_dip ((v_l_dip g280 (6 : Int)).2) (6 : Int)).1) ((10 ^ (9 : Nat) : Int) + ((v_l_dip ((v_l_dip g280 (6 : Int)).2) (99 : Int)).1))) (fun (z280 : Int) (g280 : List Int) => cond (decide ((0 : Int) < ((v_l_dip g280 (6 : Int)).1))) ((v_l_dip ((v_l_dip g280 (6 : Int)).2) (6 : Int)).2) ((v_l_dip ((v_l_dip g280 (6 : Int)).2) (99 : Int)).2))) locks well).1)) (ev_tupL (ds := List.map (Enc.enc (α := Int)) ((lcRun (lcStep (fun (z280 : Int) (g280 : List Int) => true) (fun (z280 : Int) (g280 : List Int) => g280) (fun (z280 : Int) (g280 : List Int) => cond (decide ((0 : Int) < ((v_l_dip g280 (6 : Int)).1))) ((v_l_dip ((v_l_dip g280 (6 : Int)).2) (6 : Int)).1) ((10 ^ (9 : Nat) : Int) + ((v_l_dip ((v_l_dip g280 (6 : Int)).2) (99 : Int)).1))) (fun (z280 : Int) (g280 : List Int) => cond (decide ((0 : Int) < ((v_l_dip g280 (6 : Int)).1))) ((v_l_dip ((v_l_dip g280 (6 : Int)).2) (6 : Int)).2) ((v_l_dip ((v_l_dip g280 (6 : Int)).2) (99 : Int)).2))) locks well).1)) B.tuple (lcS_any (α := Int) (β := Int) (γ := List Int) (xs := locks) well (fun (g280 : List Int) => [.tab q_law, Cl (α := Int) g280]) (fun (z280 : Int) (g280 : List Int) => true) (fun (z280 : Int) (g280 : List Int) => g280) (fun (z280 : Int) (g280 : List Int) => cond (decide ((0 : Int) < ((v_l_dip g280 (6 : Int)).1))) ((v_l_dip ((v_l_dip g280 (6 : Int)).2) (6 : Int)).1) ((10 ^ (9 : Nat) : Int) + ((v_l_dip ((v_l_dip g280 (6 : Int)).2) (99 : Int)).1))) (fun (z280 : Int) (g280 : List Int) => cond (decide ((0 : Int) < ((v_l_dip g280 (6 : Int)).1))) ((v_l_dip ((v_l_dip g280 (6 : Int)).2) (6 : Int)).2) ((v_l_dip ((v_l_dip g280 (6 : Int)).2) (99 : Int)).2)) (sl' := fun (z280 : Int) => [none, some (.cell 1), some (En (α := List Int) locks), some (En (α := Tp (Int × Int)) line), some (En (α := Tp (T3 Int Int Int)) rows), none, some (En (α := Int) z280), none, none, none, none, none, none, none, none, none, none, none, none, none, none, none, none, none, none]) [("lock", 6)] (lcm_pe rfl sc_law.nd (blkOk_by rfl)) (ei_of (es_lst (ev_name (a := En (α := List Int) locks) (i := 2)))) rfl (fun _ _ => trivial) q296_ (fun _ _ h => ClL.low (.same (.cl (.nil))) h) (fun _ => rfl) (fun _ _ _ _ _  z280 g280 c280 => eg_name (i := 6) sc_law.nd) (fun _ _ _ _ _  i280 z280 c280 hx280 => ets_nil) (fun _ _ _ _ _  i280 z280 c280 hx280 hp280 => ev_if (α := Int) (p := decide ((0 : Int) < ((v_l_dip ((fun (z280 : Int) (g280 : List Int) => g280) z280 ((lcAt (lcStep (fun (z280 : Int) (g280 : List Int) => true) (fun (z280 : Int) (g280 : List Int) => g280) (fun (z280 : Int) (g280 : List Int) => cond (decide ((0 : Int) < ((v_l_dip g280 (6 : Int)).1))) ((v_l_dip ((v_l_dip g280 (6 : Int)).2) (6 : Int)).1) ((10 ^ (9 : Nat) : Int) + ((v_l_dip ((v_l_dip g280 (6 : Int)).2) (99 : Int)).1))) (fun (z280 : Int) (g280 : List Int) => cond (decide ((0 : Int) < ((v_l_dip g280 (6 : Int)).1))) ((v_l_dip ((v_l_dip g280 (6 : Int)).2) (6 : Int)).2) ((v_l_dip ((v_l_dip g280 (6 : Int)).2) (99 : Int)).2))) locks well i280).2)) (6 : Int)).1))) (u := (v_l_dip ((v_l_dip ((fun (z280 : Int) (g280 : List Int) => g280) z280 ((lcAt (lcStep (fun (z280 : Int) (g280 : List Int) => true) (fun (z280 : Int) (g280 : List Int) => g280) (fun (z280 : Int) (g280 : List Int) => cond (decide ((0 : Int) < ((v_l_dip g280 (6 : Int)).1))) ((v_l_dip ((v_l_dip g280 (6 : Int)).2) (6 : Int)).1) ((10 ^ (9 : Nat) : Int) + ((v_l_dip ((v_l_dip g280 (6 : Int)).2) (99 : Int)).1))) (fun (z280 : Int) (g280 : List Int) => cond (decide ((0 : Int) < ((v_l_dip g280 (6 : Int)).1))) ((v_l_dip ((v_l_dip g280 (6 : Int)).2) (6 : Int)).2) ((v_l_dip ((v_l_dip g280 (6 : Int)).2) (99 : Int)).2))) locks well i280).2)) (6 : Int)).2) (6 : Int)).1) (v := (10 ^ (9 : Nat) : Int) + ((v_l_dip ((v_l_dip ((fun (z280 : Int) (g280 : List Int) => g280) z280 ((lcAt (lcStep (fun (z280 : Int) (g280 : List Int) => true) (fun (z280 : Int) (g280 : List Int) => g280) (fun (z280 : Int) (g280 : List Int) => cond (decide ((0 : Int) < ((v_l_dip g280 (6 : Int)).1))) ((v_l_dip ((v_l_dip g280 (6 : Int)).2) (6 : Int)).1) ((10 ^ (9 : Nat) : Int) + ((v_l_dip ((v_l_dip g280 (6 : Int)).2) (99 : Int)).1))) (fun (z280 : Int) (g280 : List Int) => cond (decide ((0 : Int) < ((v_l_dip g280 (6 : Int)).1))) ((v_l_dip ((v_l_dip g280 (6 : Int)).2) (6 : Int)).2) ((v_l_dip ((v_l_dip g280 (6 : Int)).2) (99 : Int)).2))) locks well i280).2)) (6 : Int)).2) (99 : Int)).1)) (S2 := fun b => ⟨[none, some (.cell 1), some (En (α := List Int) locks), some (En (α := Tp (Int × Int)) line), some (En (α := Tp (T3 Int Int Int)) rows), none, some (En (α := Int) z280), none, none, none, none, none, none, none, none, none, none, none, none, none, none, none, none, none, none], [.tab q_law, Cl (α := Int) (cond b ((v_l_dip ((v_l_dip ((fun (z280 : Int) (g280 : List Int) => g280) z280 ((lcAt (lcStep (fun (z280 : Int) (g280 : List Int) => true) (fun (z280 : Int) (g280 : List Int) => g280) (fun (z280 : Int) (g280 : List Int) => cond (decide ((0 : Int) < ((v_l_dip g280 (6 : Int)).1))) ((v_l_dip ((v_l_dip g280 (6 : Int)).2) (6 : Int)).1) ((10 ^ (9 : Nat) : Int) + ((v_l_dip ((v_l_dip g280 (6 : Int)).2) (99 : Int)).1))) (fun (z280 : Int) (g280 : List Int) => cond (decide ((0 : Int) < ((v_l_dip g280 (6 : Int)).1))) ((v_l_dip ((v_l_dip g280 (6 : Int)).2) (6 : Int)).2) ((v_l_dip ((v_l_dip g280 (6 : Int)).2) (99 : Int)).2))) locks well i280).2)) (6 : Int)).2) (6 : Int)).2) ((v_l_dip ((v_l_dip ((fun (z280 : Int) (g280 : List Int) => g280) z280 ((lcAt (lcStep (fun (z280 : Int) (g280 : List Int) => true) (fun (z280 : Int) (g280 : List Int) => g280) (fun (z280 : Int) (g280 : List Int) => cond (decide ((0 : Int) < ((v_l_dip g280 (6 : Int)).1))) ((v_l_dip ((v_l_dip g280 (6 : Int)).2) (6 : Int)).1) ((10 ^ (9 : Nat) : Int) + ((v_l_dip ((v_l_dip g280 (6 : Int)).2) (99 : Int)).1))) (fun (z280 : Int) (g280 : List Int) => cond (decide ((0 : Int) < ((v_l_dip g280 (6 : Int)).1))) ((v_l_dip ((v_l_dip g280 (6 : Int)).2) (6 : Int)).2) ((v_l_dip ((v_l_dip g280 (6 : Int)).2) (99 : Int)).2))) locks well i280).2)) (6 : Int)).2) (99 : Int)).2)), c280]⟩) (et_gt (ev_cf1 (φ := φ_l_dip) (j := 1) (α := Int) (xs := ((fun (z280 : Int) (g280 : List Int) => g280) z280 ((lcAt (lcStep (fun (z280 : Int) (g280 : List Int) => true) (fun (z280 : Int) (g280 : List Int) => g280) (fun (z280 : Int) (g280 : List Int) => cond (decide ((0 : Int) < ((v_l_dip g280 (6 : Int)).1))) ((v_l_dip ((v_l_dip g280 (6 : Int)).2) (6 : Int)).1) ((10 ^ (9 : Nat) : Int) + ((v_l_dip ((v_l_dip g280 (6 : Int)).2) (99 : Int)).1))) (fun (z280 : Int) (g280 : List Int) => cond (decide ((0 : Int) < ((v_l_dip g280 (6 : Int)).1))) ((v_l_dip ((v_l_dip g280 (6 : Int)).2) (6 : Int)).2) ((v_l_dip ((v_l_dip g280 (6 : Int)).2) (99 : Int)).2))) locks well i280).2))) (ys := (v_l_dip ((fun (z280 : Int) (g280 : List Int) => g280) z280 ((lcAt (lcStep (fun (z280 : Int) (g280 : List Int) => true) (fun (z280 : Int) (g280 : List Int) => g280) (fun (z280 : Int) (g280 : List Int) => cond (decide ((0 : Int) < ((v_l_dip g280 (6 : Int)).1))) ((v_l_dip ((v_l_dip g280 (6 : Int)).2) (6 : Int)).1) ((10 ^ (9 : Nat) : Int) + ((v_l_dip ((v_l_dip g280 (6 : Int)).2) (99 : Int)).1))) (fun (z280 : Int) (g280 : List Int) => cond (decide ((0 : Int) < ((v_l_dip g280 (6 : Int)).1))) ((v_l_dip ((v_l_dip g280 (6 : Int)).2) (6 : Int)).2) ((v_l_dip ((v_l_dip g280 (6 : Int)).2) (99 : Int)).2))) locks well i280).2)) (6 : Int)).2) (args := [.cell 0, En (α := Int) (6 : Int)]) (r := Enc.enc (α := Int) ((v_l_dip ((fun (z280 : Int) (g280 : List Int) => g280) z280 ((lcAt (lcStep (fun (z280 : Int) (g280 : List Int) => true) (fun (z280 : Int) (g280 : List Int) => g280) (fun (z280 : Int) (g280 : List Int) => cond (decide ((0 : Int) < ((v_l_dip g280 (6 : Int)).1))) ((v_l_dip ((v_l_dip g280 (6 : Int)).2) (6 : Int)).1) ((10 ^ (9 : Nat) : Int) + ((v_l_dip ((v_l_dip g280 (6 : Int)).2) (99 : Int)).1))) (fun (z280 : Int) (g280 : List Int) => cond (decide ((0 : Int) < ((v_l_dip g280 (6 : Int)).1))) ((v_l_dip ((v_l_dip g280 (6 : Int)).2) (6 : Int)).2) ((v_l_dip ((v_l_dip g280 (6 : Int)).2) (99 : Int)).2))) locks well i280).2)) (6 : Int)).1)) D_l_dip (hr.mono (by decide)) pass0 (ea_cons (ev_name (a := .cell 1) (i := 1)) (ea_cons (ev_int) (ea_nil))) ⟨((fun (z280 : Int) (g280 : List Int) => g280) z280 ((lcAt (lcStep (fun (z280 : Int) (g280 : List Int) => true) (fun (z280 : Int) (g280 : List Int) => g280) (fun (z280 : Int) (g280 : List Int) => cond (decide ((0 : Int) < ((v_l_dip g280 (6 : Int)).1))) ((v_l_dip ((v_l_dip g280 (6 : Int)).2) (6 : Int)).1) ((10 ^ (9 : Nat) : Int) + ((v_l_dip ((v_l_dip g280 (6 : Int)).2) (99 : Int)).1))) (fun (z280 : Int) (g280 : List Int) => cond (decide ((0 : Int) < ((v_l_dip g280 (6 : Int)).1))) ((v_l_dip ((v_l_dip g280 (6 : Int)).2) (6 : Int)).2) ((v_l_dip ((v_l_dip g280 (6 : Int)).2) (99 : Int)).2))) locks well i280).2)), (6 : Int), rfl, rfl, (q295_ i280 z280 hx280 hp280).1, rfl, rfl⟩ (fun k h => by simp at h) rfl) (ev_int)) (fun hp291_ => ev_cf1 (φ := φ_l_dip) (j := 1) (α := Int) (xs := (v_l_dip ((fun (z280 : Int) (g280 : List Int) => g280) z280 ((lcAt (lcStep (fun (z280 : Int) (g280 : List Int) => true) (fun (z280 : Int) (g280 : List Int) => g280) (fun (z280 : Int) (g280 : List Int) => cond (decide ((0 : Int) < ((v_l_dip g280 (6 : Int)).1))) ((v_l_dip ((v_l_dip g280 (6 : Int)).2) (6 : Int)).1) ((10 ^ (9 : Nat) : Int) + ((v_l_dip ((v_l_dip g280 (6 : Int)).2) (99 : Int)).1))) (fun (z280 : Int) (g280 : List Int) => cond (decide ((0 : Int) < ((v_l_dip g280 (6 : Int)).1))) ((v_l_dip ((v_l_dip g280 (6 : Int)).2) (6 : Int)).2) ((v_l_dip ((v_l_dip g280 (6 : Int)).2) (99 : Int)).2))) locks well i280).2)) (6 : Int)).2) (ys := (v_l_dip ((v_l_dip ((fun (z280 : Int) (g280 : List Int) => g280) z280 ((lcAt (lcStep (fun (z280 : Int) (g280 : List Int) => true) (fun (z280 : Int) (g280 : List Int) => g280) (fun (z280 : Int) (g280 : List Int) => cond (decide ((0 : Int) < ((v_l_dip g280 (6 : Int)).1))) ((v_l_dip ((v_l_dip g280 (6 : Int)).2) (6 : Int)).1) ((10 ^ (9 : Nat) : Int) + ((v_l_dip ((v_l_dip g280 (6 : Int)).2) (99 : Int)).1))) (fun (z280 : Int) (g280 : List Int) => cond (decide ((0 : Int) < ((v_l_dip g280 (6 : Int)).1))) ((v_l_dip ((v_l_dip g280 (6 : Int)).2) (6 : Int)).2) ((v_l_dip ((v_l_dip g280 (6 : Int)).2) (99 : Int)).2))) locks well i280).2)) (6 : Int)).2) (6 : Int)).2) (args := [.cell 0, En (α := Int) (6 : Int)]) (r := Enc.enc (α := Int) ((v_l_dip ((v_l_dip ((fun (z280 : Int) (g280 : List Int) => g280) z280 ((lcAt (lcStep (fun (z280 : Int) (g280 : List Int) => true) (fun (z280 : Int) (g280 : List Int) => g280) (fun (z280 : Int) (g280 : List Int) => cond (decide ((0 : Int) < ((v_l_dip g280 (6 : Int)).1))) ((v_l_dip ((v_l_dip g280 (6 : Int)).2) (6 : Int)).1) ((10 ^ (9 : Nat) : Int) + ((v_l_dip ((v_l_dip g280 (6 : Int)).2) (99 : Int)).1))) (fun (z280 : Int) (g280 : List Int) => cond (decide ((0 : Int) < ((v_l_dip g280 (6 : Int)).1))) ((v_l_dip ((v_l_dip g280 (6 : Int)).2) (6 : Int)).2) ((v_l_dip ((v_l_dip g280 (6 : Int)).2) (99 : Int)).2))) locks well i280).2)) (6 : Int)).2) (6 : Int)).1)) D_l_dip (hr.mono (by decide)) pass0 (ea_cons (ev_name (a := .cell 1) (i := 1)) (ea_cons (ev_int) (ea_nil))) ⟨((v_l_dip ((fun (z280 : Int) (g280 : List Int) => g280) z280 ((lcAt (lcStep (fun (z280 : Int) (g280 : List Int) => true) (fun (z280 : Int) (g280 : List Int) => g280) (fun (z280 : Int) (g280 : List Int) => cond (decide ((0 : Int) < ((v_l_dip g280 (6 : Int)).1))) ((v_l_dip ((v_l_dip g280 (6 : Int)).2) (6 : Int)).1) ((10 ^ (9 : Nat) : Int) + ((v_l_dip ((v_l_dip g280 (6 : Int)).2) (99 : Int)).1))) (fun (z280 : Int) (g280 : List Int) => cond (decide ((0 : Int) < ((v_l_dip g280 (6 : Int)).1))) ((v_l_dip ((v_l_dip g280 (6 : Int)).2) (6 : Int)).2) ((v_l_dip ((v_l_dip g280 (6 : Int)).2) (99 : Int)).2))) locks well i280).2)) (6 : Int)).2), (6 : Int), rfl, rfl, ((q295_ i280 z280 hx280 hp280).2.1 hp291_), rfl, rfl⟩ (fun k h => by simp at h) rfl) (fun hp292_ => ev_add (ev_pow (ev_int) (ev_int) ⟨by decide, by decide, by decide⟩) (ev_cf1 (φ := φ_l_dip) (j := 1) (α := Int) (xs := (v_l_dip ((fun (z280 : Int) (g280 : List Int) => g280) z280 ((lcAt (lcStep (fun (z280 : Int) (g280 : List Int) => true) (fun (z280 : Int) (g280 : List Int) => g280) (fun (z280 : Int) (g280 : List Int) => cond (decide ((0 : Int) < ((v_l_dip g280 (6 : Int)).1))) ((v_l_dip ((v_l_dip g280 (6 : Int)).2) (6 : Int)).1) ((10 ^ (9 : Nat) : Int) + ((v_l_dip ((v_l_dip g280 (6 : Int)).2) (99 : Int)).1))) (fun (z280 : Int) (g280 : List Int) => cond (decide ((0 : Int) < ((v_l_dip g280 (6 : Int)).1))) ((v_l_dip ((v_l_dip g280 (6 : Int)).2) (6 : Int)).2) ((v_l_dip ((v_l_dip g280 (6 : Int)).2) (99 : Int)).2))) locks well i280).2)) (6 : Int)).2) (ys := (v_l_dip ((v_l_dip ((fun (z280 : Int) (g280 : List Int) => g280) z280 ((lcAt (lcStep (fun (z280 : Int) (g280 : List Int) => true) (fun (z280 : Int) (g280 : List Int) => g280) (fun (z280 : Int) (g280 : List Int) => cond (decide ((0 : Int) < ((v_l_dip g280 (6 : Int)).1))) ((v_l_dip ((v_l_dip g280 (6 : Int)).2) (6 : Int)).1) ((10 ^ (9 : Nat) : Int) + ((v_l_dip ((v_l_dip g280 (6 : Int)).2) (99 : Int)).1))) (fun (z280 : Int) (g280 : List Int) => cond (decide ((0 : Int) < ((v_l_dip g280 (6 : Int)).1))) ((v_l_dip ((v_l_dip g280 (6 : Int)).2) (6 : Int)).2) ((v_l_dip ((v_l_dip g280 (6 : Int)).2) (99 : Int)).2))) locks well i280).2)) (6 : Int)).2) (99 : Int)).2) (args := [.cell 0, En (α := Int) (99 : Int)]) (r := Enc.enc (α := Int) ((v_l_dip ((v_l_dip ((fun (z280 : Int) (g280 : List Int) => g280) z280 ((lcAt (lcStep (fun (z280 : Int) (g280 : List Int) => true) (fun (z280 : Int) (g280 : List Int) => g280) (fun (z280 : Int) (g280 : List Int) => cond (decide ((0 : Int) < ((v_l_dip g280 (6 : Int)).1))) ((v_l_dip ((v_l_dip g280 (6 : Int)).2) (6 : Int)).1) ((10 ^ (9 : Nat) : Int) + ((v_l_dip ((v_l_dip g280 (6 : Int)).2) (99 : Int)).1))) (fun (z280 : Int) (g280 : List Int) => cond (decide ((0 : Int) < ((v_l_dip g280 (6 : Int)).1))) ((v_l_dip ((v_l_dip g280 (6 : Int)).2) (6 : Int)).2) ((v_l_dip ((v_l_dip g280 (6 : Int)).2) (99 : Int)).2))) locks well i280).2)) (6 : Int)).2) (99 : Int)).1)) D_l_dip (hr.mono (by decide)) pass0 (ea_cons (ev_name (a := .cell 1) (i := 1)) (ea_cons (ev_int) (ea_nil))) ⟨((v_l_dip ((fun (z280 : Int) (g280 : List Int) => g280) z280 ((lcAt (lcStep (fun (z280 : Int) (g280 : List Int) => true) (fun (z280 : Int) (g280 : List Int) => g280) (fun (z280 : Int) (g280 : List Int) => cond (decide ((0 : Int) < ((v_l_dip g280 (6 : Int)).1))) ((v_l_dip ((v_l_dip g280 (6 : Int)).2) (6 : Int)).1) ((10 ^ (9 : Nat) : Int) + ((v_l_dip ((v_l_dip g280 (6 : Int)).2) (99 : Int)).1))) (fun (z280 : Int) (g280 : List Int) => cond (decide ((0 : Int) < ((v_l_dip g280 (6 : Int)).1))) ((v_l_dip ((v_l_dip g280 (6 : Int)).2) (6 : Int)).2) ((v_l_dip ((v_l_dip g280 (6 : Int)).2) (99 : Int)).2))) locks well i280).2)) (6 : Int)).2), (99 : Int), rfl, rfl, ((q295_ i280 z280 hx280 hp280).2.2 hp292_), rfl, rfl⟩ (fun k h => by simp at h) rfl)))) ((rdl (α := Int)))))) (wss_fg (fg_of (by exact And.intro (Or.inl rfl) (And.intro (Or.inr rfl) (And.intro (Or.inl rfl) (And.intro (Or.inr rfl) (And.intro (Or.inr rfl) (And.intro (Or.inr rfl) (And.intro (Or.inl rfl) (And.intro (Or.inl rfl) (And.intro (Or.inl rfl) (And.intro (Or.inl rfl) (And.intro (Or.inl rfl) (And.intro (Or.inl rfl) (And.intro (Or.inl rfl) (And.intro (Or.inl rfl) (And.intro (Or.inl rfl) (And.intro (Or.inl rfl) (And.intro (Or.inl rfl) (And.intro (Or.inl rfl) (And.intro (Or.inl rfl) (And.intro (Or.inl rfl) (And.intro (Or.inl rfl) (And.intro (Or.inl rfl) (And.intro (Or.inl rfl) (And.intro (Or.inl rfl) (And.intro (Or.inl rfl) (True.intro))))))))))))))))))))))))))) (law_6_w B D_l_well D_l_line D_l_windows D_l_open D_l_lots D_l_one D_l_moments D_l_meet D_l_like D_l_dip DK_fewest_moved_0 D_is_enough_moved D_fewest_moved D_alive_at D_price_for DK_alive_at_1 D_moved_for D_l_mixed hr hB hGB hZ hcd TB RT TH FA FM ga gm DR_price ((lcRun (lcStep (fun (z280 : Int) (g280 : List Int) => true) (fun (z280 : Int) (g280 : List Int) => g280) (fun (z280 : Int) (g280 : List Int) => cond (decide ((0 : Int) < ((v_l_dip g280 (6 : Int)).1))) ((v_l_dip ((v_l_dip g280 (6 : Int)).2) (6 : Int)).1) ((10 ^ (9 : Nat) : Int) + ((v_l_dip ((v_l_dip g280 (6 : Int)).2) (99 : Int)).1))) (fun (z280 : Int) (g280 : List Int) => cond (decide ((0 : Int) < ((v_l_dip g280 (6 : Int)).1))) ((v_l_dip ((v_l_dip g280 (6 : Int)).2) (6 : Int)).2) ((v_l_dip ((v_l_dip g280 (6 : Int)).2) (99 : Int)).2))) locks well).2) line rows ((lcRun (lcStep (fun (z280 : Int) (g280 : List Int) => true) (fun (z280 : Int) (g280 : List Int) => g280) (fun (z280 : Int) (g280 : List Int) => cond (decide ((0 : Int) < ((v_l_dip g280 (6 : Int)).1))) ((v_l_dip ((v_l_dip g280 (6 : Int)).2) (6 : Int)).1) ((10 ^ (9 : Nat) : Int) + ((v_l_dip ((v_l_dip g280 (6 : Int)).2) (99 : Int)).1))) (fun (z280 : Int) (g280 : List Int) => cond (decide ((0 : Int) < ((v_l_dip g280 (6 : Int)).1))) ((v_l_dip ((v_l_dip g280 (6 : Int)).2) (6 : Int)).2) ((v_l_dip ((v_l_dip g280 (6 : Int)).2) (99 : Int)).2))) locks well).1) q448_))
def law_4 (well : List Int) (locks : List Int) (line : List (Int × Int)) : Bool := law_5 well locks line (v_l_windows line)
def law_4P (well : List Int) (locks : List Int) (line : List (Int × Int)) : Prop := (P_l_windows line) ∧ (law_5P well locks line (v_l_windows line))
theorem law_4_w (well : List Int) (locks : List Int) (line : List (Int × Int)) (h : law_4P well locks line) : WSs (X_law P w K mg base f cdv Ar outer s H E) G ⟨[none, some (.cell 1), some (En (α := List Int) locks), some (En (α := Tp (Int × Int)) line), none, none, none, none, none, none, none, none, none, none, none, none, none, none, none, none, none, none, none, none, none], [.tab q_law, Cl (α := Int) well]⟩ ((defBody s_law).drop 3) (EndR R_law (law_4 well locks line)) := by
  obtain ⟨q271_, q449_⟩ := h
  exact wss_sn (sn_set (i := 4) sc_law.nd (ev_cf (φ := φ_l_windows) (ds := [Enc.enc (α := Tp (Int × Int)) line]) (r := Enc.enc (α := Tp (T3 Int Int Int)) (v_l_windows line)) D_l_windows (hr.mono (by decide)) pass0 (ea_cons (ev_name (a := En (α := Tp (Int × Int)) line) (i := 3)) (ea_nil)) ⟨line, rfl, rfl, q271_, rfl, rfl⟩)) (law_5_w B D_l_well D_l_line D_l_windows D_l_open D_l_lots D_l_one D_l_moments D_l_meet D_l_like D_l_dip DK_fewest_moved_0 D_is_enough_moved D_fewest_moved D_alive_at D_price_for DK_alive_at_1 D_moved_for D_l_mixed hr hB hGB hZ hcd TB RT TH FA FM ga gm DR_price well locks line (v_l_windows line) q449_)
def law_3 (well : List Int) (locks : List Int) : Bool := law_4 ((v_l_line ((v_l_one (α := Int) well [(4 : Int), (6 : Int), (7 : Int)]).2) locks ((v_l_one (α := Int) well [(4 : Int), (6 : Int), (7 : Int)]).1)).2) locks ((v_l_line ((v_l_one (α := Int) well [(4 : Int), (6 : Int), (7 : Int)]).2) locks ((v_l_one (α := Int) well [(4 : Int), (6 : Int), (7 : Int)]).1)).1)
def law_3P (well : List Int) (locks : List Int) : Prop := (P_l_one (α := Int) well [(4 : Int), (6 : Int), (7 : Int)]) ∧ (P_l_line ((v_l_one (α := Int) well [(4 : Int), (6 : Int), (7 : Int)]).2) locks ((v_l_one (α := Int) well [(4 : Int), (6 : Int), (7 : Int)]).1)) ∧ (law_4P ((v_l_line ((v_l_one (α := Int) well [(4 : Int), (6 : Int), (7 : Int)]).2) locks ((v_l_one (α := Int) well [(4 : Int), (6 : Int), (7 : Int)]).1)).2) locks ((v_l_line ((v_l_one (α := Int) well [(4 : Int), (6 : Int), (7 : Int)]).2) locks ((v_l_one (α := Int) well [(4 : Int), (6 : Int), (7 : Int)]).1)).1))
theorem law_3_w (well : List Int) (locks : List Int) (h : law_3P well locks) : WSs (X_law P w K mg base f cdv Ar outer s H E) G ⟨[none, some (.cell 1), some (En (α := List Int) locks), none, none, none, none, none, none, none, none, none, none, none, none, none, none, none, none, none, none, none, none, none, none], [.tab q_law, Cl (α := Int) well]⟩ ((defBody s_law).drop 2) (EndR R_law (law_3 well locks)) := by
  obtain ⟨q269_, q270_, q450_⟩ := h
  exact wss_sn (sn_set (i := 3) sc_law.nd (ev_cf1 (φ := φ_l_line) (j := 1) (α := Int) (xs := (v_l_one (α := Int) well [(4 : Int), (6 : Int), (7 : Int)]).2) (ys := (v_l_line ((v_l_one (α := Int) well [(4 : Int), (6 : Int), (7 : Int)]).2) locks ((v_l_one (α := Int) well [(4 : Int), (6 : Int), (7 : Int)]).1)).2) (args := [.cell 0, En (α := List Int) locks, En (α := Int) ((v_l_one (α := Int) well [(4 : Int), (6 : Int), (7 : Int)]).1)]) (r := Enc.enc (α := Tp (Int × Int)) ((v_l_line ((v_l_one (α := Int) well [(4 : Int), (6 : Int), (7 : Int)]).2) locks ((v_l_one (α := Int) well [(4 : Int), (6 : Int), (7 : Int)]).1)).1)) D_l_line (hr.mono (by decide)) pass0 (ea_cons (ev_name (a := .cell 1) (i := 1)) (ea_cons (ev_name (a := En (α := List Int) locks) (i := 2)) (ea_cons (ev_cf1 (φ := φ_l_one) (j := 1) (α := Int) (xs := well) (ys := (v_l_one (α := Int) well [(4 : Int), (6 : Int), (7 : Int)]).2) (args := [.cell 0, En (α := List Int) [(4 : Int), (6 : Int), (7 : Int)]]) (r := Enc.enc (α := Int) ((v_l_one (α := Int) well [(4 : Int), (6 : Int), (7 : Int)]).1)) D_l_one (hr.mono (by decide)) pass0 (ea_cons (ev_name (a := .cell 1) (i := 1)) (ea_cons (EV.be (En (α := List Int) [(4 : Int), (6 : Int), (7 : Int)]) (ev_lst (ds := [Enc.enc (α := Int) (4 : Int), Enc.enc (α := Int) (6 : Int), Enc.enc (α := Int) (7 : Int)]) (ea_cons (ev_int) (ea_cons (ev_int) (ea_cons (ev_int) (ea_nil)))))) (ea_nil))) ⟨_, _, _, well, [(4 : Int), (6 : Int), (7 : Int)], rfl, rfl, q269_, rfl, rfl⟩ (fun k h => by simp at h) rfl) (ea_nil)))) ⟨((v_l_one (α := Int) well [(4 : Int), (6 : Int), (7 : Int)]).2), locks, ((v_l_one (α := Int) well [(4 : Int), (6 : Int), (7 : Int)]).1), rfl, rfl, q270_, rfl, rfl⟩ (fun k h => by simp at h) rfl)) (law_4_w B D_l_well D_l_line D_l_windows D_l_open D_l_lots D_l_one D_l_moments D_l_meet D_l_like D_l_dip DK_fewest_moved_0 D_is_enough_moved D_fewest_moved D_alive_at D_price_for DK_alive_at_1 D_moved_for D_l_mixed hr hB hGB hZ hcd TB RT TH FA FM ga gm DR_price ((v_l_line ((v_l_one (α := Int) well [(4 : Int), (6 : Int), (7 : Int)]).2) locks ((v_l_one (α := Int) well [(4 : Int), (6 : Int), (7 : Int)]).1)).2) locks ((v_l_line ((v_l_one (α := Int) well [(4 : Int), (6 : Int), (7 : Int)]).2) locks ((v_l_one (α := Int) well [(4 : Int), (6 : Int), (7 : Int)]).1)).1) q450_)
def law_2 (well : List Int) : Bool := law_3 ((v_l_dip well (4 : Int)).2) (rngL 0 ((1 : Int) + ((v_l_dip well (4 : Int)).1)).toNat)
def law_2P (well : List Int) : Prop := (P_l_dip well (4 : Int)) ∧ ((0 : Int) ≤ ((1 : Int) + ((v_l_dip well (4 : Int)).1)) ∧ ((1 : Int) + ((v_l_dip well (4 : Int)).1)) ≤ 100000) ∧ (law_3P ((v_l_dip well (4 : Int)).2) (rngL 0 ((1 : Int) + ((v_l_dip well (4 : Int)).1)).toNat))
theorem law_2_w (well : List Int) (h : law_2P well) : WSs (X_law P w K mg base f cdv Ar outer s H E) G ⟨[none, some (.cell 1), none, none, none, none, none, none, none, none, none, none, none, none, none, none, none, none, none, none, none, none, none, none, none], [.tab q_law, Cl (α := Int) well]⟩ ((defBody s_law).drop 1) (EndR R_law (law_2 well)) := by
  obtain ⟨q267_, q268_, q451_⟩ := h
  exact wss_sn (sn_set (i := 2) sc_law.nd (ev_listR1 (n := (1 : Int) + ((v_l_dip well (4 : Int)).1)) rfl B.list B.range (ev_add (ev_int) (ev_cf1 (φ := φ_l_dip) (j := 1) (α := Int) (xs := well) (ys := (v_l_dip well (4 : Int)).2) (args := [.cell 0, En (α := Int) (4 : Int)]) (r := Enc.enc (α := Int) ((v_l_dip well (4 : Int)).1)) D_l_dip (hr.mono (by decide)) pass0 (ea_cons (ev_name (a := .cell 1) (i := 1)) (ea_cons (ev_int) (ea_nil))) ⟨well, (4 : Int), rfl, rfl, q267_, rfl, rfl⟩ (fun k h => by simp at h) rfl)) q268_)) (law_3_w B D_l_well D_l_line D_l_windows D_l_open D_l_lots D_l_one D_l_moments D_l_meet D_l_like D_l_dip DK_fewest_moved_0 D_is_enough_moved D_fewest_moved D_alive_at D_price_for DK_alive_at_1 D_moved_for D_l_mixed hr hB hGB hZ hcd TB RT TH FA FM ga gm DR_price ((v_l_dip well (4 : Int)).2) (rngL 0 ((1 : Int) + ((v_l_dip well (4 : Int)).1)).toNat) q451_)
def law_1 (script : List Int) : Bool := law_2 (v_l_well script (0 : Int))
def law_1P (script : List Int) : Prop := (P_l_well script (0 : Int)) ∧ (law_2P (v_l_well script (0 : Int)))
theorem law_1_w (script : List Int) (h : law_1P script) : WSs (X_law P w K mg base f cdv Ar outer s H E) G ⟨[some (En (α := Ro Int) script), none, none, none, none, none, none, none, none, none, none, none, none, none, none, none, none, none, none, none, none, none, none, none, none], [.tab q_law]⟩ (defBody s_law) (EndR R_law (law_1 script)) := by
  obtain ⟨q266_, q452_⟩ := h
  exact wss_sn (sn_set (i := 1) sc_law.nd (ev_cfN (φ := φ_l_well) (α := Int) (ys := v_l_well script (0 : Int)) (ds := [Enc.enc (α := Ro Int) script, Enc.enc (α := Int) (0 : Int)]) D_l_well (hr.mono (by decide)) pass0 (ea_cons (ev_name (a := En (α := Ro Int) script) (i := 0)) (ea_cons (ev_int) (ea_nil))) ⟨script, (0 : Int), rfl, rfl, q266_, rfl, rfl⟩)) (wss_fg (fg_of (by exact And.intro (Or.inl rfl) (And.intro (Or.inr rfl) (And.intro (Or.inl rfl) (And.intro (Or.inl rfl) (And.intro (Or.inl rfl) (And.intro (Or.inl rfl) (And.intro (Or.inl rfl) (And.intro (Or.inl rfl) (And.intro (Or.inl rfl) (And.intro (Or.inl rfl) (And.intro (Or.inl rfl) (And.intro (Or.inl rfl) (And.intro (Or.inl rfl) (And.intro (Or.inl rfl) (And.intro (Or.inl rfl) (And.intro (Or.inl rfl) (And.intro (Or.inl rfl) (And.intro (Or.inl rfl) (And.intro (Or.inl rfl) (And.intro (Or.inl rfl) (And.intro (Or.inl rfl) (And.intro (Or.inl rfl) (And.intro (Or.inl rfl) (And.intro (Or.inl rfl) (And.intro (Or.inl rfl) (True.intro))))))))))))))))))))))))))) (law_2_w B D_l_well D_l_line D_l_windows D_l_open D_l_lots D_l_one D_l_moments D_l_meet D_l_like D_l_dip DK_fewest_moved_0 D_is_enough_moved D_fewest_moved D_alive_at D_price_for DK_alive_at_1 D_moved_for D_l_mixed hr hB hGB hZ hcd TB RT TH FA FM ga gm DR_price (v_l_well script (0 : Int)) q452_))
def v_law (script : List Int) : Bool := law_1 script
def P_law (script : List Int) : Prop := law_1P script
end
end My
set_option Elab.async false
set_option linter.all false
set_option maxRecDepth 100000
namespace My
open PySem PySem.Spec PyProof.Rows L2 Ab
/-- what the loops of the law need of its line -/
structure LN (L : List (Int × Int)) (prices : List Int) (n T : Nat) (c : Nat → Int) (p g : Nat → Nat) (ok : List Int) (most : Int) : Prop where
  line : IsLine ok most L
  hm : most ≤ 39
  hn : n ≤ 39
  hT : T ≤ 79
  w : LW ok L n c p g
  y : LY ok L n T c (fun i => lay L (p i)) (fun i => lay L (g i))
  hp : ∀ x ∈ ok, InR x prices.length
  pos : ∀ x ∈ prices, 0 ≤ x
variable {L : List (Int × Int)} {prices : List Int} {n T : Nat} {c : Nat → Int} {p g : Nat → Nat} {ok : List Int} {most : Int}
abbrev AL (L : List (Int × Int)) (n : Nat) (p g : Nat → Nat) (t : Nat) : List Int := al n (fun i => lay L (p i)) (fun i => lay L (g i)) t
abbrev MV (L : List (Int × Int)) (n : Nat) (p g : Nat → Nat) (t : Nat) : List Int := mv n (fun i => lay L (p i)) (fun i => lay L (g i)) t
abbrev OPS (L : List (Int × Int)) (n T : Nat) (c : Nat → Int) (p g : Nat → Nat) : List (List (Int × Int)) := (List.range T).map (op n c (fun i => lay L (p i)) (fun i => lay L (g i)))
theorem like_tp {xs ys : List Int} (h : xs = ys) (hl : ys.length ≤ 100000) : P_l_like (α := Tp Int) xs ys := ⟨h, okD_tp hl fun _ _ => okD_i⟩
theorem like_i {x y : Int} (h : x = y) : P_l_like (α := Int) x y := ⟨h, okD_i⟩
theorem like_b {x y : Bool} (h : x = y) : P_l_like (α := Bool) x y := ⟨h, okD_b⟩
theorem like_op {x y : Option (Int × Int)} (h : x = y) : P_l_like (α := Option (Int × Int)) x y := ⟨h, by cases y <;> rfl⟩
theorem LN.mvsum (N : LN L prices n T c p g ok most) (ws : List Int) (hw : ∀ z ∈ ws, ∃ i : Nat, i < n ∧ z = (i : Int)) : (ws.map (fun (z310 : Int) => gI prices ((gI (v_l_windows L) z310).1))).sum = pr prices c ws ∧ ∀ z310 ∈ ws, (InR z310 (v_l_windows L).length) ∧ (InR ((gI (v_l_windows L) z310).1) (prices).length) := by
  constructor
  · refine sum_congr fun z hz => ?_
    obtain ⟨i, hi, rfl⟩ := hw z hz
    rw [lw_gI N.w hi]
    rfl
  · intro z hz
    obtain ⟨i, hi, rfl⟩ := hw z hz
    rw [lw_gI N.w hi, lw_len N.w]
    exact ⟨inR_lt (by omega) (by omega), N.hp _ (N.w.mem i hi)⟩
theorem LN.moment (N : LN L prices n T c p g ok most) (well costs : List Int) {t : Nat} (ht : t < T) (hc : costs.length < 1000) :
    law_9P well costs L (v_l_windows L) prices (OPS L n T c p g) (rngL 0 n) (t : Int) ∧ law_9 well costs L (v_l_windows L) prices (OPS L n T c p g) (rngL 0 n) (t : Int) = .next (costs ++ [pr prices c (MV L n p g t)]) := by
  have hn := N.hn
  have hm := N.hm
  have hop : gI (OPS L n T c p g) (t : Int) = op n c (fun i => lay L (p i)) (fun i => lay L (g i)) t := gI_rows _ ht
  have hol := op_len (n := n) (c := c) (f := fun i => lay L (p i)) (e := fun i => lay L (g i)) (t := t)
  obtain ⟨la, ls⟩ := law_alive N.y t
  have hsum := N.mvsum (MV L n p g t) (fun z hz => by
    obtain ⟨i, hi, e, _⟩ := mem_mv.mp hz
    exact ⟨i, hi, e⟩)
  have hmv : ((rngL 0 n).filter (fun (z308 : Int) => !decide (z308 ∈ AL L n p g t))).map (fun (z308 : Int) => z308) = MV L n p g t := List.map_id' _
  have hml : (MV L n p g t).length ≤ n := mv_len (n := n) (f := fun i => lay L (p i)) (e := fun i => lay L (g i)) (t := t)
  have hal : (AL L n p g t).length ≤ n := al_len (n := n) (f := fun i => lay L (p i)) (e := fun i => lay L (g i)) (t := t)
  have hen : v_is_enough_moved L (MV L n p g t) = true := by
    rw [meet_enough N.line (by omega) N.w (lot := MV L n p g t) (fun _ => Iff.rfl), meet_any N.w N.y]
    exact .inr ⟨t, ht, lf_mv⟩
  have hInR : InR (t : Int) (OPS L n T c p g).length := inR_lt (by omega) (by simp; omega)
  constructor
  · unfold law_9P
    rw [hop]
    refine ⟨hInR, by omega, fun z hz => ⟨hInR, ls z hz⟩, ?_, ?_⟩
    · rw [(sortI_perm _).length_eq, List.length_map]
      omega
    · rw [la]
      unfold law_10P
      rw [hmv]
      refine ⟨by rw [rngL_len]; omega, ?_⟩
      unfold law_11P
      rw [hsum.1]
      refine ⟨hsum.2, by omega, ?_⟩
      unfold law_12P
      refine ⟨by omega, ?_⟩
      unfold law_13P
      refine ⟨alive_P N.line (by omega) N.y (by omega) ht, like_tp (alive_eq N.y ht) (Nat.le_trans hal (by omega)), fun _ => ⟨moved_P N.line (by omega) N.w N.y (by omega) ht, like_tp (moved_eq N.w N.y ht) (by omega)⟩, fun _ => trivial, fun _ => ?_⟩
      unfold law_14P
      refine ⟨price_P N.line (by omega) N.w N.y (by omega) N.hp ht, like_i (price_eq N.w N.y prices ht), fun _ => is_enough_moved_P N.line (by omega) _, fun _ => trivial⟩
  · unfold law_9 law_10 law_11 law_12 law_13 law_14
    rw [hop, la, hmv, hsum.1, hen]
    rfl
def fine (L : List (Int × Int)) (n : Nat) (lot : List Int) : Bool := v_l_meet (v_l_windows L) (lf n lot)
theorem LN.lot (N : LN L prices n T c p g ok most) (well costs cheap : List Int) (best : Option (Int × Int)) {lot : List Int} (hw : well.length = 3) (hc : cheap.length < 1000) (h1 : lot.Pairwise (· < ·)) (h2 : ∀ x ∈ lot, 0 ≤ x ∧ x < (n : Int)) (h3 : lot.length ≤ 1000) :
    law_19P well costs cheap L (v_l_windows L) prices (OPS L n T c p g) (rngL 0 n) best lot ∧ ∃ well2, law_19 well costs cheap L (v_l_windows L) prices (OPS L n T c p g) (rngL 0 n) best lot = .next (well2, cond (fine L n lot) (cheap ++ [pr prices c lot]) cheap) ∧ well2.length = 3 := by
  have hn := N.hn
  have hm := N.hm
  have hT := N.hT
  have hlf : ((rngL 0 n).filter (fun (z342 : Int) => !decide (z342 ∈ lot))).map (fun (z342 : Int) => z342) = lf n lot := List.map_id' _
  have hll := lf_len (n := n) (lot := lot)
  have hsum := N.mvsum lot (fun z hz => ⟨z.toNat, by have := h2 z hz; omega, by have := h2 z hz; omega⟩)
  have hmap : (OPS L n T c p g).map (fun (z345 : List (Int × Int)) => sortI ((sortI (z345.map (fun (z : Int × Int) => z.1))).map (fun (z347 : Int) => (dgetO z345 z347).getD default))) = (List.range T).map (AL L n p g) := by
    rw [List.map_map]
    exact List.map_congr_left fun t _ => (law_alive N.y t).1
  have hany : v_l_meet (v_l_windows L) (lf n lot) = ((decide (lf n lot = [])) || ((((List.range T).map (AL L n p g)).map (fun (z353 : List Int) => ((lf n lot).map (fun (z354 : Int) => decide (z354 ∈ z353))).all id)).any id)) := by
    rw [Bool.eq_iff_iff, meet_any N.w N.y, Bool.or_eq_true, decide_eq_true_eq, List.any_map, List.any_map, List.any_eq_true]
    simp only [Function.comp, List.all_map, List.all_eq_true, id, decide_eq_true_eq, List.mem_range]
  have hd4 : P_l_dip well (4 : Int) := dip_P hw (by decide) (by decide)
  have hw4 : (v_l_dip well (4 : Int)).2.length = 3 := dip_len _ hw
  have hmx : P_l_mixed (α := Int) (v_l_dip well (4 : Int)).2 lot := mixed_P (by decide) (by omega) hw4
  have hen : v_is_enough_moved L ((v_l_mixed (α := Int) (v_l_dip well (4 : Int)).2 lot).1) = fine L n lot := meet_enough N.line (by omega) N.w (mixed_mem _ _ hw4)
  have k23 : ∀ cheap2 : List Int, law_23P well costs cheap2 L (v_l_windows L) prices (OPS L n T c p g) (rngL 0 n) best lot (fine L n lot) ∧ ∃ well2, law_23 well costs cheap2 L (v_l_windows L) prices (OPS L n T c p g) (rngL 0 n) best lot (fine L n lot) = .next (well2, cheap2) ∧ well2.length = 3 := by
    intro cheap2
    constructor
    · unfold law_23P law_24P
      exact ⟨hd4, fun _ => ⟨hmx, is_enough_moved_P N.line (by omega) _, like_b hen, fun _ => trivial⟩⟩
    · unfold law_23 law_24
      cases ((decide (((v_l_dip well (4 : Int)).1) = (0 : Int))) || (decide (((v_l_windows L).length : Int) < ((lot.length : Int) + (2 : Int)))))
      · exact ⟨_, rfl, hw4⟩
      · exact ⟨_, rfl, mixed_len _ _ hw4⟩
  constructor
  · unfold law_19P
    rw [hlf]
    refine ⟨by rw [rngL_len]; omega, ?_⟩
    unfold law_20P
    refine ⟨meet_P (fun i hi => ?_) (by omega), ?_⟩
    · obtain ⟨j, hj, rfl, _⟩ := mem_lf.mp hi
      rw [lw_len N.w]
      omega
    · unfold law_21P
      rw [hmap, ← hany]
      refine ⟨fun _ => ⟨fun z hz => ?_, ?_, fun _ _ => by omega, ?_⟩, fun h => ?_, fun _ => ?_⟩
      · obtain ⟨t, ht, rfl⟩ := List.mem_map.mp hz
        have hol := op_len (n := n) (c := c) (f := fun i => lay L (p i)) (e := fun i => lay L (g i)) (t := t)
        refine ⟨by omega, (law_alive N.y t).2, ?_⟩
        rw [(sortI_perm _).length_eq, List.length_map]
        omega
      · simp only [List.length_map, List.length_range]; omega
      · simp only [List.length_map, List.length_range]; omega
      · simp at h
      · unfold law_22P law_26P
        refine ⟨fun _ => ?_, fun _ => (k23 cheap).1⟩
        rw [hsum.1]
        exact ⟨hsum.2, by omega, by omega, (k23 _).1⟩
  · unfold law_19 law_20 law_21
    rw [hlf, hmap, ← hany]
    unfold law_22 law_26
    rw [hsum.1]
    simp only [decide_true, Bool.not_true, cond_false]
    show ∃ well2, cond (fine L n lot) _ _ = _ ∧ _
    cases h : fine L n lot with
    | true =>
      obtain ⟨w2, e, hl⟩ := (k23 (cheap ++ [pr prices c lot])).2
      rw [h] at e
      refine ⟨w2, ?_, hl⟩
      have hh : v_l_meet (v_l_windows L) (lf n lot) = true := h
      rw [hh]
      exact e
    | false =>
      obtain ⟨w2, e, hl⟩ := (k23 cheap).2
      rw [h] at e
      refine ⟨w2, ?_, hl⟩
      have hh : v_l_meet (v_l_windows L) (lf n lot) = false := h
      rw [hh]
      exact e
end My
set_option Elab.async false
set_option linter.all false
set_option maxRecDepth 100000
namespace My
open PySem PySem.Spec PyProof.Rows L2 Ab
variable {L : List (Int × Int)} {prices : List Int} {n T : Nat} {c : Nat → Int} {p g : Nat → Nat} {ok : List Int} {most : Int}
theorem LN.fewest (N : LN L prices n T c p g ok most) : P_fewest_moved L prices ∧ v_fewest_moved L prices = (if T = 0 then none else some (minP ((List.range T).map fun t => (pr prices c (MV L n p g t), (t : Int))))) := by
  have hT := N.hT
  have hm := N.hm
  have hn := N.hn
  have hrows : (rngL 0 (v_many_layers L).toNat).map (fun (z257 : Int) => (v_price_for L z257 prices, z257)) = (List.range T).map fun t => (pr prices c (MV L n p g t), (t : Int)) := by
    rw [N.y.many, show ((T : Int)).toNat = T by omega, rngL_map]
    refine List.map_congr_left fun t ht => ?_
    rw [price_eq N.w N.y prices (List.mem_range.mp ht)]
  constructor
  · unfold P_fewest_moved fewest_moved_1P fewest_moved_2P
    refine ⟨many_layers_P N.line (by omega), ?_, fun z hz => ?_, ?_, fun h => by simpa using h⟩
    · rw [N.y.many]
      exact rgOk_small (by omega) (by omega)
    · rw [N.y.many] at hz
      obtain ⟨h0, h1⟩ := rngL_mem.mp hz
      obtain ⟨t, rfl⟩ := Int.eq_ofNat_of_zero_le h0
      exact price_P N.line (by omega) N.w N.y (by omega) N.hp (by omega)
    · rw [rngL_len, N.y.many]
      omega
  · unfold v_fewest_moved fewest_moved_1 fewest_moved_2
    rw [hrows]
    by_cases h : T = 0
    · subst h
      rfl
    · rw [if_neg h]
      have : (List.range T).map (fun t => (pr prices c (MV L n p g t), (t : Int))) ≠ [] := by simpa using h
      simp [this]
/-- the long line -/
theorem lng_gives (k : Nat) : ∀ i, i < k → (lng k)[2 * i]? = some (0, 0) ∧ (lng k)[2 * i + 1]? = some (1, 0) := by
  induction k with
  | zero => intro i hi; omega
  | succ k ih =>
    intro i hi
    have e : lng (k + 1) = (0, 0) :: (1, 0) :: lng k := by
      unfold lng
      rw [List.replicate_succ]
      rfl
    rw [e]
    cases i with
    | zero => exact ⟨rfl, rfl⟩
    | succ i =>
      have := ih i (by omega)
      rw [show 2 * (i + 1) = 2 * i + 1 + 1 by omega, show 2 * i + 1 + 1 + 1 = 2 * i + 1 + 1 + 1 from rfl]
      simpa using this
theorem lng_N {k : Nat} (hk : k < 40) : ∃ p g, LN (lng k) [3] k k (fun _ => 0) p g [0] 39 ∧ ∀ i, i < k → lay (lng k) (p i) = i ∧ lay (lng k) (g i) = i := by
  have hline : IsLine [0] 39 (lng k) := ⟨k, by omega, long_gd _ _ (by simp) k⟩
  obtain ⟨n, c, p, g, w⟩ := line_lw hline
  obtain ⟨T, y⟩ := line_ly hline (by omega) w
  have hy := y.y
  rw [lng_layers k hk] at hy
  have hn : n = k := by
    have := congrArg List.length hy
    simpa using this.symm
  subst hn
  have hT : T = n := by
    have := y.many
    rw [lng_many n hk] at this
    omega
  subst hT
  have hi : ∀ i, i < T → c i = 0 ∧ lay (lng T) (p i) = i ∧ lay (lng T) (g i) = i := by
    intro i hi
    have := congrArg (fun xs => xs[i]?) hy
    simp only [List.getElem?_map, List.getElem?_range hi, Option.map_some, Option.some.injEq, Prod.mk.injEq] at this
    refine ⟨this.1.symm, by omega, by omega⟩
  have hc : ∀ i, i < T → c i = 0 := fun i h => (hi i h).1
  have w2 : LW [0] (lng T) T (fun _ => 0) p g :=
    { w := by
        rw [w.w]
        exact List.map_congr_left fun i h => by rw [hc i (List.mem_range.mp h)]
      hp := fun i h => (w.hp i h).trans (by rw [hc i h])
      hg := fun i h => (w.hg i h).trans (by rw [hc i h])
      lt := w.lt
      ord := w.ord
      same := fun i j h1 h2 _ => w.same i j h1 h2 (by rw [hc i (by omega), hc j h2])
      all := w.all
      mem := fun i h => by simp
      deed := w.deed
      bef := w.bef
      reh := w.reh
      first := fun i h q h1 h2 k => w.first i h q h1 h2 (k.trans (by rw [hc i h])) }
  obtain ⟨T2, y2⟩ := line_ly hline (by omega) w2
  have hT2 : T2 = T := by
    have := y2.many
    rw [lng_many T hk] at this
    omega
  subst hT2
  exact ⟨p, g, ⟨hline, by omega, by omega, by omega, w2, y2, fun x hx => by rw [List.mem_singleton.mp hx]; exact ⟨by decide, by decide⟩, fun x hx => by rw [List.mem_singleton.mp hx]; decide⟩, fun i h => (hi i h).2⟩
theorem filter_ne_len : ∀ (n t : Nat), t < n → ((rngL 0 n).filter fun z => !decide (z = (t : Int))).length + 1 = n
  | n + 1, t, h => by
    rw [rngL_succ, List.filter_append, List.length_append]
    rcases Nat.lt_or_ge t n with k | k
    · have ih := filter_ne_len n t k
      rw [List.filter_cons_of_pos (by simp; omega)]
      simp only [List.filter_nil, List.length_singleton]
      omega
    · have ht : t = n := by omega
      subst ht
      rw [List.filter_cons_of_neg (by simp)]
      have : (rngL 0 t).filter (fun z => !decide (z = (t : Int))) = rngL 0 t := by
        rw [List.filter_eq_self]
        intro z hz
        have := rngL_mem.mp hz
        simp
        omega
      rw [this, rngL_len]
      simp
theorem sum_const {xs : List Int} {F : Int → Int} {a : Int} (h : ∀ x ∈ xs, F x = a) : (xs.map F).sum = a * (xs.length : Int) := by
  induction xs with
  | nil => simp
  | cons x xs ih =>
    rw [List.map_cons, List.sum_cons, ih fun z hz => h z (List.mem_cons_of_mem _ hz), h x List.mem_cons_self, List.length_cons]
    have : ((xs.length + 1 : Nat) : Int) = (xs.length : Int) + 1 := by omega
    rw [this, Int.mul_add, Int.mul_one]
    omega
theorem lng_ok {k : Nat} (hk : k < 40) (h0 : 0 < k) {lock : Int} (hl0 : 0 ≤ lock) (hl : lock < (k : Int)) :
    P_fewest_moved (lng k) [3] ∧ v_fewest_moved (lng k) [3] = some ((3 : Int) * ((((lng k).length : Int) / (2 : Int)) - (1 : Int)), (0 : Int)) ∧ P_alive_at (lng k) lock ∧ v_alive_at (lng k) lock = [lock] := by
  obtain ⟨p, g, N, hpg⟩ := lng_N hk
  obtain ⟨f1, f2⟩ := N.fewest
  obtain ⟨l, rfl⟩ := Int.eq_ofNat_of_zero_le hl0
  have hall : ∀ t, t < k → al k (fun i => lay (lng k) (p i)) (fun i => lay (lng k) (g i)) t = [(t : Int)] := by
    intro t ht
    have h1 : al k (fun i => lay (lng k) (p i)) (fun i => lay (lng k) (g i)) t = setI [(t : Int)] := by
      refine setI_uniq (al_pw _ _ _ _) fun z => ?_
      rw [mem_al, List.mem_singleton]
      constructor
      · rintro ⟨i, hi, rfl, h2, h3⟩
        have := hpg i hi
        omega
      · rintro rfl
        exact ⟨t, ht, rfl, by rw [(hpg t ht).1]; exact Nat.le_refl _, by rw [(hpg t ht).2]; exact Nat.le_refl _⟩
    rw [h1]
    exact (setI_uniq (List.pairwise_singleton _ _) fun _ => Iff.rfl).symm
  have hmv : ∀ t, t < k → pr [3] (fun _ => 0) (MV (lng k) k p g t) = 3 * ((k : Int) - 1) := by
    intro t ht
    unfold pr
    rw [sum_const (F := fun z => gI [3] ((fun x => (0 : Int)) z.toNat)) (a := 3) (fun x _ => rfl)]
    have : (MV (lng k) k p g t).length + 1 = k := by
      show ((rngL 0 k).filter fun z => !decide (z ∈ al k (fun i => lay (lng k) (p i)) (fun i => lay (lng k) (g i)) t)).length + 1 = k
      rw [hall t ht]
      simp only [List.mem_singleton]
      exact filter_ne_len k t ht
    congr 1
    omega
  refine ⟨f1, ?_, alive_P N.line (by omega) N.y (by omega) (by omega), ?_⟩
  · rw [f2, if_neg (by omega), lng_len]
    obtain ⟨j, hj, e, h1, h2⟩ := minP_first (fun t => pr [3] (fun _ => 0) (MV (lng k) k p g t)) k h0
    rw [e]
    have hj0 : j = 0 := by
      rcases Nat.eq_zero_or_pos j with q | q
      · exact q
      · have := h2 0 q
        rw [hmv 0 h0, hmv j hj] at this
        omega
    subst hj0
    rw [hmv 0 h0]
    have : (((2 * k : Nat) : Int)) / 2 = (k : Int) := by omega
    rw [this]
    rfl
  · rw [alive_eq N.y (by omega)]
    exact hall l (by omega)
end My
set_option Elab.async false
set_option linter.all false
set_option maxRecDepth 100000
namespace My
open PySem PySem.Spec PyProof.Rows L2 Ab
variable {L : List (Int × Int)} {prices : List Int} {n T : Nat} {c : Nat → Int} {p g : Nat → Nat} {ok : List Int} {most : Int}
theorem LN.tail33 (N : LN L prices n T c p g ok most) {well : List Int} (c2 c3 : List Int) (hw : well.length = 3) : law_33P well c2 c3 L prices (T : Int) ∧ law_33 well c2 c3 L prices (T : Int) = true := by
  have hm := N.hm
  have a0 := dip_lo well (many := (20 : Int)) (by decide)
  have a1 := dip_hi well (many := (20 : Int)) (by decide)
  have ha := dip_len (well := well) (20 : Int) hw
  have b0 := dip_lo (v_l_dip well (20 : Int)).2 (many := (20 : Int)) (by decide)
  have b1 := dip_hi (v_l_dip well (20 : Int)).2 (many := (20 : Int)) (by decide)
  have pa : P_l_dip well (20 : Int) := dip_P hw (by decide) (by decide)
  have pb : P_l_dip (v_l_dip well (20 : Int)).2 (20 : Int) := dip_P ha (by decide) (by decide)
  unfold law_33P law_33
  generalize (v_l_dip (v_l_dip well (20 : Int)).2 (20 : Int)).1 = lock at *
  generalize (v_l_dip (v_l_dip well (20 : Int)).2 (20 : Int)).2 = w2 at *
  generalize (v_l_dip well (20 : Int)).1 = d at *
  obtain ⟨k, hk⟩ := Int.eq_ofNat_of_zero_le (show 0 ≤ (20 : Int) + d by omega)
  obtain ⟨h1, h2, h3, h4⟩ := lng_ok (k := k) (by omega) (by omega) b0 (show lock < (k : Int) by omega)
  have e : (List.replicate ((20 : Int) + d).toNat [(((0 : Int), (0 : Int)), ((1 : Int), (0 : Int))).1, (((0 : Int), (0 : Int)), ((1 : Int), (0 : Int))).2]).flatten = lng k := by
    rw [hk, Int.toNat_natCast]
    rfl
  rw [e]
  constructor
  · refine ⟨pa, by omega, by simp, by simp, pb, ?_⟩
    unfold law_34P
    refine ⟨h1, like_op h2, fun _ => ⟨h3, like_tp h4 (by simp)⟩, fun _ => trivial, fun _ => ⟨many_layers_P N.line (by omega), ?_, locks_of_P N.line (by omega)⟩⟩
    rw [N.y.many]
    exact Int.le_refl _
  · rfl
theorem LN.tail30 (N : LN L prices n T c p g ok most) {well : List Int} (c2 c3 : List Int) (hw : well.length = 3) : law_30P well c2 c3 L prices (OPS L n T c p g) ∧ law_30 well c2 c3 L prices (OPS L n T c p g) = true := by
  have hm := N.hm
  have hl : ((OPS L n T c p g).length : Int) = (T : Int) := by simp
  have ha := one_len (α := FnRef) (well := well) [FnRef.al, FnRef.mo] hw
  have pa : P_l_one (α := FnRef) well [FnRef.al, FnRef.mo] := one_P hw (by simp) (by simp)
  have pb : P_l_dip (v_l_one (α := FnRef) well [FnRef.al, FnRef.mo]).2 (3 : Int) := dip_P ha (by decide) (by decide)
  have b0 := dip_lo (v_l_one (α := FnRef) well [FnRef.al, FnRef.mo]).2 (many := (3 : Int)) (by decide)
  have hb := dip_len (well := (v_l_one (α := FnRef) well [FnRef.al, FnRef.mo]).2) (3 : Int) ha
  obtain ⟨k1, k2⟩ := N.tail33 c2 c3 hb
  unfold law_30P law_30 law_31P law_31 law_32P law_32
  rw [hl]
  constructor
  · refine ⟨pa, pb, ⟨many_layers_P N.line (by omega), ?_⟩, fun _ => trivial, fun _ => k1⟩
    rw [N.y.many]
    omega
  · exact k2
theorem LN.tail28 (N : LN L prices n T c p g ok most) {well : List Int} (cheap : List Int) (hw : well.length = 3)
    (h1 : ∀ t, t < T → pr prices c (MV L n p g t) ∈ cheap) (h2 : 0 < T → ∀ x ∈ cheap, ∃ t, t < T ∧ pr prices c (MV L n p g t) ≤ x) :
    law_28P well ((List.range T).map fun t => pr prices c (MV L n p g t)) cheap L prices (OPS L n T c p g) none ∧ law_28 well ((List.range T).map fun t => pr prices c (MV L n p g t)) cheap L prices (OPS L n T c p g) none = true := by
  obtain ⟨f1, f2⟩ := N.fewest
  unfold law_28P law_28
  by_cases hT : T = 0
  · subst hT
    obtain ⟨k1, k2⟩ := N.tail30 (well := well) [] cheap hw
    rw [if_pos rfl] at f2
    constructor
    · refine ⟨fun h => by simp at h, fun _ => ⟨f1, like_op f2, fun _ => trivial, fun _ => k1⟩⟩
    · exact k2
  · rw [if_neg hT] at f2
    obtain ⟨q1, q2, q3⟩ := fewest_eq (fun t => pr prices c (MV L n p g t)) T cheap h1 (h2 (by omega)) (by omega)
    rw [q3] at f2
    have hne : decide ((List.range T).map (fun t => pr prices c (MV L n p g t)) = []) = false := by simp; exact hT
    obtain ⟨k1, k2⟩ := N.tail30 (well := well) ((List.range T).map fun t => pr prices c (MV L n p g t)) cheap hw
    rw [hne]
    constructor
    · exact ⟨fun _ => ⟨q1, q2, f1, like_op f2, fun _ => trivial, fun _ => k1⟩, fun h => by simp at h⟩
    · exact k2
theorem LN.lots (N : LN L prices n T c p g ok most) (hn : n ≤ 9) {well : List Int} (hw : well.length = 3) :
    law_18P well ((List.range T).map fun t => pr prices c (MV L n p g t)) [] L (v_l_windows L) prices (OPS L n T c p g) (rngL 0 n) none ∧ law_18 well ((List.range T).map fun t => pr prices c (MV L n p g t)) [] L (v_l_windows L) prices (OPS L n T c p g) (rngL 0 n) none = true := by
  obtain ⟨g1, g2, g3⟩ := lots_good n (by omega)
  have hpw : 2 ^ n ≤ 512 := Nat.pow_le_pow_right (n := 2) (by decide) hn
  have hrl : ((v_l_windows L).length : Int) = (n : Int) := by rw [lw_len N.w]
  unfold law_18P law_18
  rw [hrl]
  obtain ⟨lp, v, ev, hv⟩ := loopF_ix (f := fun (v : (List Int) × (List Int)) (x : List Int) => law_19 v.1 ((List.range T).map fun t => pr prices c (MV L n p g t)) v.2 L (v_l_windows L) prices (OPS L n T c p g) (rngL 0 n) none x)
    (P := fun (v : (List Int) × (List Int)) (x : List Int) => law_19P v.1 ((List.range T).map fun t => pr prices c (MV L n p g t)) v.2 L (v_l_windows L) prices (OPS L n T c p g) (rngL 0 n) none x) (xs := v_l_lots (n : Int)) (s := (well, []))
    (fun i v => v.1.length = 3 ∧ v.2 = (((v_l_lots (n : Int)).take i).filter (fine L n)).map (pr prices c)) ⟨hw, rfl⟩ (by
      rintro i lot ⟨w1, ch⟩ e ⟨hv1, hv2⟩
      have hv1 : w1.length = 3 := hv1
      have hv2 : ch = (((v_l_lots (n : Int)).take i).filter (fine L n)).map (pr prices c) := hv2
      have hmem := List.mem_of_getElem? e
      obtain ⟨m1, m2⟩ := g3 lot hmem
      have hi : i < (v_l_lots (n : Int)).length := (List.getElem?_eq_some_iff.mp e).1
      have hchl : ch.length < 1000 := by
        rw [hv2, List.length_map]
        refine Nat.lt_of_le_of_lt (List.length_filter_le _ _) ?_
        rw [List.length_take]
        omega
      have hlot : lot.length ≤ 1000 := by
        rw [lot_filter m1 m2]
        refine Nat.le_trans (List.length_filter_le _ _) ?_
        rw [rngL_len]
        omega
      obtain ⟨k1, w2, k2, k3⟩ := N.lot w1 ((List.range T).map fun t => pr prices c (MV L n p g t)) ch none hv1 hchl m1 m2 hlot
      refine ⟨k1, _, k2, k3, ?_⟩
      show cond (fine L n lot) (ch ++ [pr prices c lot]) ch = _
      rw [List.take_add_one, e, Option.toList_some, List.filter_append, List.map_append, ← hv2]
      cases hf : fine L n lot with
      | true => rw [List.filter_cons_of_pos hf]; rfl
      | false => rw [List.filter_cons_of_neg (by rw [hf]; decide)]; simp)
  rw [List.take_length] at hv
  obtain ⟨hv1, hv2⟩ := hv
  have key := N.tail28 (well := v.1) v.2 hv1 (fun t ht => by
      rw [hv2, List.mem_map]
      refine ⟨MV L n p g t, ?_, rfl⟩
      rw [List.mem_filter]
      refine ⟨lots_has _ n, ?_⟩
      show v_l_meet (v_l_windows L) (lf n (MV L n p g t)) = true
      rw [meet_any N.w N.y]
      exact .inr ⟨t, ht, lf_mv⟩) (fun hT x hx => by
      rw [hv2, List.mem_map] at hx
      obtain ⟨lot, hl, rfl⟩ := hx
      rw [List.mem_filter] at hl
      obtain ⟨m1, m2⟩ := g3 lot hl.1
      have hf : v_l_meet (v_l_windows L) (lf n lot) = true := hl.2
      rw [meet_any N.w N.y] at hf
      rcases hf with k | ⟨t, ht, k⟩
      · exact ⟨0, hT, pr_le N.pos m1 m2 (by rw [k]; simp)⟩
      · exact ⟨t, ht, pr_le N.pos m1 m2 k⟩)
  constructor
  · refine ⟨g1, lp, fun v2 h => ?_⟩
    rw [ev] at h
    rcases h with h | h
    · cases h
      exact key.1
    · cases h
  · rw [ev]
    exact key.2
theorem LN.law7 (N : LN L prices n T c p g ok most) (hn : n ≤ 9) {well : List Int} (hw : well.length = 3) :
    law_7P well L (v_l_windows L) prices (OPS L n T c p g) ∧ law_7 well L (v_l_windows L) prices (OPS L n T c p g) = true := by
  have hT := N.hT
  have hrl : ((v_l_windows L).length : Int) = (n : Int) := by rw [lw_len N.w]
  have hol : ((OPS L n T c p g).length : Int) = (T : Int) := by simp
  unfold law_7P law_7 law_8P law_8
  rw [hrl, hol, show ((n : Int)).toNat = n by omega, show ((T : Int)).toNat = T by omega]
  obtain ⟨lp, v, ev, hv⟩ := loopF_ix (f := fun (v : (List Int)) (x : Int) => law_9 well v L (v_l_windows L) prices (OPS L n T c p g) (rngL 0 n) x)
    (P := fun (v : (List Int)) (x : Int) => law_9P well v L (v_l_windows L) prices (OPS L n T c p g) (rngL 0 n) x) (xs := rngL 0 T) (s := [])
    (fun i v => v = (List.range i).map fun t => pr prices c (MV L n p g t)) rfl (by
      rintro i x v e hv
      obtain ⟨hi, rfl⟩ := rngL_get e
      have hv : v = (List.range i).map fun t => pr prices c (MV L n p g t) := hv
      have hvl : v.length < 1000 := by rw [hv]; simp; omega
      obtain ⟨k1, k2⟩ := N.moment well v hi hvl
      rw [show (0 : Int) + (i : Int) = (i : Int) by omega]
      refine ⟨k1, _, k2, ?_⟩
      rw [List.range_succ, List.map_append, ← hv]
      rfl)
  rw [rngL_len] at hv
  have key := N.lots hn hw
  rw [← hv] at key
  constructor
  · refine ⟨by omega, rgOk_small (by omega) (by omega), lp, fun v2 h => ?_⟩
    rw [ev] at h
    rcases h with h | h
    · cases h
      exact key.1
    · cases h
  · rw [ev]
    exact key.2
theorem law6_ok {well : List Int} (hw : well.length = 3) {nl : Nat} (hm9 : most ≤ 9) (h : IsLine (rngL 0 nl) most L) (hpl : prices.length = nl) (hp : ∀ x ∈ prices, 0 ≤ x) : law_6P well L (v_l_windows L) prices ∧ law_6 well L (v_l_windows L) prices = true := by
  obtain ⟨n, c, p, g, w⟩ := line_lw h
  obtain ⟨T, y⟩ := line_ly h (by omega) w
  have hn : n ≤ 9 := by
    have h1 := windows_same h (by omega)
    obtain ⟨n0, hn0, gd⟩ := h
    have h2 := windows_of_len gd (by omega)
    rw [h1, lw_len w] at h2
    omega
  have hT : T ≤ 19 := by
    have := (many_layers_le h (by omega)).2
    rw [y.many] at this
    omega
  have N : LN L prices n T c p g (rngL 0 nl) most := ⟨h, by omega, by omega, by omega, w, y, fun x hx => by
    obtain ⟨h0, h1⟩ := rngL_mem.mp hx
    exact inR_lt h0 (by omega), hp⟩
  unfold law_6P law_6
  rw [moments_same w y, l_open_eq y]
  obtain ⟨k1, k2⟩ := N.law7 hn hw
  refine ⟨⟨moments_P (by rw [lw_len w]; omega), open_P (by rw [y.y]; simp; omega) ?_, k1⟩, k2⟩
  intro r hr
  rw [y.y] at hr
  obtain ⟨i, hi, rfl⟩ := List.mem_map.mp hr
  have := y.lt i (List.mem_range.mp hi)
  simp only
  omega
theorem law5_ok {well : List Int} (hw : well.length = 3) {nl : Nat} (hnl : nl ≤ 1000) (hm9 : most ≤ 9) (h : IsLine (rngL 0 nl) most L) : law_5P well (rngL 0 nl) L (v_l_windows L) ∧ law_5 well (rngL 0 nl) L (v_l_windows L) = true := by
  have dl := fun (w : List Int) (k : Int) (h : w.length = 3) => dip_len (well := w) k h
  have step : ∀ (z280 : Int) (g280 : List Int), g280.length = 3 → 0 ≤ (cond (decide ((0 : Int) < ((v_l_dip g280 (6 : Int)).1))) ((v_l_dip ((v_l_dip g280 (6 : Int)).2) (6 : Int)).1) ((10 ^ (9 : Nat) : Int) + ((v_l_dip ((v_l_dip g280 (6 : Int)).2) (99 : Int)).1))) ∧ (cond (decide ((0 : Int) < ((v_l_dip g280 (6 : Int)).1))) ((v_l_dip ((v_l_dip g280 (6 : Int)).2) (6 : Int)).2) ((v_l_dip ((v_l_dip g280 (6 : Int)).2) (99 : Int)).2)).length = 3 := by
    intro z w hw
    cases decide ((0 : Int) < ((v_l_dip w (6 : Int)).1)) with
    | true => exact ⟨dip_lo _ (by decide), dl _ _ (dl _ _ hw)⟩
    | false =>
      have := dip_lo (v_l_dip w (6 : Int)).2 (many := (99 : Int)) (by decide)
      refine ⟨?_, dl _ _ (dl _ _ hw)⟩
      show 0 ≤ (10 ^ (9 : Nat) : Int) + _
      omega
  unfold law_5P law_5
  have all := fun (xs : List Int) => lcRun_all (fun w : List Int => w.length = 3) (fun x : Int => 0 ≤ x) step xs well hw
  constructor
  · refine ⟨fun i z e _ => ?_, by rw [rngL_len]; omega, ?_⟩
    · have h1 : _ := (all ((rngL 0 nl).take i)).2.2
      refine ⟨dip_P h1 (by decide) (by decide), fun _ => dip_P (dl _ _ h1) (by decide) (by decide), fun _ => dip_P (dl _ _ h1) (by decide) (by decide)⟩
    · obtain ⟨k1, k2, k3⟩ := all (rngL 0 nl)
      exact (law6_ok k3 hm9 h (by rw [k1, rngL_len]) k2).1
  · obtain ⟨k1, k2, k3⟩ := all (rngL 0 nl)
    exact (law6_ok k3 hm9 h (by rw [k1, rngL_len]) k2).2
/-- the plain law -/
theorem law_plain (script : List Int) : law_1P script ∧ law_1 script = true := by
  have hw0 := well_len script 0
  have a0 := dip_lo (v_l_well script 0) (many := (4 : Int)) (by decide)
  have a1 := dip_hi (v_l_well script 0) (many := (4 : Int)) (by decide)
  have ha := dip_len (well := v_l_well script 0) (4 : Int) hw0
  have pa : P_l_dip (v_l_well script 0) (4 : Int) := dip_P hw0 (by decide) (by decide)
  have pw := well_P script (k := 0) (by decide)
  unfold law_1P law_1 law_2P law_2
  generalize v_l_well script 0 = w0 at *
  generalize (v_l_dip w0 (4 : Int)).1 = d at *
  generalize (v_l_dip w0 (4 : Int)).2 = w1 at *
  have po : P_l_one (α := Int) w1 [(4 : Int), (6 : Int), (7 : Int)] := one_P ha (by simp) (by simp)
  have hmo := one_mem (α := Int) w1 (some_ := [(4 : Int), (6 : Int), (7 : Int)]) (by simp)
  have hb := one_len (α := Int) (well := w1) [(4 : Int), (6 : Int), (7 : Int)] ha
  unfold law_3P law_3
  generalize (v_l_one (α := Int) w1 [(4 : Int), (6 : Int), (7 : Int)]).1 = most at *
  generalize (v_l_one (α := Int) w1 [(4 : Int), (6 : Int), (7 : Int)]).2 = w2 at *
  have hmo : 0 ≤ most ∧ most ≤ 9 := by
    simp only [List.mem_cons, List.not_mem_nil, or_false] at hmo
    omega
  obtain ⟨nl, hnl⟩ := Int.eq_ofNat_of_zero_le (show 0 ≤ (1 : Int) + d by omega)
  rw [hnl, show ((nl : Int)).toNat = nl by omega]
  obtain ⟨l1, l2, l3⟩ := line_good (ok := rngL 0 nl) hb hmo.1 (by omega) (by rw [rngL_len]; omega)
  generalize (v_l_line w2 (rngL 0 nl) most).1 = L at *
  generalize (v_l_line w2 (rngL 0 nl) most).2 = w3 at *
  unfold law_4P law_4
  obtain ⟨k1, k2⟩ := law5_ok l2 (by omega) hmo.2 l3
  exact ⟨⟨pw, pa, by omega, po, l1, windows_P l3 (by omega), k1⟩, k2⟩
end My
set_option Elab.async false
set_option linter.all false
set_option maxRecDepth 100000
set_option maxHeartbeats 0
namespace My
open PySem PySem.Spec PyProof.Rows L2 Ab
def fnL : List He.DefD := [dD "windows_of" (topS 6), dD "locks_of" (topS 7), dD "before_of" (topS 8), dD "layers_of" (topS 9), dD "many_layers" (topS 10), dD "open_at" (topS 12), dD "need_layer" (topS 14), dD "alive_at" (topS 15), dD "moved_for" (topS 16), dD "is_enough_moved" (topS 17), dD "price_for" (topS 18), dD "fewest_moved" (topS 19), dD "_law_well" (topS 21), dD "_law_dip" (topS 22), dD "_law_one" (topS 23), dD "_law_mixed" (topS 24), dD "_law_like" (topS 25), dD "_law_heard" (topS 26), dD "_law_line" (topS 27), dD "_law_windows" (topS 28), dD "_law_moments_by" (topS 29), dD "_law_moments" (topS 30), dD "_law_open" (topS 31), dD "_law_lots" (topS 32), dD "_law_meet" (topS 33), dD "law" (topS 34)]
def faL : List He.Fa := [.glo "windows_of", .glo "locks_of", .glo "before_of", .glo "layers_of", .glo "many_layers", .glo "open_at", .glo "need_layer", .glo "alive_at", .glo "moved_for", .glo "is_enough_moved", .glo "price_for", .glo "fewest_moved", .glo "_law_well", .glo "_law_dip", .glo "_law_one", .glo "_law_mixed", .glo "_law_like", .glo "_law_heard", .glo "_law_line", .glo "_law_windows", .glo "_law_moments_by", .glo "_law_moments", .glo "_law_open", .glo "_law_lots", .glo "_law_meet", .glo "law",
  .glo "Refused", .free "super", .int "GIVE" 1, .int "HOLD" 0, .free "abs", .free "all", .free "any", .free "bool", .free "int", .free "isinstance", .free "len", .free "list", .free "max", .free "min", .free "range", .free "set", .free "sorted", .free "str", .free "sum", .free "tuple"]
def tfL : List He.Defn := [("law", none)]
def exL : PySem.W.Frag → Bool := refB "/claim/cut.py"
def xsL : List (Str × IniV) := [("Refused", refIni)]
abbrev RR : PySem.W.OpenRow := PySem.W.OpenLaw.row PySem.Challenge.rw_leastdeals_k64_whole_how_far_lines_are_f
abbrev hk : PySem.W.Hook := hookA 4 faL fnL tfL exL xsL
def ob (s : PySem.W.SharedT) : AlA := obsA 4 faL fnL tfL exL xsL (HandSHeadRun.getT s)
theorem ob_eq (s : PySem.W.SharedT) : ob s = hk.obs s.abs := obsA_eq (HandSHeadRun.getT_eq s)
theorem run (w : World) : HandSHeadRun.RunEq RR (PySem.W.view RR.prog [34]) hk ob 2000 ["DealsError", "Refused", "HOLD", "GIVE", "windows_of", "locks_of", "before_of", "layers_of", "many_layers", "open_at", "need_layer", "alive_at", "moved_for", "is_enough_moved", "price_for", "fewest_moved", "_law_well", "_law_dip", "_law_one", "_law_mixed", "_law_like", "_law_heard", "_law_line", "_law_windows", "_law_moments_by", "_law_moments", "_law_open", "_law_lots", "_law_meet"] w := by
  intro os
  kernel_rfl
end My
set_option Elab.async false
set_option linter.all false
set_option maxRecDepth 100000
set_option maxHeartbeats 0
namespace My
open PySem PySem.Spec PyProof.Rows L2 Ab PySem.RefX
theorem fns_of {P : Program} {w : World} {K : PySem.W.Frag} {mg : Str → Option Value} {base : Heap} {C f : Addr} {k : Nat} {n r : Str} {ps : List Str} {ψ : List A → Prop} (D : DfR P w K mg base C k n ps r ψ) (g : mg n = some (.ref f)) : FnsR P w K mg base C k ps r ψ f := by
  obtain ⟨f', fd, F, m, kp, b⟩ := D.ex
  rw [g] at m
  cases m
  exact ⟨fd, F, kp, b⟩
theorem facts {P : Program} {w : World} {K : PySem.W.Frag} {h : Heap} {mg : Str → Option Value} {f : Addr} (hP : P = PySem.Challenge.pw_leastdeals_k64_whole_how_far_lines_are_f) (X : K.In h) (G : h.Ns mainGlobals mg) (hfa : mg ("law" : Str) = some (.ref f)) (c : SaysA faL fnL tfL exL xsL w h K) :
    ∃ fd : FuncData, (∀ (s : Shared) (v : Value), BindsTo s fd ⟨[v], []⟩ [("script", v)]) ∧ ∀ base : Heap, K.In base → base.Ns mainGlobals mg → (∀ p ∈ [He.cT K ("law", none)], LamX.TabB base mg p.1 p.2) → FnOk P w K mg base CX0 8 f fd ["script"] (SpLaw K [(He.cT K ("law", none)).2]) := by
  have e := hfa.symm.trans (c.glo X G 25 (x := "law"))
  cases e
  obtain ⟨fd, F⟩ := c.fun_ 25 (n := "law") (st := topS 34)
  have blA : ∀ (s : Shared) (v : Value), BindsTo s fd ⟨[v], []⟩ [("script", v)] := by
    intro s v
    obtain ⟨oc, od, kV, doc, pm, an, cdv, ct, osl, rfl, lk, hcd⟩ := F.ex
    exact .of_eq rfl
  have B : Bi mg :=
    { GIVE := c.int X G 28, HOLD := c.int X G 29, abs := c.free X G 30, all := c.free X G 31, any := c.free X G 32, bool := c.free X G 33, int := c.free X G 34, isinstance := c.free X G 35, len := c.free X G 36, list := c.free X G 37, max := c.free X G 38, min := c.free X G 39, range := c.free X G 40, set := c.free X G 41, sorted := c.free X G 42, str := c.free X G 43, sum := c.free X G 44, tuple := c.free X G 45 }
  have RT : RefTxt P K mg (He.ga K "Refused") (He.ma K (He.ga K "Refused") "__init__") := by
    have ini : iniAt K "Refused" = refIni := by
      have z : [iniAt K "Refused"] = [refIni] := c.ini
      injection z
    exact ref_of c.x.more ini (c.glo X G 26) (c.free X G 27) (by subst hP; decide +kernel) (by subst hP; rfl)
  have T_windows_of : Top K mg "windows_of" s_windows_of ["line"] := c.top X G 0 0 rfl rfl fun _ _ _ _ _ _ us hl => match us, hl with | [_], _ => rfl
  have T_locks_of : Top K mg "locks_of" s_locks_of ["line"] := c.top X G 1 1 rfl rfl fun _ _ _ _ _ _ us hl => match us, hl with | [_], _ => rfl
  have T_before_of : Top K mg "before_of" s_before_of ["line"] := c.top X G 2 2 rfl rfl fun _ _ _ _ _ _ us hl => match us, hl with | [_], _ => rfl
  have T_layers_of : Top K mg "layers_of" s_layers_of ["line"] := c.top X G 3 3 rfl rfl fun _ _ _ _ _ _ us hl => match us, hl with | [_], _ => rfl
  have T_many_layers : Top K mg "many_layers" s_many_layers ["line"] := c.top X G 4 4 rfl rfl fun _ _ _ _ _ _ us hl => match us, hl with | [_], _ => rfl
  have T_open_at : Top K mg "open_at" s_open_at ["line"] := c.top X G 5 5 rfl rfl fun _ _ _ _ _ _ us hl => match us, hl with | [_], _ => rfl
  have T_need_layer : Top K mg "need_layer" s_need_layer ["line", "layer"] := c.top X G 6 6 rfl rfl fun _ _ _ _ _ _ us hl => match us, hl with | [_, _], _ => rfl
  have T_alive_at : Top K mg "alive_at" s_alive_at ["line", "layer"] := c.top X G 7 7 rfl rfl fun _ _ _ _ _ _ us hl => match us, hl with | [_, _], _ => rfl
  have T_moved_for : Top K mg "moved_for" s_moved_for ["line", "layer"] := c.top X G 8 8 rfl rfl fun _ _ _ _ _ _ us hl => match us, hl with | [_, _], _ => rfl
  have T_is_enough_moved : Top K mg "is_enough_moved" s_is_enough_moved ["line", "windows"] := c.top X G 9 9 rfl rfl fun _ _ _ _ _ _ us hl => match us, hl with | [_, _], _ => rfl
  have T_price_for : Top K mg "price_for" s_price_for ["line", "layer", "prices"] := c.top X G 10 10 rfl rfl fun _ _ _ _ _ _ us hl => match us, hl with | [_, _, _], _ => rfl
  have T_fewest_moved : Top K mg "fewest_moved" s_fewest_moved ["line", "prices"] := c.top X G 11 11 rfl rfl fun _ _ _ _ _ _ us hl => match us, hl with | [_, _], _ => rfl
  have T_l_well : Top K mg "_law_well" s_l_well ["script", "k"] := c.top X G 12 12 rfl rfl fun _ _ _ _ _ _ us hl => match us, hl with | [_, _], _ => rfl
  have T_l_dip : Top K mg "_law_dip" s_l_dip ["well", "many"] := c.top X G 13 13 rfl rfl fun _ _ _ _ _ _ us hl => match us, hl with | [_, _], _ => rfl
  have T_l_one : Top K mg "_law_one" s_l_one ["well", "some"] := c.top X G 14 14 rfl rfl fun _ _ _ _ _ _ us hl => match us, hl with | [_, _], _ => rfl
  have T_l_mixed : Top K mg "_law_mixed" s_l_mixed ["well", "some"] := c.top X G 15 15 rfl rfl fun _ _ _ _ _ _ us hl => match us, hl with | [_, _], _ => rfl
  have T_l_like : Top K mg "_law_like" s_l_like ["told", "due"] := c.top X G 16 16 rfl rfl fun _ _ _ _ _ _ us hl => match us, hl with | [_, _], _ => rfl
  have T_l_heard : Top K mg "_law_heard" s_l_heard ["work"] := c.top X G 17 17 rfl rfl fun _ _ _ _ _ _ us hl => match us, hl with | [_], _ => rfl
  have T_l_line : Top K mg "_law_line" s_l_line ["well", "locks", "most"] := c.top X G 18 18 rfl rfl fun _ _ _ _ _ _ us hl => match us, hl with | [_, _, _], _ => rfl
  have T_l_windows : Top K mg "_law_windows" s_l_windows ["line"] := c.top X G 19 19 rfl rfl fun _ _ _ _ _ _ us hl => match us, hl with | [_], _ => rfl
  have T_l_moments_by : Top K mg "_law_moments_by" s_l_moments_by ["locks", "heads"] := c.top X G 20 20 rfl rfl fun _ _ _ _ _ _ us hl => match us, hl with | [_, _], _ => rfl
  have T_l_moments : Top K mg "_law_moments" s_l_moments ["rows"] := c.top X G 21 21 rfl rfl fun _ _ _ _ _ _ us hl => match us, hl with | [_], _ => rfl
  have T_l_open : Top K mg "_law_open" s_l_open ["moments"] := c.top X G 22 22 rfl rfl fun _ _ _ _ _ _ us hl => match us, hl with | [_], _ => rfl
  have T_l_lots : Top K mg "_law_lots" s_l_lots ["many"] := c.top X G 23 23 rfl rfl fun _ _ _ _ _ _ us hl => match us, hl with | [_], _ => rfl
  have T_l_meet : Top K mg "_law_meet" s_l_meet ["rows", "left"] := c.top X G 24 24 rfl rfl fun _ _ _ _ _ _ us hl => match us, hl with | [_, _], _ => rfl
  have TK_alive_at : TopK K mg "alive_at" s_alive_at ["line", "layer"] ["layer"] := c.topK X G 7 7 rfl rfl fun _ _ _ _ _ _ us ws h1 h2 => match us, ws, h1, h2 with | [_], [_], _, _ => rfl
  have TK_fewest_moved : TopK K mg "fewest_moved" s_fewest_moved ["line", "prices"] ["line", "prices"] := c.topK X G 11 11 rfl rfl fun _ _ _ _ _ _ us ws h1 h2 => match us, ws, h1, h2 with | [], [_, _], _, _ => rfl
  refine ⟨fd, fun s u => blA s u, fun base KB NB TB => ?_⟩
  have D_well : Df P w K mg base CX0 1 "_law_well" ["script", "k"] φ_l_well := df_l_well B T_l_well
  have D_dip : Df P w K mg base CX0 1 "_law_dip" ["well", "many"] φ_l_dip := df_l_dip B T_l_dip
  have D_one : Df P w K mg base CX0 2 "_law_one" ["well", "some"] φ_l_one := df_l_one B D_dip T_l_one
  have D_mixed : Df P w K mg base CX0 2 "_law_mixed" ["well", "some"] φ_l_mixed := df_l_mixed B D_dip T_l_mixed
  have D_like : Df P w K mg base CX0 5 "_law_like" ["told", "due"] φ_l_like := df_l_like B T_l_like
  have D_line : Df P w K mg base CX0 3 "_law_line" ["well", "locks", "most"] φ_l_line := df_l_line B D_dip D_one T_l_line
  have D_windows : Df P w K mg base CX0 1 "_law_windows" ["line"] φ_l_windows := df_l_windows B T_l_windows
  have D_mby : Df P w K mg base CX0 1 "_law_moments_by" ["locks", "heads"] φ_l_moments_by := df_l_moments_by B T_l_moments_by
  have D_moments : Df P w K mg base CX0 2 "_law_moments" ["rows"] φ_l_moments := df_l_moments B D_mby T_l_moments
  have D_open : Df P w K mg base CX0 1 "_law_open" ["moments"] φ_l_open := df_l_open B T_l_open
  have D_lots : Df P w K mg base CX0 1 "_law_lots" ["many"] φ_l_lots := df_l_lots B T_l_lots
  have D_meet : Df P w K mg base CX0 1 "_law_meet" ["rows", "left"] φ_l_meet := df_l_meet B T_l_meet
  have D_layers : Df P w K mg base CX0 1 "layers_of" ["line"] φ_layers_of := df_layers_of B T_layers_of
  have D_many : Df P w K mg base CX0 1 "many_layers" ["line"] φ_many_layers := df_many_layers B T_many_layers
  have D_locks : Df P w K mg base CX0 1 "locks_of" ["line"] φ_locks_of := df_locks_of B T_locks_of
  have D_win : Df P w K mg base CX0 1 "windows_of" ["line"] φ_windows_of := df_windows_of B T_windows_of
  have D_before : Df P w K mg base CX0 2 "before_of" ["line"] φ_before_of := df_before_of B D_win T_before_of
  have D_open_at : Df P w K mg base CX0 2 "open_at" ["line"] φ_open_at := df_open_at B D_layers D_many T_open_at
  have D_need : Df P w K mg base CX0 2 "need_layer" ["line", "layer"] φ_need_layer := df_need_layer B D_many T_need_layer
  have D_alive : Df P w K mg base CX0 3 "alive_at" ["line", "layer"] φ_alive_at := df_alive_at B D_need D_open_at T_alive_at
  have D_moved : Df P w K mg base CX0 4 "moved_for" ["line", "layer"] φ_moved_for := df_moved_for B D_alive D_locks T_moved_for
  have D_enough : Df P w K mg base CX0 3 "is_enough_moved" ["line", "windows"] φ_is_enough_moved := df_is_enough_moved B D_before T_is_enough_moved
  have D_price : Df P w K mg base CX0 5 "price_for" ["line", "layer", "prices"] φ_price_for := df_price_for B D_locks D_moved T_price_for
  have D_fewest : Df P w K mg base CX0 6 "fewest_moved" ["line", "prices"] φ_fewest_moved := df_fewest_moved B D_price D_many T_fewest_moved
  have R_need := dfR_need B RT D_many T_need_layer
  have R_alive := dfR_alive R_need T_alive_at
  have R_moved := dfR_moved R_alive T_moved_for
  have R_price := dfR_price B R_moved D_locks T_price_for
  have ga : mg "alive_at" = some (.ref (He.ga K "alive_at")) := c.glo X G 7
  have gm : mg "moved_for" = some (.ref (He.ga K "moved_for")) := c.glo X G 8
  letI FN : FnAddr := ⟨He.ga K "alive_at", He.ga K "moved_for"⟩
  obtain ⟨oc, od, kV, doc, pm, an, cdv, ct, osl, e, lk, hcd⟩ := F.ex
  subst e
  obtain ⟨cL, rfl⟩ := He.codeIn_ref hcd
  have hcT : (He.cT K ("law", none)).1 = cL := He.codeOf_eq (p := ("law", none)) lk rfl
  have TB0 := TB _ List.mem_cons_self
  generalize (He.cT K ("law", none)).2 = PT at *
  rw [hcT] at TB0
  refine fn_of (k := 7) lk hcd sc_law (fun vs H Q E ⟨a, ns, ev, _⟩ => by subst ev; rfl) (fun Ar outer s H vs Q E hr ⟨a, ns, ev, hS, hT, h63, hbits, hQ⟩ => ?_)
  subst ev
  have hT0 := hT PT List.mem_cons_self
  have walk := law_1_w (P := P) (w := w) (K := K) (mg := mg) (base := base) (f := He.ga K "law") (cdv := .ref cL) (Ar := Ar) (outer := outer) (s := s) (H := H) (E := E) (G := ⟨H, fun _ => False, [PT]⟩) B D_well D_line D_windows D_open D_lots D_one D_moments D_meet D_like D_dip (D_fewest.toK TK_fewest_moved) D_enough D_fewest D_alive D_price (D_alive.toK TK_alive_at) D_moved D_mixed hr rfl rfl (fun _ z => z) rfl TB0 RT T_l_heard (fns_of R_alive ga) (fns_of R_moved gm) ga gm R_price ns (law_plain ns).1
  refine ⟨_, PSs.nox walk, [some PT], law_start (q := q_law) (n := 24) hS hT0, ?_⟩
  have fin : ∀ (S : Ms) (ps : Ps) (H' : Hp) (a : A) (v : V), RetOk a S (En (α := Bool) (law_1 ns)) [] → AIs K ⟨H, fun _ => False, [PT]⟩ ps H' v a → Q v H' := by
    intro S ps H' a v ok ha
    rw [(law_plain ns).2] at ok
    obtain ⟨_, _, _, ok⟩ := ok
    rcases ok with ⟨d, e1, e2⟩ | ⟨k, e1, e2, _⟩ | ⟨k, ds, e1, e2, e3, e4⟩
    · subst e1
      cases e2
      cases is_at ha
      exact hQ H'
    · simp at e2
    · cases e4
  exact ⟨fun S ps σ H' ok R' _ => fin S ps H' _ _ ok (show Is K H' _ V.non (.at .non) from .at _), fun a S ps σ H' v ok R' _ A' => fin S ps H' a v ok A', fun _ _ _ _ h => h.elim, fun _ _ _ _ h => h.elim⟩
end My
set_option Elab.async false
set_option linter.all false
open PySem PySem.W PySem.Calls PyProof.Rows
set_option maxRecDepth 100000 in
set_option maxHeartbeats 0 in
theorem PySem.Challenge.cw_leastdeals_k64_whole_how_far_lines_are_f_holds : PySem.Challenge.rw_leastdeals_k64_whole_how_far_lines_are_f.Holds := by
  w_on; o_law
  refine HandSHeadRun.head_any (r := My.RR) (q := view My.RR.prog [34]) (H := My.hk) (ob := My.ob) (M := 2000) (d := HandSHeadRun.topDef My.RR.prog 34) (kwd := []) My.ob_eq
    (by kernel_rfl) (fun s => by kernel_rfl) My.run (by kernel_rfl) (by kernel_rfl) (by kernel_rfl) (by rfl) (by first | assumption | decide +kernel) (by decide +kernel) ⟨rfl, rfl, rfl, rfl, rfl, by decide +kernel⟩ ?hw ?hc
  case hw => w_witness2
  case hc =>
    refine LamX.walk_ofTsE (l := PySem.Challenge.rw_leastdeals_k64_whole_how_far_lines_are_f) (n := 63) (k := 8) (x := "script") (CX := fun _ => L2.CX0) rfl (by decide) (by kernel_rfl) ⟨rfl, by decide, by decide⟩ ?F (fun _ _ _ _ _ z => z)
    intro w mg fa h Y G hmg0
    obtain ⟨K, KX, c⟩ := Y
    have hmg : mg ("law" : PySem.Str) = some (.ref fa) := by
      have e : (HandSHeadRun.topDef My.RR.prog 34).name = ("law" : PySem.Str) := by kernel_rfl
      rw [← e]
      exact hmg0
    obtain ⟨fd, hb, hF⟩ := My.facts (P := (PySem.Challenge.rw_leastdeals_k64_whole_how_far_lines_are_f).prog) (w := w) rfl KX G hmg c
    have hm : ∀ p ∈ [He.cT K ("law", none)], ∃ q ∈ My.tfL, p = He.cT K q := fun p hp => ⟨("law", none), List.mem_cons_self, List.mem_singleton.mp hp⟩
    refine ⟨K, KX, fd, [He.cT K ("law", none)], Ab.SpLaw K [(He.cT K ("law", none)).2], fun p hp => ?_, fun p hp => ?_, fun p hp => ?_, hb, fun H a ns hlen hbits hT hS => ⟨a, ns, rfl, hS, fun p hp => ?_, hlen, hbits, fun _ => rfl⟩, hF⟩
    · obtain ⟨q, hq, rfl⟩ := hm p hp
      exact c.x.empty q hq
    · obtain ⟨q, hq, rfl⟩ := hm p hp
      exact c.x.out q hq
    · obtain ⟨q, hq, rfl⟩ := hm p hp
      exact PySem.W.codeHd_of_K KX (c.x.hd q hq)
    · rw [List.mem_singleton.mp hp]
      exact hT _ List.mem_cons_self
