import PyProof.Rows.All
import Wide.All
import OpenK.AllK
import Wide.FinOn
import HandS.ForMost
import HandS.Flow
import HandS.IsInst
import HandS.Conv
import HandS.Deep
import HandS.TupAny
import HandS.TupMul
import HandS.SetFor
import HandS.Strs
import HandS.SortInts
import HandS.SortRule
import HandS.ExcCtx
import HandS.HotCalls
import HandS.ExcIs
import KE.GoesEnum
import HandS.ForExc
import KE.SortData
import HandS.Style
import HandS.SetKeys
import HandS.ExcBuiltin
import HandS.Text
import HandS.TupSets
import HandS.ExcValue
import HandS.ExcOwn
import PySem.Challenge.RW_markhall_k51_whole_turned_about_and_plai
set_option Elab.async false
set_option linter.all false
set_option maxRecDepth 100000
set_option maxHeartbeats 4000000
namespace DL
open PySem PySem.Spec PyProof.Rows L2
/-! DL1: the data layer, its core: readable heaps, data, environments, what evaluates to what. -/

abbrev D := PyData
/-- the line below which all sequences of ours stay -/
def big : Nat := 1000000
theorem big_le {n : Nat} (h : n ≤ big) : n ≤ sizeLine := Nat.le_trans h (by decide)
theorem big_lt {n : Nat} (h : n ≤ big) : n < sizeLine := Nat.lt_of_le_of_lt h (by decide)

/-! ### heaps -/
/-- F's facts are to be read in H (a dict perhaps locked there) -/
def Ld (F H : Hp) : Prop := ∀ a u, F a = some u → H a = some u ∨ (∃ kvs o, u = .dT kvs ∧ H a = some (.frz o u))
theorem Ld.of {F H : Hp} (e : Same F H) : Ld F H := fun a u h => .inl (e a u h)
theorem Ld.post {F H H' : Hp} (l : Ld F H) (e : Same H H') : Ld F H' := fun a u h => by
  rcases l a u h with h | ⟨k, o, h1, h2⟩
  · exact .inl (e _ _ h)
  · exact .inr ⟨k, o, h1, e _ _ h2⟩
theorem Ld.pre {F F' H : Hp} (e : Same F F') (l : Ld F' H) : Ld F H := fun a u h => l a u (e a u h)
theorem Ld.none {F H : Hp} (l : Ld F H) {a : Addr} (h : H a = none) : F a = none := by
  cases q : F a with
  | none => rfl
  | some u =>
    rcases l a u q with h1 | ⟨_, _, _, h1⟩
    · rw [h] at h1; cases h1
    · rw [h] at h1; cases h1
structure Grow (F H F2 H2 : Hp) : Prop where
  f : Same F F2
  h : Same H H2
  l : Ld F2 H2
  n : ∀ a o, H a = some o → (∀ xs, o ≠ .tup xs) → F2 a = F a
theorem Grow.refl {F H : Hp} (l : Ld F H) : Grow F H F H := ⟨Same.refl F, Same.refl H, l, fun _ _ _ _ => rfl⟩
theorem Same.ne {H H' : Hp} (e : Same H H') {a : Addr} (h : H a ≠ none) : H' a ≠ none := by
  cases q : H a with
  | none => exact absurd q h
  | some o => rw [e a o q]; intro z; cases z
theorem Grow.trans {F H F1 H1 F2 H2 : Hp} (a : Grow F H F1 H1) (b : Grow F1 H1 F2 H2) : Grow F H F2 H2 :=
  ⟨a.f.trans b.f, a.h.trans b.h, b.l, fun x o hx ht => (b.n x o (a.h x o hx) ht).trans (a.n x o hx ht)⟩
theorem same_new {F : Hp} {p : Addr} {o : HO} (h : F p = none) : Same F (upd F p o) := fun a u e => by
  rw [upd_ne (ne_of_none e h)]; exact e
theorem Grow.new {F H : Hp} {p : Addr} {o : HO} (l : Ld F H) (h : H p = none) : Grow F H (upd F p o) (upd H p o) := by
  have hf : F p = none := l.none h
  refine ⟨same_new hf, same_new h, fun a u e => ?_, fun a o ha _ => ?_⟩
  · by_cases x : a = p
    · subst x; rw [upd_same] at e ⊢; exact .inl e
    · rw [upd_ne x] at e ⊢; exact l a u e
  · exact upd_ne (ne_of_none ha h)
/-- a new object that F does not hear of -/
theorem Grow.newH {F H : Hp} {p : Addr} {o : HO} (l : Ld F H) (h : H p = none) : Grow F H F (upd H p o) :=
  ⟨Same.refl F, same_new h, l.post (same_new h), fun _ _ _ _ => rfl⟩

/-! ### data -/
def kD : Key → D
  | .inl i => .int i
  | .inr s => .str s
/-- the script's datum -/
def scr (ns : List Int) : D := .dict [(.none, .list (ns.map .int))]
/-- the fields of an Asker, as they stand -/
abbrev fs4 (a b c d : V) : List (Str × V) := [("many", a), ("rows", b), ("rules", c), ("answers", d)]
/-- C is the class Asker -/
def InsK (K : PySem.W.Frag) (C : Addr) : Prop := PySem.W.nsIn K mainGlobals "Asker" = some (some (.ref C))
/-- an Asker as a datum -/
abbrev insD (a b c d : D) : D := .dict [(.list [], a), (.list [], b), (.list [], c), (.list [], d)]
def isIns : List (D × D) → Bool
  | (.list _, _) :: _ => true
  | _ => false
mutual
def Re (K : PySem.W.Frag) (F : Hp) : V → D → Prop
  | v, .none => v = .non
  | v, .bool b => v = .bl b
  | v, .int i => v = .int i
  | v, .str s => v = .str s
  | v, .list ds => ∃ a xs, v = .ref a ∧ F a = some (.lst xs) ∧ ReAll K F xs ds ∧ ds.length ≤ big
  | v, .tuple ds => ∃ a xs, v = .ref a ∧ F a = some (.tup xs) ∧ ReAll K F xs ds ∧ ds.length ≤ big
  | v, .dict es => (∃ a kvs, v = .ref a ∧ F a = some (.dT kvs) ∧ ReKv K F kvs es ∧ es.length ≤ big) ∨
      (∃ (a : Addr) (ns : List Int), v = .ref a ∧ es = [(.none, .list (ns.map .int))] ∧ SqL K F a (ns.map V.int) ∧ ns.length ≤ big) ∨
      (∃ a kvs, v = .ref a ∧ F a = some (.dK kvs) ∧ ReKi K F kvs es ∧ es ≠ []) ∨
      (∃ (a C dx : Addr) (v1 v2 v3 v4 : V), v = .ref a ∧ F a = some (.ins C dx (fs4 v1 v2 v3 v4)) ∧ InsK K C ∧ ReIs K F [v1, v2, v3, v4] es)
def ReAll (K : PySem.W.Frag) (F : Hp) : List V → List D → Prop
  | [], [] => True
  | v :: vs, d :: ds => Re K F v d ∧ ReAll K F vs ds
  | [], _ :: _ => False
  | _ :: _, [] => False
def ReKv (K : PySem.W.Frag) (F : Hp) : List (List Key × V) → List (D × D) → Prop
  | [], [] => True
  | (k, v) :: kvs, (kd, d) :: es => (kd = .tuple (k.map kD) ∧ Re K F v d) ∧ ReKv K F kvs es
  | [], _ :: _ => False
  | _ :: _, [] => False
def ReKi (K : PySem.W.Frag) (F : Hp) : List (Key × V) → List (D × D) → Prop
  | [], [] => True
  | (k, v) :: kvs, (kd, d) :: es => (kd = kD k ∧ Re K F v d) ∧ ReKi K F kvs es
  | [], _ :: _ => False
  | _ :: _, [] => False
def ReIs (K : PySem.W.Frag) (F : Hp) : List V → List (D × D) → Prop
  | [], [] => True
  | v :: vs, (kd, d) :: es => (kd = .list [] ∧ Re K F v d) ∧ ReIs K F vs es
  | [], _ :: _ => False
  | _ :: _, [] => False
end
section
variable {K : PySem.W.Frag} {F F' H H' : Hp}
theorem ReAll.len : ∀ {vs : List V} {ds : List D}, ReAll K F vs ds → vs.length = ds.length
  | [], [], _ => rfl
  | v :: vs, d :: ds, h => by
    simp only [ReAll] at h
    rw [List.length_cons, List.length_cons, ReAll.len h.2]
  | [], _ :: _, h => by simp only [ReAll] at h
  | _ :: _, [], h => by simp only [ReAll] at h
theorem ReAll.get : ∀ {vs : List V} {ds : List D} {i : Nat} {d : D}, ReAll K F vs ds → ds[i]? = some d → ∃ v, vs[i]? = some v ∧ Re K F v d
  | [], [], i, d, _, e => by simp at e
  | v :: vs, x :: ds, 0, d, h, e => by
    simp only [ReAll] at h
    have e : x = d := by simpa using e
    subst e
    exact ⟨v, rfl, h.1⟩
  | v :: vs, x :: ds, i + 1, d, h, e => by
    simp only [ReAll] at h
    obtain ⟨u, h1, h2⟩ := ReAll.get (i := i) h.2 (by simpa using e)
    exact ⟨u, by simpa using h1, h2⟩
  | [], _ :: _, _, _, h, _ => by simp only [ReAll] at h
  | _ :: _, [], _, _, h, _ => by simp only [ReAll] at h
theorem ReAll.getV : ∀ {vs : List V} {ds : List D} {i : Nat} {v : V}, ReAll K F vs ds → vs[i]? = some v → ∃ d, ds[i]? = some d ∧ Re K F v d
  | [], [], i, d, _, e => by simp at e
  | x :: vs, d :: ds, 0, v, h, e => by
    simp only [ReAll] at h
    have e : x = v := by simpa using e
    subst e
    exact ⟨d, rfl, h.1⟩
  | x :: vs, d :: ds, i + 1, v, h, e => by
    simp only [ReAll] at h
    obtain ⟨u, h1, h2⟩ := ReAll.getV (i := i) h.2 (by simpa using e)
    exact ⟨u, by simpa using h1, h2⟩
  | [], _ :: _, _, _, h, _ => by simp only [ReAll] at h
  | _ :: _, [], _, _, h, _ => by simp only [ReAll] at h
theorem ReAll.app : ∀ {vs ws : List V} {ds es : List D}, ReAll K F vs ds → ReAll K F ws es → ReAll K F (vs ++ ws) (ds ++ es)
  | [], ws, [], es, _, h => h
  | v :: vs, ws, d :: ds, es, h, h' => by
    simp only [ReAll] at h
    simp only [List.cons_append, ReAll]
    exact ⟨h.1, ReAll.app h.2 h'⟩
  | [], _, _ :: _, _, h, _ => by simp only [ReAll] at h
  | _ :: _, _, [], _, h, _ => by simp only [ReAll] at h
theorem ReAll.take : ∀ (n : Nat) {vs : List V} {ds : List D}, ReAll K F vs ds → ReAll K F (vs.take n) (ds.take n)
  | 0, _, _, _ => by simp [ReAll]
  | n + 1, [], [], _ => by simp [ReAll]
  | n + 1, v :: vs, d :: ds, h => by
    simp only [ReAll] at h
    simp only [List.take_succ_cons, ReAll]
    exact ⟨h.1, ReAll.take n h.2⟩
  | n + 1, [], _ :: _, h => by simp only [ReAll] at h
  | n + 1, _ :: _, [], h => by simp only [ReAll] at h
theorem ReAll.drop : ∀ (n : Nat) {vs : List V} {ds : List D}, ReAll K F vs ds → ReAll K F (vs.drop n) (ds.drop n)
  | 0, _, _, h => h
  | n + 1, [], [], _ => by simp [ReAll]
  | n + 1, v :: vs, d :: ds, h => by
    simp only [ReAll] at h
    simp only [List.drop_succ_cons]
    exact ReAll.drop n h.2
  | n + 1, [], _ :: _, h => by simp only [ReAll] at h
  | n + 1, _ :: _, [], h => by simp only [ReAll] at h
theorem ReAll.rev {vs : List V} {ds : List D} (h : ReAll K F vs ds) : ReAll K F vs.reverse ds.reverse := by
  induction ds generalizing vs with
  | nil =>
    cases vs with
    | nil => simp [ReAll]
    | cons _ _ => simp only [ReAll] at h
  | cons d ds ih =>
    cases vs with
    | nil => simp only [ReAll] at h
    | cons v vs =>
      simp only [ReAll] at h
      rw [List.reverse_cons, List.reverse_cons]
      exact (ih h.2).app ⟨h.1, trivial⟩
/-- what a datum's reading leans on: lists, tuples, dicts at F; ns the script -/
theorem sq_mono (e : Same F F') {a : Addr} {xs : List V} (h : SqL K F a xs) : SqL K F' a xs := e.seq h
mutual
theorem Re.mono (e : Same F F') : ∀ (d : D) (v : V), Re K F v d → Re K F' v d
  | .none, v, h => by simp only [Re] at h ⊢; exact h
  | .bool b, v, h => by simp only [Re] at h ⊢; exact h
  | .int i, v, h => by simp only [Re] at h ⊢; exact h
  | .str s, v, h => by simp only [Re] at h ⊢; exact h
  | .list ds, v, h => by
    simp only [Re] at h ⊢
    obtain ⟨a, xs, h1, h2, h3, h4⟩ := h
    exact ⟨a, xs, h1, e _ _ h2, ReAll.mono e ds xs h3, h4⟩
  | .tuple ds, v, h => by
    simp only [Re] at h ⊢
    obtain ⟨a, xs, h1, h2, h3, h4⟩ := h
    exact ⟨a, xs, h1, e _ _ h2, ReAll.mono e ds xs h3, h4⟩
  | .dict es, v, h => by
    simp only [Re] at h ⊢
    rcases h with ⟨a, kvs, h1, h2, h3, h4⟩ | ⟨a, ns, h1, h2, h3, h4⟩ | ⟨a, kvs, h1, h2, h3, h4⟩ | ⟨a, C, dx, v1, v2, v3, v4, h1, h2, h3, h4⟩
    · exact .inl ⟨a, kvs, h1, e _ _ h2, ReKv.mono e es kvs h3, h4⟩
    · exact .inr (.inl ⟨a, ns, h1, h2, sq_mono e h3, h4⟩)
    · exact .inr (.inr (.inl ⟨a, kvs, h1, e _ _ h2, ReKi.mono e es kvs h3, h4⟩))
    · exact .inr (.inr (.inr ⟨a, C, dx, v1, v2, v3, v4, h1, e _ _ h2, h3, ReIs.mono e es _ h4⟩))
theorem ReAll.mono (e : Same F F') : ∀ (ds : List D) (vs : List V), ReAll K F vs ds → ReAll K F' vs ds
  | [], [], _ => by simp only [ReAll]
  | d :: ds, v :: vs, h => by
    simp only [ReAll] at h ⊢
    exact ⟨Re.mono e d v h.1, ReAll.mono e ds vs h.2⟩
  | [], _ :: _, h => by simp only [ReAll] at h
  | _ :: _, [], h => by simp only [ReAll] at h
theorem ReKv.mono (e : Same F F') : ∀ (es : List (D × D)) (kvs : List (List Key × V)), ReKv K F kvs es → ReKv K F' kvs es
  | [], [], _ => by simp only [ReKv]
  | (kd, d) :: es, (k, v) :: kvs, h => by
    simp only [ReKv] at h ⊢
    exact ⟨⟨h.1.1, Re.mono e d v h.1.2⟩, ReKv.mono e es kvs h.2⟩
  | [], _ :: _, h => by simp only [ReKv] at h
  | _ :: _, [], h => by simp only [ReKv] at h
theorem ReKi.mono (e : Same F F') : ∀ (es : List (D × D)) (kvs : List (Key × V)), ReKi K F kvs es → ReKi K F' kvs es
  | [], [], _ => by simp only [ReKi]
  | (kd, d) :: es, (k, v) :: kvs, h => by
    simp only [ReKi] at h ⊢
    exact ⟨⟨h.1.1, Re.mono e d v h.1.2⟩, ReKi.mono e es kvs h.2⟩
  | [], _ :: _, h => by simp only [ReKi] at h
  | _ :: _, [], h => by simp only [ReKi] at h
theorem ReIs.mono (e : Same F F') : ∀ (es : List (D × D)) (vs : List V), ReIs K F vs es → ReIs K F' vs es
  | [], [], _ => by simp only [ReIs]
  | (kd, d) :: es, v :: vs, h => by
    simp only [ReIs] at h ⊢
    exact ⟨⟨h.1.1, Re.mono e d v h.1.2⟩, ReIs.mono e es vs h.2⟩
  | [], _ :: _, h => by simp only [ReIs] at h
  | _ :: _, [], h => by simp only [ReIs] at h
end
theorem Re.m {v : V} {d : D} (h : Re K F v d) (e : Same F F') : Re K F' v d := Re.mono e d v h
theorem ReAll.m {vs : List V} {ds : List D} (h : ReAll K F vs ds) (e : Same F F') : ReAll K F' vs ds := ReAll.mono e ds vs h
/-! no list, no dict in it -/
mutual
def noLst : D → Bool
  | .list _ => false
  | .dict _ => false
  | .tuple ds => noLsts ds
  | _ => true
def noLsts : List D → Bool
  | [] => true
  | d :: ds => noLst d && noLsts ds
end
mutual
theorem Re.thaw (e : ∀ a xs, F a = some (.tup xs) → F' a = some (.tup xs)) : ∀ (d : D) (v : V), noLst d = true → Re K F v d → Re K F' v d
  | .none, v, _, h => by simp only [Re] at h ⊢; exact h
  | .bool b, v, _, h => by simp only [Re] at h ⊢; exact h
  | .int i, v, _, h => by simp only [Re] at h ⊢; exact h
  | .str s, v, _, h => by simp only [Re] at h ⊢; exact h
  | .list ds, v, n, _ => by simp [noLst] at n
  | .tuple ds, v, n, h => by
    simp only [noLst] at n
    simp only [Re] at h ⊢
    obtain ⟨a, xs, h1, h2, h3, h4⟩ := h
    exact ⟨a, xs, h1, e _ _ h2, ReAll.thaw e ds xs n h3, h4⟩
  | .dict es, v, n, _ => by simp [noLst] at n
theorem ReAll.thaw (e : ∀ a xs, F a = some (.tup xs) → F' a = some (.tup xs)) : ∀ (ds : List D) (vs : List V), noLsts ds = true → ReAll K F vs ds → ReAll K F' vs ds
  | [], [], _, _ => by simp only [ReAll]
  | d :: ds, v :: vs, n, h => by
    simp only [noLsts, Bool.and_eq_true] at n
    simp only [ReAll] at h ⊢
    exact ⟨Re.thaw e d v n.1 h.1, ReAll.thaw e ds vs n.2 h.2⟩
  | [], _ :: _, _, h => by simp only [ReAll] at h
  | _ :: _, [], _, h => by simp only [ReAll] at h
end
/-! to the layer's own data -/
mutual
theorem Re.dp (l : Ld F H) : ∀ (d : D) (v : V), d.canLay0 = true → Re K F v d → Dp K H v d
  | .none, v, _, h => by simp only [Re] at h; subst h; exact .non
  | .bool b, v, _, h => by simp only [Re] at h; subst h; exact .bl b
  | .int i, v, _, h => by simp only [Re] at h; subst h; exact .int i
  | .str s, v, _, h => by simp only [Re] at h; subst h; exact .str s
  | .list ds, v, c, h => by
    simp only [PyData.canLay0] at c
    simp only [Re] at h
    obtain ⟨a, xs, rfl, h2, h3, h4⟩ := h
    have h2' : H a = some (.lst xs) := by
      rcases l _ _ h2 with z | ⟨_, _, z, _⟩
      · exact z
      · cases z
    exact .lst (SqL.of h2') (ReAll.dp l ds xs c h3)
  | .tuple ds, v, c, h => by
    simp only [PyData.canLay0] at c
    simp only [Re] at h
    obtain ⟨a, xs, rfl, h2, h3, h4⟩ := h
    have h2' : H a = some (.tup xs) := by
      rcases l _ _ h2 with z | ⟨_, _, z, _⟩
      · exact z
      · cases z
    exact .tup (SqT.of h2') (ReAll.dp l ds xs c h3)
  | .dict es, v, c, _ => by simp [PyData.canLay0] at c
theorem ReAll.dp (l : Ld F H) : ∀ (ds : List D) (vs : List V), PyData.canLayAll0 ds = true → ReAll K F vs ds → DpAll K H vs ds
  | [], [], _, _ => .nil
  | d :: ds, v :: vs, c, h => by
    simp only [PyData.canLayAll0, Bool.and_eq_true] at c
    simp only [ReAll] at h
    exact .cons (Re.dp l d v c.1 h.1) (ReAll.dp l ds vs c.2 h.2)
  | [], _ :: _, _, h => by simp only [ReAll] at h
  | _ :: _, [], _, h => by simp only [ReAll] at h
end
theorem Ld.lst (l : Ld F H) {a : Addr} {xs : List V} (h : F a = some (.lst xs)) : H a = some (.lst xs) := by
  rcases l _ _ h with z | ⟨_, _, z, _⟩
  · exact z
  · cases z
theorem Ld.tup (l : Ld F H) {a : Addr} {xs : List V} (h : F a = some (.tup xs)) : H a = some (.tup xs) := by
  rcases l _ _ h with z | ⟨_, _, z, _⟩
  · exact z
  · cases z
theorem Ld.sq (l : Ld F H) {a : Addr} {xs : List V} (h : SqL K F a xs) : SqL K H a xs := by
  rcases h with (h | ⟨o, h⟩) | h
  · exact .inl (.inl (l.lst h))
  · rcases l _ _ h with z | ⟨_, _, z, _⟩
    · exact .inl (.inr ⟨o, z⟩)
    · cases z
  · exact .inr h
theorem re_int {v : V} {i : Int} : Re K F v (.int i) ↔ v = .int i := by simp only [Re]
theorem re_bool {v : V} {b : Bool} : Re K F v (.bool b) ↔ v = .bl b := by simp only [Re]
theorem re_str {v : V} {s : Str} : Re K F v (.str s) ↔ v = .str s := by simp only [Re]
theorem re_none {v : V} : Re K F v .none ↔ v = .non := by simp only [Re]
theorem re_list {v : V} {ds : List D} : Re K F v (.list ds) ↔ ∃ a xs, v = .ref a ∧ F a = some (.lst xs) ∧ ReAll K F xs ds ∧ ds.length ≤ big := by simp only [Re]
theorem re_tuple {v : V} {ds : List D} : Re K F v (.tuple ds) ↔ ∃ a xs, v = .ref a ∧ F a = some (.tup xs) ∧ ReAll K F xs ds ∧ ds.length ≤ big := by simp only [Re]
theorem re_all_nil {ds : List D} (h : ReAll K F [] ds) : ds = [] := by
  cases ds with
  | nil => rfl
  | cons _ _ => simp only [ReAll] at h
theorem re_cons {v : V} {vs : List V} {d : D} {ds : List D} : ReAll K F (v :: vs) (d :: ds) ↔ Re K F v d ∧ ReAll K F vs ds := by simp only [ReAll]
theorem re_nil : ReAll K F [] [] := by simp only [ReAll]
/-- arguments one by one -/
theorem re_args1 {vs : List V} {d : D} (h : ReAll K F vs [d]) : ∃ v, vs = [v] ∧ Re K F v d := by
  cases vs with
  | nil => simp only [ReAll] at h
  | cons v vs =>
    simp only [ReAll] at h
    cases vs with
    | nil => exact ⟨v, rfl, h.1⟩
    | cons _ _ => simp only [ReAll] at h; exact h.2.elim
theorem re_args2 {vs : List V} {d e : D} (h : ReAll K F vs [d, e]) : ∃ v u, vs = [v, u] ∧ Re K F v d ∧ Re K F u e := by
  cases vs with
  | nil => simp only [ReAll] at h
  | cons v vs =>
    rw [re_cons] at h
    obtain ⟨u, rfl, hu⟩ := re_args1 h.2
    exact ⟨v, u, rfl, h.1, hu⟩
theorem re_ints : ∀ {vs : List V} {ns : List Int}, ReAll K F vs (ns.map .int) → vs = ns.map V.int
  | [], [], _ => rfl
  | v :: vs, n :: ns, h => by
    rw [List.map_cons, re_cons, re_int] at h
    rw [h.1, re_ints h.2, List.map_cons]
  | [], _ :: _, h => by simp only [List.map_cons, ReAll] at h
  | _ :: _, [], h => by simp only [List.map_nil, ReAll] at h
theorem re_ints_mk : ∀ (ns : List Int), ReAll K F (ns.map V.int) (ns.map .int)
  | [] => by simp only [List.map_nil, ReAll]
  | n :: ns => by
    rw [List.map_cons, List.map_cons, re_cons, re_int]
    exact ⟨rfl, re_ints_mk ns⟩
theorem re_strs : ∀ {vs : List V} {ns : List Str}, ReAll K F vs (ns.map .str) → vs = ns.map V.str
  | [], [], _ => rfl
  | v :: vs, n :: ns, h => by
    rw [List.map_cons, re_cons, re_str] at h
    rw [h.1, re_strs h.2, List.map_cons]
  | [], _ :: _, h => by simp only [List.map_cons, ReAll] at h
  | _ :: _, [], h => by simp only [List.map_nil, ReAll] at h
theorem re_strs_mk : ∀ (ns : List Str), ReAll K F (ns.map V.str) (ns.map .str)
  | [] => by simp only [List.map_nil, ReAll]
  | n :: ns => by
    rw [List.map_cons, List.map_cons, re_cons, re_str]
    exact ⟨rfl, re_strs_mk ns⟩
theorem re_bools : ∀ {vs : List V} {ns : List Bool}, ReAll K F vs (ns.map .bool) → vs = ns.map V.bl
  | [], [], _ => rfl
  | v :: vs, n :: ns, h => by
    rw [List.map_cons, re_cons, re_bool] at h
    rw [h.1, re_bools h.2, List.map_cons]
  | [], _ :: _, h => by simp only [List.map_cons, ReAll] at h
  | _ :: _, [], h => by simp only [List.map_nil, ReAll] at h
/-- a new tuple, a new list -/
theorem Grow.tup {F H : Hp} {p : Addr} {vs : List V} {ds : List D} (l : Ld F H) (h : H p = none) (r : ReAll K F vs ds) (hl : ds.length ≤ big) :
    Grow F H (upd F p (.tup vs)) (upd H p (.tup vs)) ∧ Re K (upd F p (.tup vs)) (.ref p) (.tuple ds) :=
  ⟨.new l h, by rw [re_tuple]; exact ⟨p, vs, rfl, upd_same, r.m (same_new (l.none h)), hl⟩⟩
theorem Grow.lst {F H : Hp} {p : Addr} {vs : List V} {ds : List D} (l : Ld F H) (h : H p = none) (r : ReAll K F vs ds) (hl : ds.length ≤ big) :
    Grow F H (upd F p (.lst vs)) (upd H p (.lst vs)) ∧ Re K (upd F p (.lst vs)) (.ref p) (.list ds) :=
  ⟨.new l h, by rw [re_list]; exact ⟨p, vs, rfl, upd_same, r.m (same_new (l.none h)), hl⟩⟩
end

/-! ### environments -/
abbrev Nv := List (Option D)
/-- the world that a def runs in -/
structure Wd where
  P : Program
  w : World
  K : PySem.W.Frag
  mg : Str → Option Value
  base : Heap
/-- what an own slot holds -/
def OwnO (K : PySem.W.Frag) (F : Hp) (o : HO) : D → Prop
  | .list ds => ∃ vs, o = .lst vs ∧ ReAll K F vs ds ∧ ds.length ≤ big
  | .dict es => (isIns es = false ∧ ∃ kvs, o = .dT kvs ∧ ReKv K F kvs es ∧ es.length ≤ big) ∨ (∃ (C dx : Addr) (v1 v2 v3 v4 : V), o = .ins C dx (fs4 v1 v2 v3 v4) ∧ InsK K C ∧ ReIs K F [v1, v2, v3, v4] es)
  | _ => False
theorem isIns_of {K : PySem.W.Frag} {F : Hp} {v : V} {vs : List V} {es : List (D × D)} (h : ReIs K F (v :: vs) es) : isIns es = true := by
  cases es with
  | nil => simp only [ReIs] at h
  | cons p es =>
    obtain ⟨kd, d⟩ := p
    simp only [ReIs] at h
    rw [h.1.1]
    rfl
theorem OwnO.mono {K : PySem.W.Frag} {F F' : Hp} {o : HO} (e : Same F F') : ∀ {d : D}, OwnO K F o d → OwnO K F' o d
  | .list ds, ⟨vs, h1, h2, h3⟩ => ⟨vs, h1, h2.m e, h3⟩
  | .dict es, .inl ⟨h0, kvs, h1, h2, h3⟩ => .inl ⟨h0, kvs, h1, ReKv.mono e es kvs h2, h3⟩
  | .dict es, .inr ⟨C, dx, v1, v2, v3, v4, h1, h2, h3⟩ => .inr ⟨C, dx, v1, v2, v3, v4, h1, h2, ReIs.mono e es _ h3⟩
  | .none, h => h.elim
  | .bool _, h => h.elim
  | .int _, h => h.elim
  | .str _, h => h.elim
  | .tuple _, h => h.elim
theorem OwnO.noTup {K : PySem.W.Frag} {F : Hp} {o : HO} : ∀ {d : D}, OwnO K F o d → ∀ xs, o ≠ .tup xs
  | .list _, ⟨_, h1, _⟩, _, e => by rw [h1] at e; cases e
  | .dict _, .inl ⟨_, _, h1, _⟩, _, e => by rw [h1] at e; cases e
  | .dict _, .inr ⟨_, _, _, _, _, _, h1, _⟩, _, e => by rw [h1] at e; cases e
  | .none, h, _, _ => h.elim
  | .bool _, h, _, _ => h.elim
  | .int _, h, _, _ => h.elim
  | .str _, h, _, _ => h.elim
  | .tuple _, h, _, _ => h.elim
structure Rel (K : PySem.W.Frag) (B F0 : Hp) (w : List Nat) (F : Hp) (ρ : Nv) (σ : L2.St) (H : Hp) : Prop where
  g : Grow F0 B F H
  len : ρ.length = σ.length
  val : ∀ i d, i ∉ w → ρ[i]? = some (some d) → ∃ v, σ[i]? = some (some v) ∧ Re K F v d
  own : ∀ i d, i ∈ w → ρ[i]? = some (some d) → ∃ p o, σ[i]? = some (some (.ref p)) ∧ B p = none ∧ F p = none ∧ H p = some o ∧ OwnO K F o d
  sep : ∀ i j p, i ∈ w → j ∈ w → i ≠ j → (∃ d, ρ[i]? = some (some d)) → (∃ d, ρ[j]? = some (some d)) → σ[i]? = some (some (.ref p)) → σ[j]? = some (some (.ref p)) → False
section
variable {K : PySem.W.Frag} {B F0 F F2 H H2 : Hp} {w : List Nat} {ρ : Nv} {σ : L2.St}
theorem Rel.grow (R : Rel K B F0 w F ρ σ H) (g : Grow F H F2 H2) : Rel K B F0 w F2 ρ σ H2 where
  g := R.g.trans g
  len := R.len
  val := fun i d hi e => let ⟨v, h1, h2⟩ := R.val i d hi e; ⟨v, h1, h2.m g.f⟩
  own := fun i d hi e => by
    obtain ⟨p, o, h1, h2, h3, h4, h5⟩ := R.own i d hi e
    refine ⟨p, o, h1, h2, ?_, g.h _ _ h4, h5.mono g.f⟩
    rw [g.n p o h4 h5.noTup]; exact h3
  sep := R.sep
theorem Rel.l (R : Rel K B F0 w F ρ σ H) : Ld F H := R.g.l
end

/-! ### what evaluates to what -/
abbrev XE := Nv → Option D
def EvD (K : PySem.W.Frag) (w : List Nat) (te : TE) (f : XE) : Prop := ∀ B F0 ρ d, f ρ = some d → ∀ F σ H, Rel K B F0 w F ρ σ H → ∀ Q : VK, (∀ v F2 H2, Grow F H F2 H2 → Re K F2 v d → Q v H2) → te σ H Q
def TvD (K : PySem.W.Frag) (w : List Nat) (tt : TT) (f : XE) : Prop := ∀ B F0 ρ b, f ρ = some (.bool b) → ∀ F σ H, Rel K B F0 w F ρ σ H → ∀ Q : Bool → Hp → Prop, (∀ F2 H2, Grow F H F2 H2 → Q b H2) → tt σ H Q
def xArgs : List XE → Nv → Option (List D)
  | [], _ => some []
  | f :: fs, ρ => (f ρ).bind fun d => (xArgs fs ρ).bind fun ds => some (d :: ds)
def AvD (K : PySem.W.Frag) (w : List Nat) (ta : TA) (fs : List XE) : Prop := ∀ B F0 ρ ds, xArgs fs ρ = some ds → ∀ F σ H, Rel K B F0 w F ρ σ H → ∀ Q : List V → Hp → Prop, (∀ vs F2 H2, Grow F H F2 H2 → ReAll K F2 vs ds → Q vs H2) → ta σ H Q

/-! ### contexts -/
structure Sta where
  N : List Str
  sc : Scope
  k : Nat
  fn : Str → Bool
  cm : Bool
  tp : Bool
  hx : Option (Str × Addr)
/-- a def's own body -/
abbrev staF (N : List Str) (sc : Scope) (k : Nat) : Sta := ⟨N, sc, k, fun _ => true, true, true, none⟩
/-- an except suite that holds an error of the class c, at a -/
def Sta.hot (S : Sta) (c : Str) (a : Addr) : Sta := ⟨S.N, S.sc, S.k, S.fn, false, S.tp, some (c, a)⟩
/-- the class of an error, by its name -/
def cv (G : Wd) (c : Str) : Value := (G.mg c).getD .none
structure In (G : Wd) (S : Sta) (X : Cx) : Prop where
  p : X.prog = G.P
  w : X.w = G.w
  K : X.K = G.K
  mg : X.mg = G.mg
  base : X.base = G.base
  N : X.N = S.N
  sc : X.env.scope = S.sc
  fn : X.fn = S.fn
  nd : S.N.Nodup
  room : S.cm = true → Room S.k X.A
  calm : S.cm = true → X.calm = true
  kind : S.sc.kind = .function
  po : PassesOwn (model X.prog X.w) X.A X.env X.xe
  top : S.tp = true → X.stack = X.env :: X.outer ∧ X.env.frame = some X.env.locals
  exc : ∀ c a, S.hx = some (c, a) → ∃ (X0 : Cx) (oe : Obj) (pn : List (Addr × Obj)), X = Cx.suite X0 a ((a, oe) :: pn) ∧ L2N.Zn (cv G c) none oe ∧ ∃ vs, oe.data = .fields vs
def relS' (scope sc : Scope) : Scope :=
  { scope with names := scope.names.map fun (n, k) => if (k == .free && sc.kind == .function && sc.names.lookup n == some .cell) then (n, .cell) else (n, k) }
/-- within a comprehension -/
def Sta.blk (S : Sta) (scope : Scope) : Sta := ⟨S.N, relS' scope S.sc, S.k, fun x => scope.names.lookup x == some .cell, S.cm, false, none⟩
theorem In.blk {G : Wd} {S : Sta} {X : Cx} (h : In G S X) {scope : Scope} (hk : scope.kind = .function) (s : Shared) (H : Hp) (C : Addr) (cl : List (Str × Addr)) (fp : List Addr) : In G (S.blk scope) (X.blk s H scope (compEnvC scope cl C X.env) fp) where
  p := h.p
  w := h.w
  K := h.K
  mg := h.mg
  base := h.base
  N := h.N
  sc := by
    show relabel scope X.env = relS' scope S.sc
    unfold relabel relS' Env.kindOf
    rw [h.sc]
  fn := rfl
  nd := h.nd
  room := h.room
  calm := h.calm
  kind := hk
  po := PassesOwn.never
  top := fun h => by cases h
  exc := fun _ _ h => by cases h

def DE (G : Wd) (S : Sta) (w : List Nat) (e : Expr) (f : XE) : Prop := ∃ te, (∀ X, In G S X → PE X e te) ∧ EvD G.K w te f
def DT (G : Wd) (S : Sta) (w : List Nat) (e : Expr) (f : XE) : Prop := ∃ tt, (∀ X, In G S X → PT X e tt) ∧ TvD G.K w tt f
def DA (G : Wd) (S : Sta) (w : List Nat) (es : List Expr) (fs : List XE) : Prop := ∃ ta, (∀ X, In G S X → PA X es ta) ∧ AvD G.K w ta fs
/-- by values: operators, calls, methods -/
def OpD (K : PySem.W.Frag) (r : R2) (g : D → D → Option D) : Prop := ∀ F H x y d e z, Ld F H → Re K F x d → Re K F y e → g d e = some z → ∀ Q : VK, (∀ v F2 H2, Grow F H F2 H2 → Re K F2 v z → Q v H2) → r x y H Q
def CvD (K : PySem.W.Frag) (r : List V → Hp → VK → Prop) (φ : List D → Option D) : Prop := ∀ F H vs ds z, Ld F H → ReAll K F vs ds → φ ds = some z → ∀ Q : VK, (∀ v F2 H2, Grow F H F2 H2 → Re K F2 v z → Q v H2) → r vs H Q

/-! DL2: the data layer, expressions. -/

/-! ### the functions -/
def xVar (i : Nat) : XE := fun ρ => (ρ[i]?).bind id
def xC (d : D) : XE := fun _ => some d
def x1 (g : D → Option D) (a : XE) : XE := fun ρ => (a ρ).bind g
def x2 (g : D → D → Option D) (a b : XE) : XE := fun ρ => (a ρ).bind fun x => (b ρ).bind fun y => g x y
def xF (φ : List D → Option D) (fs : List XE) : XE := fun ρ => (xArgs fs ρ).bind φ
def xTup (fs : List XE) : XE := fun ρ => (xArgs fs ρ).bind fun ds => some (.tuple ds)
def xLst (fs : List XE) : XE := fun ρ => (xArgs fs ρ).bind fun ds => some (.list ds)
def xIf {α : Type} (c : D) (t e : Option α) : Option α := match c with
  | .bool true => t
  | .bool false => e
  | _ => none
def xAnd (a b : XE) : XE := fun ρ => (a ρ).bind fun c => xIf c (b ρ) (some (.bool false))
def xOr (a b : XE) : XE := fun ρ => (a ρ).bind fun c => xIf c (some (.bool true)) (b ρ)
def dNot : D → Option D
  | .bool b => some (.bool !b)
  | _ => none
def xNot (a : XE) : XE := x1 dNot a
/-- a < b < c -/
def xChain (g g' : D → D → Option D) (a b c : XE) : XE := fun ρ => (a ρ).bind fun x => (b ρ).bind fun y => (g x y).bind fun z => xIf z ((c ρ).bind fun v => g' y v) (some (.bool false))

def dAdd : D → D → Option D
  | .int i, .int j => some (.int (i + j))
  | .str a, .str b => if a.length + b.length ≤ big then some (.str (a ++ b)) else none
  | .tuple a, .tuple b => if a.length + b.length ≤ big then some (.tuple (a ++ b)) else none
  | .list a, .list b => if a.length + b.length ≤ big then some (.list (a ++ b)) else none
  | _, _ => none
def dSub : D → D → Option D
  | .int i, .int j => some (.int (i - j))
  | _, _ => none
def dMul : D → D → Option D
  | .int i, .int j => if (-(2 ^ 64) < i ∧ i < 2 ^ 64) ∨ (-(2 ^ 64) < j ∧ j < 2 ^ 64) then some (.int (i * j)) else none
  | .tuple a, .int k => if a ≠ [] ∧ 2 ≤ k ∧ k ≤ 1000 ∧ a.length ≤ 1000 then some (.tuple (List.replicate k.toNat a).flatten) else none
  | _, _ => none
def dDiv : D → D → Option D
  | .int i, .int j => if 0 < j ∧ j < 1073741824 then some (.int (i / j)) else none
  | _, _ => none
def dMod : D → D → Option D
  | .int i, .int j => if 0 < j then some (.int (i % j)) else none
  | _, _ => none
def dNeg : D → Option D
  | .int i => some (.int (-i))
  | _ => none
def dEq (d e : D) : Option D := if (SeqAt.shaped d && SeqAt.shaped e) = true then some (.bool (PyData.eqv d e)) else none
def dNe (d e : D) : Option D := if (SeqAt.shaped d && SeqAt.shaped e) = true then some (.bool (!PyData.eqv d e)) else none
def dLt : D → D → Option D
  | .int i, .int j => some (.bool (decide (i < j)))
  | _, _ => none
def dLe : D → D → Option D
  | .int i, .int j => some (.bool (decide (i ≤ j)))
  | _, _ => none
def dGt : D → D → Option D
  | .int i, .int j => some (.bool (decide (j < i)))
  | _, _ => none
def dGe : D → D → Option D
  | .int i, .int j => some (.bool (decide (j ≤ i)))
  | _, _ => none
/-- is it among these -/
def dMem (d : D) (xs : List D) : Bool := xs.any fun z => PyData.eqv z d
def strIn (a b : Str) : Bool := !(Builtin.Str.occurrences b a 0 b.length 1).isEmpty
def dIn : D → D → Option D
  | d, .list xs => if (SeqAt.shaped d && SeqAt.shaped (.list xs)) = true then some (.bool (dMem d xs)) else none
  | d, .tuple xs => if (SeqAt.shaped d && SeqAt.shaped (.tuple xs)) = true then some (.bool (dMem d xs)) else none
  | .str a, .str b => some (.bool (strIn a b))
  | _, _ => none
def dNotIn : D → D → Option D
  | d, .list xs => if (SeqAt.shaped d && SeqAt.shaped (.list xs)) = true then some (.bool (!dMem d xs)) else none
  | d, .tuple xs => if (SeqAt.shaped d && SeqAt.shaped (.tuple xs)) = true then some (.bool (!dMem d xs)) else none
  | .str a, .str b => some (.bool (!strIn a b))
  | _, _ => none
def isN : D → Bool
  | .none => true
  | _ => false
def dIsN (d : D) : Option D := some (.bool (isN d))
def dNotN (d : D) : Option D := some (.bool (!isN d))
def scrOf : List (D × D) → Option (List D)
  | [(.none, .list ns)] => some ns
  | _ => none
def dIx : D → D → Option D
  | .list xs, .int i => atI xs i
  | .tuple xs, .int i => atI xs i
  | .str s, .int i => if s.length ≤ big then (atI s.cps.toList i).map fun c => .str ⟨#[c]⟩ else none
  | .dict es, .int i => (scrOf es).bind fun xs => atI xs i
  | _, _ => none
def cutD (xs : List D) (lo hi : Option Int) : List D := (xs.drop (HT.sIx xs.length 0 lo)).take (HT.sIx xs.length xs.length hi - HT.sIx xs.length 0 lo)
def dSl (lo hi : Option Int) : D → Option D
  | .list xs => some (.list (cutD xs lo hi))
  | .tuple xs => some (.tuple (cutD xs lo hi))
  | .str s => if s.length ≤ big then some (.str (cutS s lo hi)) else none
  | .dict es => (scrOf es).bind fun xs => some (.list (cutD xs lo hi))
  | _ => none
def dPart : D → Option (Option Int)
  | .int i => some (some i)
  | _ => none
def xPart : Option XE → Nv → Option (Option Int)
  | none, _ => some none
  | some f, ρ => (f ρ).bind dPart
def xSl (a : XE) (lo hi : Option XE) : XE := fun ρ => (a ρ).bind fun x => (xPart lo ρ).bind fun l => (xPart hi ρ).bind fun h => dSl l h x

/-! ### arguments, names, constants -/
section
variable {G : Wd} {S : Sta} {w : List Nat} {e a b c : Expr} {es : List Expr} {f fa fb fc : XE} {fs : List XE} {pos : Pos}
theorem xArgs_cons {ρ : Nv} {ds : List D} (h : xArgs (f :: fs) ρ = some ds) : ∃ d es, f ρ = some d ∧ xArgs fs ρ = some es ∧ ds = d :: es := by
  unfold xArgs at h
  cases h1 : f ρ with
  | none => rw [h1] at h; cases h
  | some d =>
    rw [h1] at h
    cases h2 : xArgs fs ρ with
    | none => rw [h2] at h; cases h
    | some es =>
      rw [h2] at h
      exact ⟨d, es, rfl, rfl, (Option.some.inj h).symm⟩
theorem xArgs_len : ∀ {fs : List XE} {ρ : Nv} {ds : List D}, xArgs fs ρ = some ds → ds.length = fs.length
  | [], _, _, h => by unfold xArgs at h; cases h; rfl
  | f :: fs, ρ, ds, h => by
    obtain ⟨d, es, _, h2, rfl⟩ := xArgs_cons h
    rw [List.length_cons, List.length_cons, xArgs_len h2]
theorem da_nil : DA G S w [] [] := ⟨tNil, fun X _ => pa_nil, fun B F0 ρ ds h F σ H R Q q => by
  unfold xArgs at h; cases h
  exact q [] F H (.refl R.l) re_nil⟩
theorem da_cons (ha : DE G S w e f) (hr : DA G S w es fs) (hs : ∀ env : Env, starEach (e :: es) env = (false, eval e env) :: starEach es env := by intro _; rfl) : DA G S w (e :: es) (f :: fs) := by
  obtain ⟨te, p, v⟩ := ha
  obtain ⟨ta, pa, va⟩ := hr
  refine ⟨tCons te ta, fun X hX => pa_cons (p X hX) (pa X hX) (hs _), fun B F0 ρ ds h F σ H R Q q => ?_⟩
  obtain ⟨d, es', h1, h2, rfl⟩ := xArgs_cons h
  refine v B F0 ρ d h1 F σ H R _ fun x F2 H2 g r => ?_
  refine va B F0 ρ es' h2 F2 σ H2 (R.grow g) _ fun xs F3 H3 g3 r3 => ?_
  exact q _ F3 H3 (g.trans g3) (re_cons.mpr ⟨r.m g3.f, r3⟩)
theorem de_var (i : Nat) {x : Str} (hN : S.N[i]? = some x) (hv : Vis S.sc x) (hw : i ∉ w) (hd : (x == ("__debug__" : Str)) = false := by decide) (hcd : (x == ("__classdict__" : Str)) = false := by decide) : DE G S w (.Name x pos) (xVar i) :=
  ⟨tVar i, fun X hX => pe_var (by rw [hX.N]; exact hN) (by rw [hX.sc]; exact hv) hd hcd, fun B F0 ρ d h F σ H R Q q => by
    unfold xVar at h
    have h' : ρ[i]? = some (some d) := by
      cases e : ρ[i]? with
      | none => rw [e] at h; cases h
      | some o => rw [e] at h; exact congrArg some h
    obtain ⟨v, h1, h2⟩ := R.val i d hw h'
    exact ⟨v, h1, q v F H (.refl R.l) h2⟩⟩
theorem de_c {te : TE} {v : V} {d : D} (p : ∀ X, In G S X → PE X e (tC v)) (r : ∀ F, Re G.K F v d) : DE G S w e (xC d) :=
  ⟨tC v, p, fun B F0 ρ d' h F σ H R Q q => by
    unfold xC at h; cases h
    exact q v F H (.refl R.l) (r F)⟩
theorem de_int {i : Int} {j} : DE G S w (.Constant (.int i) j pos) (xC (.int i)) := de_c (te := tC (.int i)) (v := .int i) (fun X _ => pe_int) fun F => by rw [re_int]
theorem de_str {s : Str} {j} : DE G S w (.Constant (.str s) j pos) (xC (.str s)) := de_c (te := tC (.str s)) (v := .str s) (fun X _ => pe_str) fun F => by rw [re_str]
theorem de_bool {s : Bool} {j} : DE G S w (.Constant (.bool s) j pos) (xC (.bool s)) := de_c (te := tC (.bl s)) (v := .bl s) (fun X _ => pe_bl) fun F => by rw [re_bool]
theorem de_none {j} : DE G S w (.Constant .none j pos) (xC .none) := de_c (te := tC .non) (v := .non) (fun X _ => pe_non) fun F => by rw [re_none]
/-- a constant of the module -/
theorem de_glob {x : Str} {v : V} {u : Value} {d : D} (hm : G.mg x = some u) (r : RelV v u) (rd : ∀ F, Re G.K F v d) (hg : S.sc.names.lookup x = some .globalImplicit) (hd : (x == ("__debug__" : Str)) = false := by decide) : DE G S w (.Name x pos) (xC d) :=
  de_c (te := tC v) (v := v) (fun X hX => pe_glob (by unfold Gl Env.kindOf; rw [hX.sc]; exact hg) (by rw [hX.mg]; exact hm) r hd) rd

/-! ### operators -/
theorem evd_op {K : PySem.W.Frag} {r : R2} {g : D → D → Option D} {ta tb : TE} (hr : OpD K r g) (va : EvD K w ta fa) (vb : EvD K w tb fb) : EvD K w (tOp r ta tb) (x2 g fa fb) := fun B F0 ρ z h F σ H R Q q => by
  unfold x2 at h
  cases h1 : fa ρ with
  | none => rw [h1] at h; cases h
  | some d =>
    rw [h1] at h
    cases h2 : fb ρ with
    | none => rw [h2] at h; cases h
    | some d2 =>
      rw [h2] at h
      refine va B F0 ρ d h1 F σ H R _ fun x F2 H2 g2 r2 => ?_
      refine vb B F0 ρ d2 h2 F2 σ H2 (R.grow g2) _ fun y F3 H3 g3 r3 => ?_
      exact hr F3 H3 x y d d2 z (R.grow g2 |>.grow g3).l (r2.m g3.f) r3 h Q fun v F4 H4 g4 r4 => q v F4 H4 ((g2.trans g3).trans g4) r4
theorem tvd_test {K : PySem.W.Frag} {te : TE} (v : EvD K w te f) : TvD K w (tTest te) f := fun B F0 ρ b h F σ H R Q q =>
  v B F0 ρ _ h F σ H R _ fun x F2 H2 g r => ⟨b, re_bool.mp r, q F2 H2 g⟩
theorem tvd_B {K : PySem.W.Frag} {te : TE} (v : EvD K w te f) : TvD K w (tB te) f := fun B F0 ρ b h F σ H R Q q =>
  v B F0 ρ _ h F σ H R _ fun x F2 H2 g r => ⟨b, re_bool.mp r, q F2 H2 g⟩
theorem de_op {op : Operator} {r : R2} {g : D → D → Option D} (ho : ∀ X, In G S X → OpR X (binaryOp op) r) (hr : OpD G.K r g) (ha : DE G S w a fa) (hb : DE G S w b fb) : DE G S w (.BinOp a op b pos) (x2 g fa fb) := by
  obtain ⟨ta, pa, va⟩ := ha
  obtain ⟨tb, pb, vb⟩ := hb
  exact ⟨tOp r ta tb, fun X hX => pe_op (ho X hX) (pa X hX) (pb X hX), evd_op hr va vb⟩
theorem de_cmp {op : CmpOp} {r : R2} {g : D → D → Option D} (ho : ∀ X, In G S X → OpR X (compareOp op) r) (hr : OpD G.K r g) (ha : DE G S w a fa) (hb : DE G S w b fb) (hm : behindInMarks op b = false := by rfl) : DE G S w (.Compare a [op] [b] pos) (x2 g fa fb) := by
  obtain ⟨ta, pa, va⟩ := ha
  obtain ⟨tb, pb, vb⟩ := hb
  exact ⟨tOp r ta tb, fun X hX => pe_cmpR (ho X hX) (pa X hX) (pb X hX) hm, evd_op hr va vb⟩
theorem dt_cmp {op : CmpOp} {r : R2} {g : D → D → Option D} (ho : ∀ X, In G S X → OpR X (compareOp op) r) (hr : OpD G.K r g) (ha : DE G S w a fa) (hb : DE G S w b fb) (hm : behindInMarks op b = false := by rfl) : DT G S w (.Compare a [op] [b] pos) (x2 g fa fb) := by
  obtain ⟨ta, pa, va⟩ := ha
  obtain ⟨tb, pb, vb⟩ := hb
  exact ⟨tTest (tOp r ta tb), fun X hX => pt_cmpR (ho X hX) (pa X hX) (pb X hX) hm, tvd_test (evd_op hr va vb)⟩
theorem evd_un {K : PySem.W.Frag} {r : V → Hp → VK → Prop} {g : D → Option D} {ta : TE} (hr : ∀ F H x d z, Ld F H → Re K F x d → g d = some z → ∀ Q : VK, (∀ v F2 H2, Grow F H F2 H2 → Re K F2 v z → Q v H2) → r x H Q) (va : EvD K w ta fa) : EvD K w (tUn r ta) (x1 g fa) := fun B F0 ρ z h F σ H R Q q => by
  unfold x1 at h
  cases h1 : fa ρ with
  | none => rw [h1] at h; cases h
  | some d =>
    rw [h1] at h
    refine va B F0 ρ d h1 F σ H R _ fun x F2 H2 g2 r2 => ?_
    exact hr F2 H2 x d z (R.grow g2).l r2 h Q fun v F4 H4 g4 r4 => q v F4 H4 (g2.trans g4) r4
theorem de_neg (ha : DE G S w a fa) : DE G S w (.UnaryOp .USub a pos) (x1 dNeg fa) := by
  obtain ⟨ta, pa, va⟩ := ha
  refine ⟨tUn (rU fun i => .int (-i)) ta, fun X hX => pe_un un_neg (pa X hX), evd_un (fun F H x d z l r h Q q => ?_) va⟩
  cases d <;> simp only [dNeg] at h <;> cases h
  rw [re_int] at r
  exact ⟨_, r, q _ F H (.refl l) (re_int.mpr rfl)⟩

/-- the size of what is laid is told -/
theorem sz2 {K : PySem.W.Frag} {F : Hp} {xs ys : List V} {ds es : List D} (h1 : ReAll K F xs ds) (h2 : ReAll K F ys es) (h : ds.length + es.length ≤ big) : xs.length + ys.length ≤ sizeLine := by
  rw [h1.len, h2.len]; exact big_le h
def rAddD (K : PySem.W.Frag) : R2 := fun x y H Q => (((rI0 fun i j => .int (i + j)) x y H Q ∨ (∃ i j, x = .str i ∧ y = .str j ∧ i.length + j.length ≤ sizeLine ∧ Q (.str (i ++ j)) H)) ∨ rCatA K x y H Q) ∨ rCat x y H Q
theorem op_addD {X : Cx} (hX : In G S X) : OpR X (binaryOp .Add) (rAddD G.K) := by
  have h := ((op_add (X := X)).or op_add_str).or op_catA |>.or op_cat
  rw [hX.K] at h
  exact h
theorem opd_add {K : PySem.W.Frag} : OpD K (rAddD K) dAdd := fun F H x y d e z l hx hy h Q q => by
  unfold dAdd at h
  split at h
  · cases h
    rw [re_int] at hx hy
    exact .inl (.inl (.inl ⟨_, _, hx, hy, q _ F H (.refl l) (re_int.mpr rfl)⟩))
  · split at h
    · cases h
      rename_i hl
      rw [re_str] at hx hy
      exact .inl (.inl (.inr ⟨_, _, hx, hy, big_le hl, q _ F H (.refl l) (re_str.mpr rfl)⟩))
    · cases h
  · split at h
    · cases h
      rename_i hl
      have hx0 := hx
      have hy0 := hy
      rw [re_tuple] at hx hy
      obtain ⟨p, xs, rfl, hp, rx, _⟩ := hx
      obtain ⟨r, ys, rfl, hr, ry, _⟩ := hy
      refine .inl (.inr ⟨p, r, xs, ys, rfl, rfl, SqT.of (l.tup hp), SqT.of (l.tup hr), sz2 rx ry hl, fun e => ?_, fun e1 e2 => ?_, fun e1 e2 n hn => ?_⟩)
      · subst e
        rw [re_all_nil rx] at q
        exact q _ F H (.refl l) hy0
      · subst e2
        rw [re_all_nil ry, List.append_nil] at q
        exact q _ F H (.refl l) hx0
      · obtain ⟨g, rr⟩ := Grow.tup (K := K) l hn (rx.app ry) (by rw [List.length_append]; exact hl)
        exact q _ _ _ g rr
    · cases h
  · split at h
    · cases h
      rename_i hl
      rw [re_list] at hx hy
      obtain ⟨p, xs, rfl, hp, rx, _⟩ := hx
      obtain ⟨r, ys, rfl, hr, ry, _⟩ := hy
      refine .inr ⟨p, r, xs, ys, rfl, rfl, l.lst hp, l.lst hr, sz2 rx ry hl, fun n hn => ?_⟩
      obtain ⟨g, rr⟩ := Grow.lst (K := K) l hn (rx.app ry) (by rw [List.length_append]; exact hl)
      exact q _ _ _ g rr
    · cases h
  · cases h
theorem de_add (ha : DE G S w a fa) (hb : DE G S w b fb) : DE G S w (.BinOp a .Add b pos) (x2 dAdd fa fb) := de_op (fun X hX => op_addD hX) opd_add ha hb
theorem opd_sub {K : PySem.W.Frag} : OpD K (rI0 fun i j => .int (i - j)) dSub := fun F H x y d e z l hx hy h Q q => by
  unfold dSub at h
  split at h
  · cases h
    rw [re_int] at hx hy
    exact ⟨_, _, hx, hy, q _ F H (.refl l) (re_int.mpr rfl)⟩
  · cases h
theorem de_sub (ha : DE G S w a fa) (hb : DE G S w b fb) : DE G S w (.BinOp a .Sub b pos) (x2 dSub fa fb) := de_op (fun X hX => op_sub) opd_sub ha hb
theorem rep_all {K : PySem.W.Frag} {F : Hp} {xs : List V} {ds : List D} (h : ReAll K F xs ds) : ∀ n, ReAll K F (List.replicate n xs).flatten (List.replicate n ds).flatten
  | 0 => by simp [ReAll]
  | n + 1 => by
    rw [List.replicate_succ, List.replicate_succ, List.flatten_cons, List.flatten_cons]
    exact h.app (rep_all h n)
theorem rep_len {α : Type} (l : List α) : ∀ n, (List.replicate n l).flatten.length = n * l.length
  | 0 => by simp
  | n + 1 => by
    rw [List.replicate_succ, List.flatten_cons, List.length_append, rep_len l n, Nat.succ_mul, Nat.add_comm]
theorem opd_mul {K : PySem.W.Frag} : OpD K (fun x y H Q => (rI CMul fun i j => .int (i * j)) x y H Q ∨ rRepT K x y H Q) dMul := fun F H x y d e z l hx hy h Q q => by
  unfold dMul at h
  split at h
  · split at h
    · cases h
      rename_i hc
      rw [re_int] at hx hy
      exact .inl ⟨_, _, hx, hy, hc, q _ F H (.refl l) (re_int.mpr rfl)⟩
    · cases h
  · rename_i a k
    split at h
    · cases h
      rename_i hc
      obtain ⟨h1, h2, h3, h4⟩ := hc
      rw [re_int] at hy
      rw [re_tuple] at hx
      obtain ⟨p, xs, rfl, hp, rx, _⟩ := hx
      refine .inr ⟨p, _, xs, rfl, hy, SqT.of (l.tup hp), fun e => h1 ?_, h2, h3, by rw [rx.len]; exact h4, fun n hn => ?_⟩
      · subst e; exact re_all_nil rx
      · obtain ⟨g, rr⟩ := Grow.tup (K := K) l hn (rep_all rx k.toNat) (by
          rw [rep_len]
          refine Nat.le_trans (Nat.mul_le_mul (show k.toNat ≤ 1000 by omega) h4) (by decide))
        exact q _ _ _ g rr
    · cases h
  · cases h
theorem de_mul (ha : DE G S w a fa) (hb : DE G S w b fb) : DE G S w (.BinOp a .Mult b pos) (x2 dMul fa fb) :=
  de_op (fun X hX => by have h := (op_mul (X := X)).or op_repT; rw [hX.K] at h; exact h) opd_mul ha hb
theorem opd_div {K : PySem.W.Frag} : OpD K (rI CDiv fun i j => .int (i / j)) dDiv := fun F H x y d e z l hx hy h Q q => by
  unfold dDiv at h
  split at h
  · split at h
    · cases h
      rename_i hc
      rw [re_int] at hx hy
      exact ⟨_, _, hx, hy, hc, q _ F H (.refl l) (re_int.mpr rfl)⟩
    · cases h
  · cases h
theorem de_div (ha : DE G S w a fa) (hb : DE G S w b fb) : DE G S w (.BinOp a .FloorDiv b pos) (x2 dDiv fa fb) := de_op (fun X hX => op_fdiv) opd_div ha hb
theorem opd_mod {K : PySem.W.Frag} : OpD K (rI (fun _ j => 0 < j) fun i j => .int (i % j)) dMod := fun F H x y d e z l hx hy h Q q => by
  unfold dMod at h
  split at h
  · split at h
    · cases h
      rename_i hc
      rw [re_int] at hx hy
      exact ⟨_, _, hx, hy, hc, q _ F H (.refl l) (re_int.mpr rfl)⟩
    · cases h
  · cases h
theorem de_mod (ha : DE G S w a fa) (hb : DE G S w b fb) : DE G S w (.BinOp a .Mod b pos) (x2 dMod fa fb) := de_op (fun X hX => op_mod) opd_mod ha hb

/-! ### comparisons -/
theorem opd_cmp {K : PySem.W.Frag} {p : Int → Int → Bool} {g : D → D → Option D} (hg : ∀ d e z, g d e = some z → ∃ i j, d = .int i ∧ e = .int j ∧ z = .bool (p i j)) : OpD K (rI0 fun i j => .bl (p i j)) g := fun F H x y d e z l hx hy h Q q => by
  obtain ⟨i, j, rfl, rfl, rfl⟩ := hg d e z h
  rw [re_int] at hx hy
  exact ⟨_, _, hx, hy, q _ F H (.refl l) (re_bool.mpr rfl)⟩
theorem opd_lt {K : PySem.W.Frag} : OpD K (rI0 fun i j => .bl (decide (i < j))) dLt := opd_cmp (p := fun i j => decide (i < j)) fun d e z h => by unfold dLt at h; split at h <;> cases h; exact ⟨_, _, rfl, rfl, rfl⟩
theorem opd_le {K : PySem.W.Frag} : OpD K (rI0 fun i j => .bl (decide (i ≤ j))) dLe := opd_cmp (p := fun i j => decide (i ≤ j)) fun d e z h => by unfold dLe at h; split at h <;> cases h; exact ⟨_, _, rfl, rfl, rfl⟩
theorem opd_gt {K : PySem.W.Frag} : OpD K (rI0 fun i j => .bl (decide (j < i))) dGt := opd_cmp (p := fun i j => decide (j < i)) fun d e z h => by unfold dGt at h; split at h <;> cases h; exact ⟨_, _, rfl, rfl, rfl⟩
theorem opd_ge {K : PySem.W.Frag} : OpD K (rI0 fun i j => .bl (decide (j ≤ i))) dGe := opd_cmp (p := fun i j => decide (j ≤ i)) fun d e z h => by unfold dGe at h; split at h <;> cases h; exact ⟨_, _, rfl, rfl, rfl⟩
theorem opd_eq {K : PySem.W.Frag} : OpD K (rEqD K) dEq := fun F H x y d e z l hx hy h Q q => by
  unfold dEq at h
  split at h
  · cases h
    rename_i hc
    rw [Bool.and_eq_true] at hc
    exact ⟨d, e, Re.dp l d x (SeqAt.canLay_of_shaped hc.1) hx, Re.dp l e y (SeqAt.canLay_of_shaped hc.2) hy, hc.1, hc.2, q _ F H (.refl l) (re_bool.mpr rfl)⟩
  · cases h
theorem opd_ne {K : PySem.W.Frag} : OpD K (rNeD K) dNe := fun F H x y d e z l hx hy h Q q => by
  unfold dNe at h
  split at h
  · cases h
    rename_i hc
    rw [Bool.and_eq_true] at hc
    exact ⟨d, e, Re.dp l d x (SeqAt.canLay_of_shaped hc.1) hx, Re.dp l e y (SeqAt.canLay_of_shaped hc.2) hy, hc.1, hc.2, q _ F H (.refl l) (re_bool.mpr rfl)⟩
  · cases h
theorem or_lt {X : Cx} (hX : In G S X) : OpR X (compareOp .Lt) (rI0 fun i j => .bl (decide (i < j))) := op_lt
theorem or_le {X : Cx} (hX : In G S X) : OpR X (compareOp .LtE) (rI0 fun i j => .bl (decide (i ≤ j))) := op_le
theorem or_gt {X : Cx} (hX : In G S X) : OpR X (compareOp .Gt) (rI0 fun i j => .bl (decide (j < i))) := op_gt
theorem or_ge {X : Cx} (hX : In G S X) : OpR X (compareOp .GtE) (rI0 fun i j => .bl (decide (j ≤ i))) := op_ge
theorem or_eq {X : Cx} (hX : In G S X) (hc : S.cm = true) : OpR X (compareOp .Eq) (rEqD G.K) := by rw [← hX.K]; exact op_eqD (hX.room hc).units
theorem or_ne {X : Cx} (hX : In G S X) (hc : S.cm = true) : OpR X (compareOp .NotEq) (rNeD G.K) := by rw [← hX.K]; exact op_neD (hX.room hc).units
/-! in -/
def rInT (K : PySem.W.Frag) : R2 := fun x y H Q => ∃ d ds, Dp K H x d ∧ Dp K H y (.tuple ds) ∧ SeqAt.shaped d = true ∧ SeqAt.shaped (.tuple ds) = true ∧ Q (.bl (ds.any fun z => PyData.eqv z d)) H
def rNotInT (K : PySem.W.Frag) : R2 := fun x y H Q => ∃ d ds, Dp K H x d ∧ Dp K H y (.tuple ds) ∧ SeqAt.shaped d = true ∧ SeqAt.shaped (.tuple ds) = true ∧ Q (.bl (!ds.any fun z => PyData.eqv z d)) H
theorem room65 {k : Nat} {A : Around} (r : Room k A) : A.units + 65 < cLine := by have := r.un; omega
theorem op_inT {X : Cx} (hu : X.A.units + 65 < cLine) : OpR X (compareOp .In) (rInT X.K) := by
  intro pins s σ H x y v u Q I rx ry h
  obtain ⟨d, ds, hd, he, sd, se, q⟩ := h
  obtain ⟨as, r1⟩ := Dp.reads I d x v hd rx
  obtain ⟨bs, r2⟩ := Dp.reads I (.tuple ds) y u he ry
  exact SeqAt.in_tuple_reads r2 r1 (SeqAt.canLay_of_shaped se) (SeqAt.canLay_of_shaped sd) (room_in_shaped sd hu) ⟨.bl _, H, I, rfl, q⟩
theorem op_notInT {X : Cx} (hu : X.A.units + 65 < cLine) : OpR X (compareOp .NotIn) (rNotInT X.K) := by
  intro pins s σ H x y v u Q I rx ry h
  obtain ⟨d, ds, hd, he, sd, se, q⟩ := h
  obtain ⟨as, r1⟩ := Dp.reads I d x v hd rx
  obtain ⟨bs, r2⟩ := Dp.reads I (.tuple ds) y u he ry
  exact SeqAt.notIn_tuple_reads r2 r1 (SeqAt.canLay_of_shaped se) (SeqAt.canLay_of_shaped sd) (room_in_shaped sd hu) ⟨.bl _, H, I, rfl, q⟩
def rInStr : R2 := fun x y H Q => ∃ i j, x = .str i ∧ y = .str j ∧ Q (.bl (!(Builtin.Str.occurrences j i 0 j.length 1).isEmpty)) H
def rNotInStr : R2 := fun x y H Q => ∃ i j, x = .str i ∧ y = .str j ∧ Q (.bl (!(!(Builtin.Str.occurrences j i 0 j.length 1).isEmpty))) H
theorem or_in {X : Cx} (hX : In G S X) (hc : S.cm = true) : OpR X (compareOp .In) (fun x y H Q => (rInD G.K x y H Q ∨ rInT G.K x y H Q) ∨ rInStr x y H Q) := by
  rw [← hX.K]; exact ((op_inD (room65 (hX.room hc))).or (op_inT (room65 (hX.room hc)))).or op_in_str
theorem or_notIn {X : Cx} (hX : In G S X) (hc : S.cm = true) : OpR X (compareOp .NotIn) (fun x y H Q => (rNotInD G.K x y H Q ∨ rNotInT G.K x y H Q) ∨ rNotInStr x y H Q) := by
  rw [← hX.K]; exact ((op_notInD (room65 (hX.room hc))).or (op_notInT (room65 (hX.room hc)))).or op_notin_str
theorem opd_in {K : PySem.W.Frag} : OpD K (fun x y H Q => (rInD K x y H Q ∨ rInT K x y H Q) ∨ rInStr x y H Q) dIn := fun F H x y d e z l hx hy h Q q => by
  unfold dIn at h
  split at h
  · split at h
    · cases h
      rename_i hc
      rw [Bool.and_eq_true] at hc
      exact .inl (.inl ⟨d, _, Re.dp l d x (SeqAt.canLay_of_shaped hc.1) hx, Re.dp l _ y (SeqAt.canLay_of_shaped hc.2) hy, hc.1, hc.2, q _ F H (.refl l) (re_bool.mpr rfl)⟩)
    · cases h
  · split at h
    · cases h
      rename_i hc
      rw [Bool.and_eq_true] at hc
      exact .inl (.inr ⟨d, _, Re.dp l d x (SeqAt.canLay_of_shaped hc.1) hx, Re.dp l _ y (SeqAt.canLay_of_shaped hc.2) hy, hc.1, hc.2, q _ F H (.refl l) (re_bool.mpr rfl)⟩)
    · cases h
  · cases h
    rw [re_str] at hx hy
    exact .inr ⟨_, _, hx, hy, q _ F H (.refl l) (re_bool.mpr rfl)⟩
  · cases h
theorem opd_notIn {K : PySem.W.Frag} : OpD K (fun x y H Q => (rNotInD K x y H Q ∨ rNotInT K x y H Q) ∨ rNotInStr x y H Q) dNotIn := fun F H x y d e z l hx hy h Q q => by
  unfold dNotIn at h
  split at h
  · split at h
    · cases h
      rename_i hc
      rw [Bool.and_eq_true] at hc
      exact .inl (.inl ⟨d, _, Re.dp l d x (SeqAt.canLay_of_shaped hc.1) hx, Re.dp l _ y (SeqAt.canLay_of_shaped hc.2) hy, hc.1, hc.2, q _ F H (.refl l) (re_bool.mpr rfl)⟩)
    · cases h
  · split at h
    · cases h
      rename_i hc
      rw [Bool.and_eq_true] at hc
      exact .inl (.inr ⟨d, _, Re.dp l d x (SeqAt.canLay_of_shaped hc.1) hx, Re.dp l _ y (SeqAt.canLay_of_shaped hc.2) hy, hc.1, hc.2, q _ F H (.refl l) (re_bool.mpr rfl)⟩)
    · cases h
  · cases h
    rw [re_str] at hx hy
    exact .inr ⟨_, _, hx, hy, q _ F H (.refl l) (re_bool.mpr rfl)⟩
  · cases h
/-- x op1 y op2 z -/
theorem de_chain {op op' : CmpOp} {r r' : R2} {g g' : D → D → Option D} (ho : ∀ X, In G S X → OpR X (compareOp op) r) (hr : OpD G.K r g) (ho' : ∀ X, In G S X → OpR X (compareOp op') r') (hr' : OpD G.K r' g')
    (hb' : ∀ d e z, g d e = some z → ∃ k, z = .bool k) (ha : DE G S w a fa) (hb : DE G S w b fb) (hc : DE G S w c fc) (hm : lastMarks [op, op'] [b, c] = false := by with_unfolding_all rfl) : DE G S w (.Compare a [op, op'] [b, c] pos) (xChain g g' fa fb fc) := by
  obtain ⟨ta, pa, va⟩ := ha
  obtain ⟨tb, pb, vb⟩ := hb
  obtain ⟨tc, pc, vc⟩ := hc
  refine ⟨tChain r r' ta tb tc, fun X hX => pe_chain (ho X hX) (ho' X hX) (pa X hX) (pb X hX) (pc X hX) hm, fun B F0 ρ z h F σ H R Q q => ?_⟩
  unfold xChain at h
  cases h1 : fa ρ with
  | none => rw [h1] at h; cases h
  | some d =>
    rw [h1] at h
    cases h2 : fb ρ with
    | none => rw [h2] at h; cases h
    | some d2 =>
      rw [h2] at h
      simp only [Option.bind_some] at h
      cases h3 : g d d2 with
      | none => rw [h3] at h; cases h
      | some zz =>
        rw [h3] at h
        obtain ⟨k, rfl⟩ := hb' _ _ _ h3
        refine va B F0 ρ d h1 F σ H R _ fun x F2 H2 g2 r2 => ?_
        refine vb B F0 ρ d2 h2 F2 σ H2 (R.grow g2) _ fun y F3 H3 g3 r3 => ?_
        have R3 := (R.grow g2).grow g3
        refine hr F3 H3 x y d d2 _ R3.l (r2.m g3.f) r3 h3 _ fun v F4 H4 g4 r4 => ⟨k, re_bool.mp r4, ?_⟩
        cases k with
        | false =>
          simp only [Option.bind_some, xIf] at h
          cases h
          exact iteF (q _ F4 H4 ((g2.trans g3).trans g4) (re_bool.mpr rfl))
        | true =>
          simp only [Option.bind_some, xIf] at h
          refine iteT ?_
          cases h5 : fc ρ with
          | none => rw [h5] at h; cases h
          | some d5 =>
            rw [h5] at h
            refine vc B F0 ρ d5 h5 F4 σ H4 (R3.grow g4) _ fun y5 F5 H5 g5 r5 => ?_
            exact hr' F5 H5 y y5 d2 d5 z ((R3.grow g4).grow g5).l (r3.m (g4.trans g5).f) r5 h Q fun v F6 H6 g6 r6 => q v F6 H6 ((((g2.trans g3).trans g4).trans g5).trans g6) r6
theorem dLe_bool : ∀ d e z, dLe d e = some z → ∃ k, z = .bool k := fun d e z h => by unfold dLe at h; split at h <;> cases h; exact ⟨_, rfl⟩
theorem dLt_bool : ∀ d e z, dLt d e = some z → ∃ k, z = .bool k := fun d e z h => by unfold dLt at h; split at h <;> cases h; exact ⟨_, rfl⟩
theorem de_lele (ha : DE G S w a fa) (hb : DE G S w b fb) (hc : DE G S w c fc) (hm : lastMarks [CmpOp.LtE, CmpOp.LtE] [b, c] = false := by with_unfolding_all rfl) : DE G S w (.Compare a [.LtE, .LtE] [b, c] pos) (xChain dLe dLe fa fb fc) :=
  de_chain (fun _ h => or_le h) opd_le (fun _ h => or_le h) opd_le dLe_bool ha hb hc hm
theorem dt_of_pt {te : TE} (p : ∀ X, In G S X → PT X e (tTest te)) (v : EvD G.K w te f) : DT G S w e f := ⟨_, p, tvd_test v⟩
theorem dt_ltlt (ha : DE G S w a fa) (hb : DE G S w b fb) (hc : DE G S w c fc) (hm : lastMarks [CmpOp.Lt, CmpOp.Lt] [b, c] = false := by with_unfolding_all rfl) (hm2 : lastMarks [CmpOp.Lt, CmpOp.Lt] [b, c] = false := by with_unfolding_all rfl) : DT G S w (.Compare a [.Lt, .Lt] [b, c] pos) (xChain dLt dLt fa fb fc) := by
  have h := de_chain (pos := pos) (fun _ h => or_lt h) opd_lt (fun _ h => or_lt h) opd_lt dLt_bool ha hb hc hm
  obtain ⟨ta, pa, va⟩ := ha
  obtain ⟨tb, pb, vb⟩ := hb
  obtain ⟨tc, pc, vc⟩ := hc
  have h2 := de_chain (pos := pos) (fun _ h => or_lt h) opd_lt (fun _ h => or_lt h) opd_lt dLt_bool ⟨ta, pa, va⟩ ⟨tb, pb, vb⟩ ⟨tc, pc, vc⟩ hm
  refine ⟨tTest (tChain (rI0 fun i j => .bl (decide (i < j))) (rI0 fun i j => .bl (decide (i < j))) ta tb tc), fun X hX => pt_chain (or_lt hX) (or_lt hX) (pa X hX) (pb X hX) (pc X hX) hm, ?_⟩
  intro B F0 ρ k h F σ H R Q q
  unfold xChain at h
  cases h1 : fa ρ with
  | none => rw [h1] at h; cases h
  | some d =>
    rw [h1] at h
    cases h2 : fb ρ with
    | none => rw [h2] at h; cases h
    | some d2 =>
      rw [h2] at h
      simp only [Option.bind_some] at h
      cases h3 : dLt d d2 with
      | none => rw [h3] at h; cases h
      | some zz =>
        rw [h3] at h
        obtain ⟨k', rfl⟩ := dLt_bool _ _ _ h3
        refine va B F0 ρ d h1 F σ H R _ fun x F2 H2 g2 r2 => ?_
        refine vb B F0 ρ d2 h2 F2 σ H2 (R.grow g2) _ fun y F3 H3 g3 r3 => ?_
        have R3 := (R.grow g2).grow g3
        refine opd_lt (K := G.K) F3 H3 x y d d2 _ R3.l (r2.m g3.f) r3 h3 _ fun v F4 H4 g4 r4 => ⟨k', re_bool.mp r4, ?_⟩
        cases k' with
        | false =>
          simp only [Option.bind_some, xIf] at h
          cases h
          exact iteF ⟨false, rfl, q F4 H4 ((g2.trans g3).trans g4)⟩
        | true =>
          simp only [Option.bind_some, xIf] at h
          refine iteT ?_
          cases h5 : fc ρ with
          | none => rw [h5] at h; cases h
          | some d5 =>
            rw [h5] at h
            refine vc B F0 ρ d5 h5 F4 σ H4 (R3.grow g4) _ fun y5 F5 H5 g5 r5 => ?_
            exact opd_lt (K := G.K) F5 H5 y y5 d2 d5 _ ((R3.grow g4).grow g5).l (r3.m (g4.trans g5).f) r5 h _ fun v F6 H6 g6 r6 => ⟨k, re_bool.mp r6, q F6 H6 ((((g2.trans g3).trans g4).trans g5).trans g6)⟩
section
theorem de_eq (ha : DE G S w a fa) (hb : DE G S w b fb) (hm : behindInMarks CmpOp.Eq b = false := by rfl) (hc : S.cm = true := by rfl) : DE G S w (.Compare a [.Eq] [b] pos) (x2 dEq fa fb) := de_cmp (fun _ h => or_eq h hc) opd_eq ha hb hm
theorem dt_eq (ha : DE G S w a fa) (hb : DE G S w b fb) (hm : behindInMarks CmpOp.Eq b = false := by rfl) (hc : S.cm = true := by rfl) : DT G S w (.Compare a [.Eq] [b] pos) (x2 dEq fa fb) := dt_cmp (fun _ h => or_eq h hc) opd_eq ha hb hm
theorem de_ne (ha : DE G S w a fa) (hb : DE G S w b fb) (hm : behindInMarks CmpOp.NotEq b = false := by rfl) (hc : S.cm = true := by rfl) : DE G S w (.Compare a [.NotEq] [b] pos) (x2 dNe fa fb) := de_cmp (fun _ h => or_ne h hc) opd_ne ha hb hm
theorem dt_ne (ha : DE G S w a fa) (hb : DE G S w b fb) (hm : behindInMarks CmpOp.NotEq b = false := by rfl) (hc : S.cm = true := by rfl) : DT G S w (.Compare a [.NotEq] [b] pos) (x2 dNe fa fb) := dt_cmp (fun _ h => or_ne h hc) opd_ne ha hb hm
theorem de_in (ha : DE G S w a fa) (hb : DE G S w b fb) (hm : behindInMarks CmpOp.In b = false := by rfl) (hc : S.cm = true := by rfl) : DE G S w (.Compare a [.In] [b] pos) (x2 dIn fa fb) := de_cmp (fun _ h => or_in h hc) opd_in ha hb hm
theorem dt_in (ha : DE G S w a fa) (hb : DE G S w b fb) (hm : behindInMarks CmpOp.In b = false := by rfl) (hc : S.cm = true := by rfl) : DT G S w (.Compare a [.In] [b] pos) (x2 dIn fa fb) := dt_cmp (fun _ h => or_in h hc) opd_in ha hb hm
theorem de_notIn (ha : DE G S w a fa) (hb : DE G S w b fb) (hm : behindInMarks CmpOp.NotIn b = false := by rfl) (hc : S.cm = true := by rfl) : DE G S w (.Compare a [.NotIn] [b] pos) (x2 dNotIn fa fb) := de_cmp (fun _ h => or_notIn h hc) opd_notIn ha hb hm
theorem dt_notIn (ha : DE G S w a fa) (hb : DE G S w b fb) (hm : behindInMarks CmpOp.NotIn b = false := by rfl) (hc : S.cm = true := by rfl) : DT G S w (.Compare a [.NotIn] [b] pos) (x2 dNotIn fa fb) := dt_cmp (fun _ h => or_notIn h hc) opd_notIn ha hb hm
theorem de_lt (ha : DE G S w a fa) (hb : DE G S w b fb) (hm : behindInMarks CmpOp.Lt b = false := by rfl) : DE G S w (.Compare a [.Lt] [b] pos) (x2 dLt fa fb) := de_cmp (fun _ h => or_lt h) opd_lt ha hb hm
theorem dt_lt (ha : DE G S w a fa) (hb : DE G S w b fb) (hm : behindInMarks CmpOp.Lt b = false := by rfl) : DT G S w (.Compare a [.Lt] [b] pos) (x2 dLt fa fb) := dt_cmp (fun _ h => or_lt h) opd_lt ha hb hm
theorem de_le (ha : DE G S w a fa) (hb : DE G S w b fb) (hm : behindInMarks CmpOp.LtE b = false := by rfl) : DE G S w (.Compare a [.LtE] [b] pos) (x2 dLe fa fb) := de_cmp (fun _ h => or_le h) opd_le ha hb hm
theorem dt_le (ha : DE G S w a fa) (hb : DE G S w b fb) (hm : behindInMarks CmpOp.LtE b = false := by rfl) : DT G S w (.Compare a [.LtE] [b] pos) (x2 dLe fa fb) := dt_cmp (fun _ h => or_le h) opd_le ha hb hm
theorem de_gt (ha : DE G S w a fa) (hb : DE G S w b fb) (hm : behindInMarks CmpOp.Gt b = false := by rfl) : DE G S w (.Compare a [.Gt] [b] pos) (x2 dGt fa fb) := de_cmp (fun _ h => or_gt h) opd_gt ha hb hm
theorem dt_gt (ha : DE G S w a fa) (hb : DE G S w b fb) (hm : behindInMarks CmpOp.Gt b = false := by rfl) : DT G S w (.Compare a [.Gt] [b] pos) (x2 dGt fa fb) := dt_cmp (fun _ h => or_gt h) opd_gt ha hb hm
theorem de_ge (ha : DE G S w a fa) (hb : DE G S w b fb) (hm : behindInMarks CmpOp.GtE b = false := by rfl) : DE G S w (.Compare a [.GtE] [b] pos) (x2 dGe fa fb) := de_cmp (fun _ h => or_ge h) opd_ge ha hb hm
theorem dt_ge (ha : DE G S w a fa) (hb : DE G S w b fb) (hm : behindInMarks CmpOp.GtE b = false := by rfl) : DT G S w (.Compare a [.GtE] [b] pos) (x2 dGe fa fb) := dt_cmp (fun _ h => or_ge h) opd_ge ha hb hm
end
/-! is None -/
theorem isN_iff {K : PySem.W.Frag} {F : Hp} {v : V} {d : D} (h : Re K F v d) : decide (v = .non) = isN d := by
  cases d with
  | none => rw [re_none] at h; subst h; rfl
  | bool b => rw [re_bool] at h; subst h; rfl
  | int i => rw [re_int] at h; subst h; rfl
  | str i => rw [re_str] at h; subst h; rfl
  | list ds => rw [re_list] at h; obtain ⟨_, _, rfl, _⟩ := h; rfl
  | tuple ds => rw [re_tuple] at h; obtain ⟨_, _, rfl, _⟩ := h; rfl
  | dict es =>
    simp only [Re] at h
    rcases h with ⟨_, _, rfl, _⟩ | ⟨_, _, rfl, _⟩ | ⟨_, _, rfl, _⟩ | ⟨_, _, _, _, _, _, _, rfl, _⟩ <;> rfl
theorem evd_isN {K : PySem.W.Frag} {ta : TE} (va : EvD K w ta fa) : EvD K w (tIsN ta) (x1 dIsN fa) := fun B F0 ρ z h F σ H R Q q => by
  unfold x1 at h
  cases h1 : fa ρ with
  | none => rw [h1] at h; cases h
  | some d =>
    rw [h1] at h
    cases h
    refine va B F0 ρ d h1 F σ H R _ fun x F2 H2 g2 r2 => ?_
    exact q _ F2 H2 g2 (by rw [isN_iff r2, re_bool])
theorem evd_notN {K : PySem.W.Frag} {ta : TE} (va : EvD K w ta fa) : EvD K w (tNotN ta) (x1 dNotN fa) := fun B F0 ρ z h F σ H R Q q => by
  unfold x1 at h
  cases h1 : fa ρ with
  | none => rw [h1] at h; cases h
  | some d =>
    rw [h1] at h
    cases h
    refine va B F0 ρ d h1 F σ H R _ fun x F2 H2 g2 r2 => ?_
    exact q _ F2 H2 g2 (by rw [isN_iff r2, re_bool])
theorem de_isN {j pos'} (ha : DE G S w a fa) : DE G S w (.Compare a [.Is] [.Constant .none j pos'] pos) (x1 dIsN fa) := by
  obtain ⟨ta, pa, va⟩ := ha
  exact ⟨_, fun X hX => pe_cmp (pc_isN (pa X hX)), evd_isN va⟩
theorem dt_isN {j pos'} (ha : DE G S w a fa) : DT G S w (.Compare a [.Is] [.Constant .none j pos'] pos) (x1 dIsN fa) := by
  obtain ⟨ta, pa, va⟩ := ha
  exact ⟨_, fun X hX => pt_cmp (pc_isN (pa X hX)), tvd_B (evd_isN va)⟩
theorem de_notN {j pos'} (ha : DE G S w a fa) : DE G S w (.Compare a [.IsNot] [.Constant .none j pos'] pos) (x1 dNotN fa) := by
  obtain ⟨ta, pa, va⟩ := ha
  exact ⟨_, fun X hX => pe_cmp (pc_notN (pa X hX)), evd_notN va⟩
theorem dt_notN {j pos'} (ha : DE G S w a fa) : DT G S w (.Compare a [.IsNot] [.Constant .none j pos'] pos) (x1 dNotN fa) := by
  obtain ⟨ta, pa, va⟩ := ha
  exact ⟨_, fun X hX => pt_cmp (pc_notN (pa X hX)), tvd_B (evd_notN va)⟩

/-! ### and, or, not -/
variable {rest : List Expr}
theorem de_one {op} (h : DE G S w a fa) : DE G S w (.BoolOp op [a] pos) fa := by
  obtain ⟨ta, pa, va⟩ := h
  exact ⟨ta, fun X hX => pe_one (pa X hX), va⟩
theorem de_and (ha : DE G S w a fa) (hb : DE G S w (.BoolOp .And (b :: rest) pos) fb) : DE G S w (.BoolOp .And (a :: b :: rest) pos) (xAnd fa fb) := by
  obtain ⟨ta, pa, va⟩ := ha
  obtain ⟨tb, pb, vb⟩ := hb
  refine ⟨_, fun X hX => pe_and (pa X hX) (pb X hX), fun B F0 ρ z h F σ H R Q q => ?_⟩
  unfold xAnd at h
  cases h1 : fa ρ with
  | none => rw [h1] at h; cases h
  | some d =>
    rw [h1] at h
    simp only [Option.bind_some] at h
    cases d <;> simp only [xIf] at h <;> try cases h
    rename_i k
    refine va B F0 ρ _ h1 F σ H R _ fun x F2 H2 g2 r2 => ⟨k, re_bool.mp r2, ?_⟩
    cases k with
    | true => exact iteT (vb B F0 ρ z h F2 σ H2 (R.grow g2) Q fun v F3 H3 g3 r3 => q v F3 H3 (g2.trans g3) r3)
    | false =>
      cases h
      exact iteF (q _ F2 H2 g2 (re_bool.mpr rfl))
theorem de_or (ha : DE G S w a fa) (hb : DE G S w (.BoolOp .Or (b :: rest) pos) fb) : DE G S w (.BoolOp .Or (a :: b :: rest) pos) (xOr fa fb) := by
  obtain ⟨ta, pa, va⟩ := ha
  obtain ⟨tb, pb, vb⟩ := hb
  refine ⟨_, fun X hX => pe_or (pa X hX) (pb X hX), fun B F0 ρ z h F σ H R Q q => ?_⟩
  unfold xOr at h
  cases h1 : fa ρ with
  | none => rw [h1] at h; cases h
  | some d =>
    rw [h1] at h
    simp only [Option.bind_some] at h
    cases d <;> simp only [xIf] at h <;> try cases h
    rename_i k
    refine va B F0 ρ _ h1 F σ H R _ fun x F2 H2 g2 r2 => ⟨k, re_bool.mp r2, ?_⟩
    cases k with
    | false => exact iteF (vb B F0 ρ z h F2 σ H2 (R.grow g2) Q fun v F3 H3 g3 r3 => q v F3 H3 (g2.trans g3) r3)
    | true =>
      cases h
      exact iteT (q _ F2 H2 g2 (re_bool.mpr rfl))
theorem dNot_some {d : D} {b : Bool} (h : dNot d = some (.bool b)) : d = .bool (!b) := by
  cases d <;> simp only [dNot] at h <;> cases h
  rw [Bool.not_not]
theorem de_not (ha : DE G S w a fa) : DE G S w (.UnaryOp .Not a pos) (xNot fa) := by
  obtain ⟨ta, pa, va⟩ := ha
  refine ⟨_, fun X hX => pe_not (pa X hX), fun B F0 ρ z h F σ H R Q q => ?_⟩
  unfold xNot x1 at h
  cases h1 : fa ρ with
  | none => rw [h1] at h; cases h
  | some d =>
    rw [h1] at h
    simp only [Option.bind_some] at h
    cases d <;> simp only [dNot] at h <;> try cases h
    refine va B F0 ρ _ h1 F σ H R _ fun x F2 H2 g2 r2 => ⟨_, re_bool.mp r2, q _ F2 H2 g2 (re_bool.mpr rfl)⟩
/-- tests -/
def DW (G : Wd) (S : Sta) (w : List Nat) (e : Expr) (f : XE) : Prop := ∃ tt, (∀ X, In G S X → PW X e tt) ∧ TvD G.K w tt f
theorem DW.dt (h : DW G S w e f) : DT G S w e f := by
  obtain ⟨t, p, v⟩ := h
  exact ⟨t, fun X hX => (p X hX).pt, v⟩
theorem dw_and1 (h : DT G S w a fa) : DW G S w (.BoolOp .And [a] pos) fa := by
  obtain ⟨t, p, v⟩ := h
  exact ⟨t, fun X hX => pw_and1 (p X hX), v⟩
theorem dw_or1 (h : DT G S w a fa) : DW G S w (.BoolOp .Or [a] pos) fa := by
  obtain ⟨t, p, v⟩ := h
  exact ⟨t, fun X hX => pw_or1 (p X hX), v⟩
theorem dw_and (ha : DT G S w a fa) (hb : DW G S w (.BoolOp .And (b :: rest) pos) fb) : DW G S w (.BoolOp .And (a :: b :: rest) pos) (xAnd fa fb) := by
  obtain ⟨ta, pa, va⟩ := ha
  obtain ⟨tb, pb, vb⟩ := hb
  refine ⟨_, fun X hX => pw_and (pa X hX) (pb X hX), fun B F0 ρ z h F σ H R Q q => ?_⟩
  unfold xAnd at h
  cases h1 : fa ρ with
  | none => rw [h1] at h; cases h
  | some d =>
    rw [h1] at h
    simp only [Option.bind_some] at h
    cases d <;> simp only [xIf] at h <;> try cases h
    rename_i k
    refine va B F0 ρ _ h1 F σ H R _ fun F2 H2 g2 => ?_
    cases k with
    | true => exact iteT (vb B F0 ρ z h F2 σ H2 (R.grow g2) Q fun F3 H3 g3 => q F3 H3 (g2.trans g3))
    | false =>
      cases h
      exact iteF (q F2 H2 g2)
theorem dw_or (ha : DT G S w a fa) (hb : DW G S w (.BoolOp .Or (b :: rest) pos) fb) : DW G S w (.BoolOp .Or (a :: b :: rest) pos) (xOr fa fb) := by
  obtain ⟨ta, pa, va⟩ := ha
  obtain ⟨tb, pb, vb⟩ := hb
  refine ⟨_, fun X hX => pw_or (pa X hX) (pb X hX), fun B F0 ρ z h F σ H R Q q => ?_⟩
  unfold xOr at h
  cases h1 : fa ρ with
  | none => rw [h1] at h; cases h
  | some d =>
    rw [h1] at h
    simp only [Option.bind_some] at h
    cases d <;> simp only [xIf] at h <;> try cases h
    rename_i k
    refine va B F0 ρ _ h1 F σ H R _ fun F2 H2 g2 => ?_
    cases k with
    | false => exact iteF (vb B F0 ρ z h F2 σ H2 (R.grow g2) Q fun F3 H3 g3 => q F3 H3 (g2.trans g3))
    | true =>
      cases h
      exact iteT (q F2 H2 g2)
theorem dt_not (ha : DT G S w a fa) : DT G S w (.UnaryOp .Not a pos) (xNot fa) := by
  obtain ⟨ta, pa, va⟩ := ha
  refine ⟨_, fun X hX => pt_not (pa X hX), fun B F0 ρ z h F σ H R Q q => ?_⟩
  unfold xNot x1 at h
  cases h1 : fa ρ with
  | none => rw [h1] at h; cases h
  | some d =>
    rw [h1] at h
    simp only [Option.bind_some] at h
    have e := dNot_some h
    subst e
    refine va B F0 ρ _ h1 F σ H R _ fun F2 H2 g2 => ?_
    rw [Bool.not_not]
    exact q F2 H2 g2
theorem dt_val (ha : DE G S w a fa) (he : ∀ (env : Env) whole, isTrue a env whole = (do let v ← whole; standAt a.pos; holding [v] (truthy v)) := by intro _ _; rfl) : DT G S w a fa := by
  obtain ⟨ta, pa, va⟩ := ha
  exact ⟨_, fun X hX => pt_val (pa X hX) (he _), tvd_B va⟩

/-! ### displays -/
theorem de_tup {x1} (h : DA G S w es fs) (hl : fs.length ≤ 1000 := by decide) : DE G S w (.Tuple es x1 pos) (xTup fs) := by
  obtain ⟨ta, pa, va⟩ := h
  refine ⟨tTup ta, fun X hX => pe_tup (pa X hX), fun B F0 ρ z h F σ H R Q q => ?_⟩
  unfold xTup at h
  cases h1 : xArgs fs ρ with
  | none => rw [h1] at h; cases h
  | some ds =>
    rw [h1] at h
    cases h
    have hz : ds.length ≤ big := by rw [xArgs_len h1]; exact Nat.le_trans hl (by decide)
    refine va B F0 ρ ds h1 F σ H R _ fun vs F2 H2 g2 r2 => ⟨by rw [r2.len]; exact big_le hz, fun p hp => ?_⟩
    obtain ⟨g, rr⟩ := Grow.tup (K := G.K) (R.grow g2).l hp r2 hz
    exact q _ _ _ (g2.trans g) rr
theorem de_lst (h : DA G S w es fs) (hl : fs.length ≤ 1000 := by decide) : DE G S w (.List es pos) (xLst fs) := by
  obtain ⟨ta, pa, va⟩ := h
  refine ⟨tLst ta, fun X hX => pe_lst (pa X hX), fun B F0 ρ z h F σ H R Q q => ?_⟩
  unfold xLst at h
  cases h1 : xArgs fs ρ with
  | none => rw [h1] at h; cases h
  | some ds =>
    rw [h1] at h
    cases h
    have hz : ds.length ≤ big := by rw [xArgs_len h1]; exact Nat.le_trans hl (by decide)
    refine va B F0 ρ ds h1 F σ H R _ fun vs F2 H2 g2 r2 => ⟨by rw [r2.len]; exact big_le hz, fun p hp => ?_⟩
    obtain ⟨g, rr⟩ := Grow.lst (K := G.K) (R.grow g2).l hp r2 hz
    exact q _ _ _ (g2.trans g) rr
end

/-! DL3: the data layer: subscripts, slices, calls. -/
section
variable {G : Wd} {S : Sta} {w : List Nat} {e a b c : Expr} {es : List Expr} {f fa fb fc : XE} {fs : List XE} {pos : Pos}
/-! ### subscripts -/
theorem atI_re {K : PySem.W.Frag} {F : Hp} {vs : List V} {ds : List D} {i : Int} {d : D} (r : ReAll K F vs ds) (h : atI ds i = some d) : ∃ v, atI vs i = some v ∧ Re K F v d := by
  unfold atI at h ⊢
  rw [r.len]
  cases e : ixN ds.length i with
  | none => rw [e] at h; cases h
  | some j =>
    rw [e] at h
    obtain ⟨v, h1, h2⟩ := r.get (i := j) (d := d) h
    exact ⟨v, h1, h2⟩
theorem scr_re {K : PySem.W.Frag} {F H : Hp} {x : V} {es : List (D × D)} {ds : List D} (l : Ld F H) (hx : Re K F x (.dict es)) (h : scrOf es = some ds) : ∃ (a : Addr) (ns : List Int), x = .ref a ∧ ds = ns.map .int ∧ SqL K H a (ns.map V.int) ∧ ns.length ≤ big := by
  simp only [Re] at hx
  rcases hx with ⟨a, kvs, rfl, h2, h3, _⟩ | ⟨a, ns, rfl, rfl, h3, h4⟩ | ⟨a, kvs, rfl, h2, h3, _⟩ | ⟨a, C, dx, v1, v2, v3, v4, rfl, h2, _, h3⟩
  · unfold scrOf at h
    split at h
    · cases h
      cases kvs with
      | nil => simp only [ReKv] at h3
      | cons kv r =>
        obtain ⟨k, v⟩ := kv
        simp only [ReKv] at h3
        cases h3.1.1
    · cases h
  · unfold scrOf at h
    cases h
    exact ⟨a, ns, rfl, rfl, l.sq h3, h4⟩
  · unfold scrOf at h
    split at h
    · cases h
      cases kvs with
      | nil => simp only [ReKi] at h3
      | cons kv r =>
        obtain ⟨k, v⟩ := kv
        simp only [ReKi] at h3
        obtain ⟨⟨hk, _⟩, _⟩ := h3
        cases k <;> cases hk
    · cases h
  · unfold scrOf at h
    split at h
    · cases h
      simp only [ReIs] at h3
      cases h3.1.1
    · cases h
theorem opd_ix {K : PySem.W.Frag} : OpD K (rIx K) dIx := fun F H x y d e z l hx hy h Q q => by
  unfold dIx at h
  split at h
  · rw [re_int] at hy
    rw [re_list] at hx
    obtain ⟨p, xs, rfl, hp, rx, _⟩ := hx
    obtain ⟨v, h1, h2⟩ := atI_re rx h
    exact .inl ⟨p, xs, _, v, rfl, hy, SqL.of (l.lst hp), h1, q v F H (.refl l) h2⟩
  · rw [re_int] at hy
    rw [re_tuple] at hx
    obtain ⟨p, xs, rfl, hp, rx, _⟩ := hx
    obtain ⟨v, h1, h2⟩ := atI_re rx h
    exact .inr (.inl ⟨p, xs, _, v, rfl, hy, SqT.of (l.tup hp), h1, q v F H (.refl l) h2⟩)
  · split at h
    · rename_i hl
      rw [re_int] at hy
      rw [re_str] at hx
      rename_i s i
      cases e : atI s.cps.toList i with
      | none => rw [e] at h; cases h
      | some c =>
        rw [e] at h
        cases h
        exact .inr (.inr ⟨_, _, c, hx, hy, big_le hl, e, q _ F H (.refl l) (re_str.mpr rfl)⟩)
    · cases h
  · rw [re_int] at hy
    rename_i es i
    cases e : scrOf es with
    | none => rw [e] at h; cases h
    | some ds =>
      rw [e] at h
      obtain ⟨p, ns, rfl, rfl, hs, _⟩ := scr_re l hx e
      obtain ⟨v, h1, h2⟩ := atI_re (K := K) (F := F) (re_ints_mk ns) h
      exact .inl ⟨p, _, _, v, rfl, hy, hs, h1, q v F H (.refl l) h2⟩
  · cases h
theorem de_ix (ha : DE G S w a fa) (hb : DE G S w b fb) (hs : PlainIx b := by exact fun _ _ => rfl) : DE G S w (.Subscript a b pos) (x2 dIx fa fb) := by
  obtain ⟨ta, pa, va⟩ := ha
  obtain ⟨tb, pb, vb⟩ := hb
  exact ⟨tOp (rIx G.K) ta tb, fun X hX => pe_ix (by rw [← hX.K]; exact ix_seq) (pa X hX) (pb X hX) hs, evd_op opd_ix va vb⟩
/-! slices -/
def OvD (K : PySem.W.Frag) (w : List Nat) (to : TO) (f : Option XE) : Prop := ∀ B F0 ρ o, xPart f ρ = some o → ∀ F σ H, Rel K B F0 w F ρ σ H → ∀ Q : Option Int → Hp → Prop, (∀ F2 H2, Grow F H F2 H2 → Q o H2) → to σ H Q
def DO (G : Wd) (S : Sta) (w : List Nat) (e : Option Expr) (f : Option XE) : Prop := ∃ to, (∀ X, In G S X → PO X e to) ∧ OvD G.K w to f
theorem do_none : DO G S w none none := ⟨tNoPart, fun X _ => po_none, fun B F0 ρ o h F σ H R Q q => by
  unfold xPart at h; cases h
  exact q F H (.refl R.l)⟩
theorem do_some (ha : DE G S w a fa) : DO G S w (some a) (some fa) := by
  obtain ⟨ta, pa, va⟩ := ha
  refine ⟨tPart ta, fun X hX => po_some (pa X hX), fun B F0 ρ o h F σ H R Q q => ?_⟩
  simp only [xPart] at h
  cases h1 : fa ρ with
  | none => rw [h1] at h; cases h
  | some d =>
    rw [h1] at h
    simp only [Option.bind_some] at h
    unfold dPart at h
    split at h
    · cases h
      exact va B F0 ρ _ h1 F σ H R _ fun v F2 H2 g r => ⟨_, re_int.mp r, q F2 H2 g⟩
    · cases h
def rSlD (K : PySem.W.Frag) : V → Option Int → Option Int → Hp → VK → Prop := fun x lo hi H Q => (rSlL K x lo hi H Q ∨ rSlA K x lo hi H Q) ∨ rSlS x lo hi H Q
theorem cut_re {K : PySem.W.Frag} {F : Hp} {vs : List V} {ds : List D} (r : ReAll K F vs ds) (lo hi : Option Int) : ReAll K F (cutV vs lo hi) (cutD ds lo hi) := by
  unfold cutV cutD
  rw [r.len]
  exact (r.drop _).take _
theorem cutD_len (ds : List D) (lo hi : Option Int) : (cutD ds lo hi).length ≤ ds.length := by
  unfold cutD
  rw [List.length_take, List.length_drop]
  omega
theorem sIx_full {n : Nat} {lo hi : Option Int} (h : HT.sIx n 0 lo = 0 ∧ HT.sIx n n hi = n) {ds : List D} (e : ds.length = n) : cutD ds lo hi = ds := by
  unfold cutD
  rw [e, h.1, h.2, List.drop_zero, Nat.sub_zero, ← e]
  exact List.take_length
theorem sl_ok {K : PySem.W.Frag} {F H : Hp} {x : V} {d z : D} {lo hi : Option Int} (l : Ld F H) (hx : Re K F x d) (h : dSl lo hi d = some z) (Q : VK) (q : ∀ v F2 H2, Grow F H F2 H2 → Re K F2 v z → Q v H2) : rSlD K x lo hi H Q := by
  unfold dSl at h
  split at h
  · cases h
    rw [re_list] at hx
    obtain ⟨p, xs, rfl, hp, rx, hl⟩ := hx
    refine .inl (.inl ⟨p, xs, rfl, SqL.of (l.lst hp), fun n hn => ?_⟩)
    obtain ⟨g, rr⟩ := Grow.lst (K := K) l hn (cut_re rx lo hi) (Nat.le_trans (cutD_len _ _ _) hl)
    exact q _ _ _ g rr
  · cases h
    have hx0 := hx
    rw [re_tuple] at hx
    obtain ⟨p, xs, rfl, hp, rx, hl⟩ := hx
    refine .inl (.inr ⟨p, xs, rfl, SqT.of (l.tup hp), fun hf => ?_, fun _ n hn => ?_⟩)
    · rw [sIx_full hf rx.len.symm] at q
      exact q _ F H (.refl l) hx0
    · obtain ⟨g, rr⟩ := Grow.tup (K := K) l hn (cut_re rx lo hi) (Nat.le_trans (cutD_len _ _ _) hl)
      exact q _ _ _ g rr
  · split at h
    · cases h
      rename_i hl
      rw [re_str] at hx
      exact .inr ⟨_, hx, big_le hl, q _ F H (.refl l) (re_str.mpr rfl)⟩
    · cases h
  · rename_i es
    cases e : scrOf es with
    | none => rw [e] at h; cases h
    | some ds =>
      rw [e] at h
      cases h
      obtain ⟨p, ns, rfl, rfl, hs, hl⟩ := scr_re l hx e
      refine .inl (.inl ⟨p, _, rfl, hs, fun n hn => ?_⟩)
      obtain ⟨g, rr⟩ := Grow.lst (K := K) l hn (cut_re (re_ints_mk (K := K) (F := F) ns) lo hi) (Nat.le_trans (cutD_len _ _ _) (by rw [List.length_map]; exact hl))
      exact q _ _ _ g rr
  · cases h
theorem de_slice {lo hi : Option Expr} {fl fh : Option XE} {p2 : Pos} (ha : DE G S w a fa) (hl : DO G S w lo fl) (hh : DO G S w hi fh) : DE G S w (.Subscript a (.Slice lo hi none p2) pos) (xSl fa fl fh) := by
  obtain ⟨ta, pa, va⟩ := ha
  obtain ⟨tl, pl, vl⟩ := hl
  obtain ⟨th, ph, vh⟩ := hh
  refine ⟨tSl (rSlD G.K) ta tl th, fun X hX => pe_slice (by rw [← hX.K]; exact (sl_list.or sl_tupA).or sl_str) (pa X hX) (pl X hX) (ph X hX), fun B F0 ρ z h F σ H R Q q => ?_⟩
  unfold xSl at h
  cases h1 : fa ρ with
  | none => rw [h1] at h; cases h
  | some d =>
    rw [h1] at h
    simp only [Option.bind_some] at h
    cases h2 : xPart fl ρ with
    | none => rw [h2] at h; cases h
    | some o1 =>
      rw [h2] at h
      simp only [Option.bind_some] at h
      cases h3 : xPart fh ρ with
      | none => rw [h3] at h; cases h
      | some o2 =>
        rw [h3] at h
        simp only [Option.bind_some] at h
        refine va B F0 ρ d h1 F σ H R _ fun x F2 H2 g2 r2 => ?_
        refine vl B F0 ρ o1 h2 F2 σ H2 (R.grow g2) _ fun F3 H3 g3 => ?_
        refine vh B F0 ρ o2 h3 F3 σ H3 ((R.grow g2).grow g3) _ fun F4 H4 g4 => ?_
        exact sl_ok (((R.grow g2).grow g3).grow g4).l (r2.m (g3.trans g4).f) h Q fun v F5 H5 g5 r5 => q v F5 H5 (((g2.trans g3).trans g4).trans g5) r5

/-! ### calls of built-ins -/
theorem evd_cb {K : PySem.W.Frag} {r : List V → Hp → VK → Prop} {φ : List D → Option D} {ta : TA} (hr : CvD K r φ) (va : AvD K w ta fs) : EvD K w (tCB r ta) (xF φ fs) := fun B F0 ρ z h F σ H R Q q => by
  unfold xF at h
  cases h1 : xArgs fs ρ with
  | none => rw [h1] at h; cases h
  | some ds =>
    rw [h1] at h
    refine va B F0 ρ ds h1 F σ H R _ fun vs F2 H2 g2 r2 => ?_
    exact hr F2 H2 vs ds z (R.grow g2).l r2 h Q fun v F3 H3 g3 r3 => q v F3 H3 (g2.trans g3) r3
theorem de_callB {x : Str} {id : String} {p : Pos} {r : List V → Hp → VK → Prop} {φ : List D → Option D} (hc : ∀ X, In G S X → CallR X (.builtin id) r) (hr : CvD G.K r φ) (hm : G.mg x = none) (hv : bootBuiltins x = some (.builtin id)) (hg : S.sc.names.lookup x = some .globalImplicit)
    (ha : DA G S w (e :: es) fs) (hn : x ≠ "__name__" := by decide) (hdb : (x == ("__debug__" : Str)) = false := by decide)
    (he : ∀ env : Env, starEach (e :: es) env = (false, eval e env) :: starEach es env := by intro _; rfl) (hpl : ∀ env : Env, (backTo pos (starEach es env)).any (·.1) = false := by intro _; rfl) : DE G S w (.Call (.Name x p) (e :: es) [] pos) (xF φ fs) := by
  obtain ⟨ta, pa, va⟩ := ha
  exact ⟨tCB r ta, fun X hX => pe_callB (hc X hX) (by unfold Gl Env.kindOf; rw [hX.sc]; exact hg) (by rw [hX.mg]; exact hm) hv (pa X hX) hn hdb (he _) (hpl _), evd_cb hr va⟩
theorem de_callTy {x : Str} {T : String} {p : Pos} {r : List V → Hp → VK → Prop} {φ : List D → Option D} (hc : ∀ X, In G S X → CallR X (.type T) r) (hr : CvD G.K r φ) (hm : G.mg x = none) (hv : bootBuiltins x = some (.type T)) (hg : S.sc.names.lookup x = some .globalImplicit)
    (ha : DA G S w (e :: es) fs) (hn : x ≠ "__name__" := by decide) (hdb : (x == ("__debug__" : Str)) = false := by decide)
    (he : ∀ env : Env, starEach (e :: es) env = (false, eval e env) :: starEach es env := by intro _; rfl) (hpl : ∀ env : Env, (backTo pos (starEach es env)).any (·.1) = false := by intro _; rfl) : DE G S w (.Call (.Name x p) (e :: es) [] pos) (xF φ fs) := by
  obtain ⟨ta, pa, va⟩ := ha
  exact ⟨tCB r ta, fun X hX => pe_callTy (hc X hX) (by unfold Gl Env.kindOf; rw [hX.sc]; exact hg) (by rw [hX.mg]; exact hm) hv (pa X hX) hn hdb (he _) (hpl _), evd_cb hr va⟩
/-! their functions -/
def dLen : List D → Option D
  | [.list xs] => some (.int (xs.length : Int))
  | [.tuple xs] => some (.int (xs.length : Int))
  | [.str s] => if s.length ≤ big then some (.int (s.length : Int)) else none
  | [.dict es] => (scrOf es).bind fun xs => some (.int (xs.length : Int))
  | _ => none
def dTuple : List D → Option D
  | [.list xs] => some (.tuple xs)
  | [.tuple xs] => some (.tuple xs)
  | _ => none
def dList : List D → Option D
  | [.list xs] => some (.list xs)
  | [.tuple xs] => some (.list xs)
  | _ => none
def boolsOf : List D → Option (List Bool)
  | [] => some []
  | .bool b :: ds => (boolsOf ds).bind fun bs => some (b :: bs)
  | _ :: _ => none
def intsOf : List D → Option (List Int)
  | [] => some []
  | .int b :: ds => (intsOf ds).bind fun bs => some (b :: bs)
  | _ :: _ => none
def strsOf : List D → Option (List Str)
  | [] => some []
  | .str b :: ds => (strsOf ds).bind fun bs => some (b :: bs)
  | _ :: _ => none
def dAll : List D → Option D
  | [.list xs] => (boolsOf xs).bind fun bs => some (.bool (bs.all id))
  | _ => none
def dAny : List D → Option D
  | [.list xs] => (boolsOf xs).bind fun bs => some (.bool (bs.any id))
  | _ => none
def dMin : List D → Option D
  | [.int i, .int j] => some (.int (if j < i then j else i))
  | _ => none
def dStr : List D → Option D
  | [.int i] => if i.natAbs.log2 < 1920 then some (.str (toString i)) else none
  | _ => none
def dInt : List D → Option D
  | [.int i] => some (.int i)
  | [.bool b] => some (.int (if b then 1 else 0))
  | [.str s] => if s.length ≤ 640 then (intText? s).bind fun n => some (.int n) else none
  | _ => none
theorem bools_map : ∀ {ds : List D} {bs : List Bool}, boolsOf ds = some bs → ds = bs.map .bool
  | [], bs, h => by unfold boolsOf at h; cases h; rfl
  | d :: ds, bs, h => by
    cases d <;> simp only [boolsOf] at h <;> try cases h
    cases e : boolsOf ds with
    | none => rw [e] at h; cases h
    | some cs =>
      rw [e] at h
      cases h
      rw [List.map_cons, bools_map e]
theorem ints_map : ∀ {ds : List D} {bs : List Int}, intsOf ds = some bs → ds = bs.map .int
  | [], bs, h => by unfold intsOf at h; cases h; rfl
  | d :: ds, bs, h => by
    cases d <;> simp only [intsOf] at h <;> try cases h
    cases e : intsOf ds with
    | none => rw [e] at h; cases h
    | some cs =>
      rw [e] at h
      cases h
      rw [List.map_cons, ints_map e]
theorem strs_map : ∀ {ds : List D} {bs : List Str}, strsOf ds = some bs → ds = bs.map .str
  | [], bs, h => by unfold strsOf at h; cases h; rfl
  | d :: ds, bs, h => by
    cases d <;> simp only [strsOf] at h <;> try cases h
    cases e : strsOf ds with
    | none => rw [e] at h; cases h
    | some cs =>
      rw [e] at h
      cases h
      rw [List.map_cons, strs_map e]
theorem boolsOf_map : ∀ bs : List Bool, boolsOf (bs.map .bool) = some bs
  | [] => rfl
  | b :: bs => by simp only [List.map_cons, boolsOf, boolsOf_map bs, Option.bind_some]
theorem intsOf_map : ∀ bs : List Int, intsOf (bs.map .int) = some bs
  | [] => rfl
  | b :: bs => by simp only [List.map_cons, intsOf, intsOf_map bs, Option.bind_some]
theorem strsOf_map : ∀ bs : List Str, strsOf (bs.map .str) = some bs
  | [] => rfl
  | b :: bs => by simp only [List.map_cons, strsOf, strsOf_map bs, Option.bind_some]
def rLenD (K : PySem.W.Frag) : List V → Hp → VK → Prop := fun xs H Q => (∃ p ys, xs = [.ref p] ∧ (SqL K H p ys ∨ SqT K H p ys) ∧ Q (.int ys.length) H) ∨ (∃ z, xs = [.str z] ∧ z.length ≤ sizeLine ∧ Q (.int z.length) H)
theorem cr_len {X : Cx} (hX : In G S X) : CallR X (.builtin "len") (rLenD G.K) := by rw [← hX.K]; exact call_len_seq.or call_len_str
theorem cvd_len {K : PySem.W.Frag} : CvD K (rLenD K) dLen := fun F H vs ds z l r h Q q => by
  unfold dLen at h
  split at h
  · cases h
    obtain ⟨v, rfl, hv⟩ := re_args1 r
    rw [re_list] at hv
    obtain ⟨p, xs, rfl, hp, rx, _⟩ := hv
    exact .inl ⟨p, xs, rfl, .inl (SqL.of (l.lst hp)), q _ F H (.refl l) (by rw [re_int, rx.len])⟩
  · cases h
    obtain ⟨v, rfl, hv⟩ := re_args1 r
    rw [re_tuple] at hv
    obtain ⟨p, xs, rfl, hp, rx, _⟩ := hv
    exact .inl ⟨p, xs, rfl, .inr (SqT.of (l.tup hp)), q _ F H (.refl l) (by rw [re_int, rx.len])⟩
  · split at h
    · cases h
      rename_i hl
      obtain ⟨v, rfl, hv⟩ := re_args1 r
      rw [re_str] at hv
      subst hv
      exact .inr ⟨_, rfl, big_le hl, q _ F H (.refl l) (re_int.mpr rfl)⟩
    · cases h
  · rename_i es
    obtain ⟨v, rfl, hv⟩ := re_args1 r
    cases e : scrOf es with
    | none => rw [e] at h; cases h
    | some ds =>
      rw [e] at h
      cases h
      obtain ⟨p, ns, rfl, rfl, hs, hl⟩ := scr_re l hv e
      exact .inl ⟨p, _, rfl, .inl hs, q _ F H (.refl l) (by rw [re_int, List.length_map, List.length_map])⟩
  · cases h
theorem de_len {p : Pos} (hm : G.mg "len" = none) (hg : S.sc.names.lookup ("len" : Str) = some .globalImplicit) (ha : DE G S w e f) (he : ∀ env : Env, starEach [e] env = (false, eval e env) :: starEach [] env := by intro _; rfl) : DE G S w (.Call (.Name "len" p) [e] [] pos) (xF dLen [f]) :=
  de_callB (fun X hX => cr_len hX) cvd_len hm PySem.boot_len hg (da_cons ha da_nil he) (he := he)
def rTupD (K : PySem.W.Frag) : List V → Hp → VK → Prop := fun xs H Q => ∃ p ys, xs = [.ref p] ∧ ((SqL K H p ys ∧ ∀ l, H l = none → Q (.ref l) (upd H l (.tup ys))) ∨ (SqT K H p ys ∧ Q (.ref p) H))
theorem cvd_tuple {K : PySem.W.Frag} : CvD K (rTupD K) dTuple := fun F H vs ds z l r h Q q => by
  unfold dTuple at h
  split at h
  · cases h
    obtain ⟨v, rfl, hv⟩ := re_args1 r
    rw [re_list] at hv
    obtain ⟨p, xs, rfl, hp, rx, hl⟩ := hv
    refine ⟨p, xs, rfl, .inl ⟨SqL.of (l.lst hp), fun n hn => ?_⟩⟩
    obtain ⟨g, rr⟩ := Grow.tup (K := K) l hn rx hl
    exact q _ _ _ g rr
  · cases h
    obtain ⟨v, rfl, hv⟩ := re_args1 r
    have hv0 := hv
    rw [re_tuple] at hv
    obtain ⟨p, xs, rfl, hp, rx, hl⟩ := hv
    exact ⟨p, xs, rfl, .inr ⟨SqT.of (l.tup hp), q _ F H (.refl l) hv0⟩⟩
  · cases h
theorem de_tuple {p : Pos} (hm : G.mg "tuple" = none) (hg : S.sc.names.lookup ("tuple" : Str) = some .globalImplicit) (ha : DE G S w e f) (he : ∀ env : Env, starEach [e] env = (false, eval e env) :: starEach [] env := by intro _; rfl) : DE G S w (.Call (.Name "tuple" p) [e] [] pos) (xF dTuple [f]) :=
  de_callTy (r := rTupD G.K) (fun X hX => by rw [← hX.K]; exact call_tuple_of) cvd_tuple hm PyProof.Rows.boot_tuple hg (da_cons ha da_nil he) (he := he)
def rListD' (K : PySem.W.Frag) : List V → Hp → VK → Prop := fun xs H Q => ∃ p ys, xs = [.ref p] ∧ (SqL K H p ys ∨ SqT K H p ys) ∧ ∀ l, H l = none → Q (.ref l) (upd H l (.lst ys))
theorem cvd_list {K : PySem.W.Frag} : CvD K (rListD' K) dList := fun F H vs ds z l r h Q q => by
  unfold dList at h
  split at h
  · cases h
    obtain ⟨v, rfl, hv⟩ := re_args1 r
    rw [re_list] at hv
    obtain ⟨p, xs, rfl, hp, rx, hl⟩ := hv
    refine ⟨p, xs, rfl, .inl (SqL.of (l.lst hp)), fun n hn => ?_⟩
    obtain ⟨g, rr⟩ := Grow.lst (K := K) l hn rx hl
    exact q _ _ _ g rr
  · cases h
    obtain ⟨v, rfl, hv⟩ := re_args1 r
    rw [re_tuple] at hv
    obtain ⟨p, xs, rfl, hp, rx, hl⟩ := hv
    refine ⟨p, xs, rfl, .inr (SqT.of (l.tup hp)), fun n hn => ?_⟩
    obtain ⟨g, rr⟩ := Grow.lst (K := K) l hn rx hl
    exact q _ _ _ g rr
  · cases h
theorem de_list {p : Pos} (hm : G.mg "list" = none) (hg : S.sc.names.lookup ("list" : Str) = some .globalImplicit) (ha : DE G S w e f) (he : ∀ env : Env, starEach [e] env = (false, eval e env) :: starEach [] env := by intro _; rfl) : DE G S w (.Call (.Name "list" p) [e] [] pos) (xF dList [f]) :=
  de_callTy (r := rListD' G.K) (fun X hX => by rw [← hX.K]; exact call_list_of) cvd_list hm PyProof.Rows.boot_list hg (da_cons ha da_nil he) (he := he)
theorem cvd_all {K : PySem.W.Frag} : CvD K (rAll K) dAll := fun F H vs ds z l r h Q q => by
  unfold dAll at h
  split at h
  · rename_i xs
    cases e : boolsOf xs with
    | none => rw [e] at h; cases h
    | some bs =>
      rw [e] at h
      cases h
      have e2 := bools_map e
      subst e2
      obtain ⟨v, rfl, hv⟩ := re_args1 r
      rw [re_list] at hv
      obtain ⟨p, ys, rfl, hp, rx, hl⟩ := hv
      have e3 := re_bools rx
      subst e3
      exact ⟨p, bs, rfl, SqL.of (l.lst hp), q _ F H (.refl l) (re_bool.mpr rfl)⟩
  · cases h
theorem cvd_any {K : PySem.W.Frag} : CvD K (rAny K) dAny := fun F H vs ds z l r h Q q => by
  unfold dAny at h
  split at h
  · rename_i xs
    cases e : boolsOf xs with
    | none => rw [e] at h; cases h
    | some bs =>
      rw [e] at h
      cases h
      have e2 := bools_map e
      subst e2
      obtain ⟨v, rfl, hv⟩ := re_args1 r
      rw [re_list] at hv
      obtain ⟨p, ys, rfl, hp, rx, hl⟩ := hv
      have e3 := re_bools rx
      subst e3
      exact ⟨p, bs, rfl, SqL.of (l.lst hp), q _ F H (.refl l) (re_bool.mpr rfl)⟩
  · cases h
theorem de_all {p : Pos} (hm : G.mg "all" = none) (hg : S.sc.names.lookup ("all" : Str) = some .globalImplicit) (ha : DE G S w e f) (he : ∀ env : Env, starEach [e] env = (false, eval e env) :: starEach [] env := by intro _; rfl) (hc : S.cm = true := by rfl) : DE G S w (.Call (.Name "all" p) [e] [] pos) (xF dAll [f]) :=
  de_callB (r := rAll G.K) (fun X hX => by rw [← hX.K]; exact cr_all (hX.calm hc)) cvd_all hm PyProof.Rows.boot_all hg (da_cons ha da_nil he) (he := he)
theorem de_any {p : Pos} (hm : G.mg "any" = none) (hg : S.sc.names.lookup ("any" : Str) = some .globalImplicit) (ha : DE G S w e f) (he : ∀ env : Env, starEach [e] env = (false, eval e env) :: starEach [] env := by intro _; rfl) (hc : S.cm = true := by rfl) : DE G S w (.Call (.Name "any" p) [e] [] pos) (xF dAny [f]) :=
  de_callB (r := rAny G.K) (fun X hX => by rw [← hX.K]; exact cr_any (hX.calm hc)) cvd_any hm PyProof.Rows.boot_any hg (da_cons ha da_nil he) (he := he)
theorem de_min {p : Pos} {e2 : Expr} {f2 : XE} (hm : G.mg "min" = none) (hg : S.sc.names.lookup ("min" : Str) = some .globalImplicit) (ha : DE G S w e f) (ha2 : DE G S w e2 f2) (he : ∀ env : Env, starEach [e, e2] env = (false, eval e env) :: starEach [e2] env := by intro _; rfl) (he2 : ∀ env : Env, starEach [e2] env = (false, eval e2 env) :: starEach [] env := by intro _; rfl)
    (hpl : ∀ env : Env, (backTo pos (starEach [e2] env)).any (·.1) = false := by intro _; rfl) (hc : S.cm = true := by rfl) : DE G S w (.Call (.Name "min" p) [e, e2] [] pos) (xF dMin [f, f2]) :=
  de_callB (r := fun xs H Q => ∃ i j, xs = [.int i, .int j] ∧ Q (.int (if j < i then j else i)) H) (fun X hX => call_min2 (hX.calm hc)) (fun F H vs ds z l r h Q q => by
    unfold dMin at h
    split at h
    · cases h
      obtain ⟨v, u, rfl, hv, hu⟩ := re_args2 r
      rw [re_int] at hv hu
      subst hv hu
      exact ⟨_, _, rfl, q _ F H (.refl l) (re_int.mpr rfl)⟩
    · cases h) hm PyProof.Rows.boot_min hg (da_cons ha (da_cons ha2 da_nil he2) he) (he := he) (hpl := hpl)
theorem de_str1 {p : Pos} (hm : G.mg "str" = none) (hg : S.sc.names.lookup ("str" : Str) = some .globalImplicit) (ha : DE G S w e f) (he : ∀ env : Env, starEach [e] env = (false, eval e env) :: starEach [] env := by intro _; rfl) : DE G S w (.Call (.Name "str" p) [e] [] pos) (xF dStr [f]) :=
  de_callTy (r := fun xs H Q => ∃ i, xs = [.int i] ∧ i.natAbs.log2 < 1920 ∧ Q (.str (toString i)) H) (fun X hX => call_str_int) (fun F H vs ds z l r h Q q => by
    unfold dStr at h
    split at h
    · split at h
      · cases h
        rename_i hl
        obtain ⟨v, rfl, hv⟩ := re_args1 r
        rw [re_int] at hv
        subst hv
        exact ⟨_, rfl, hl, q _ F H (.refl l) (re_str.mpr rfl)⟩
      · cases h
    · cases h) hm PyProof.Rows.boot_str hg (da_cons ha da_nil he) (he := he)
theorem de_int1 {p : Pos} (hm : G.mg "int" = none) (hg : S.sc.names.lookup ("int" : Str) = some .globalImplicit) (ha : DE G S w e f) (he : ∀ env : Env, starEach [e] env = (false, eval e env) :: starEach [] env := by intro _; rfl) : DE G S w (.Call (.Name "int" p) [e] [] pos) (xF dInt [f]) :=
  de_callTy (r := fun xs H Q => ((∃ i, xs = [.int i] ∧ Q (.int i) H) ∨ ∃ k, xs = [.bl k] ∧ Q (.int (if k then 1 else 0)) H) ∨ (∃ a n, xs = [.str a] ∧ PySem.intText? a = some n ∧ a.length ≤ 640 ∧ Q (.int n) H)) (fun X hX => call_int1.or call_int_str) (fun F H vs ds z l r h Q q => by
    unfold dInt at h
    split at h
    · cases h
      obtain ⟨v, rfl, hv⟩ := re_args1 r
      rw [re_int] at hv
      subst hv
      exact .inl (.inl ⟨_, rfl, q _ F H (.refl l) (re_int.mpr rfl)⟩)
    · cases h
      obtain ⟨v, rfl, hv⟩ := re_args1 r
      rw [re_bool] at hv
      subst hv
      exact .inl (.inr ⟨_, rfl, q _ F H (.refl l) (re_int.mpr rfl)⟩)
    · split at h
      · rename_i s hl
        obtain ⟨v, rfl, hv⟩ := re_args1 r
        rw [re_str] at hv
        subst hv
        cases e : intText? s with
        | none => rw [e] at h; cases h
        | some n =>
          rw [e] at h
          cases h
          exact .inr ⟨_, _, rfl, e, hl, q _ F H (.refl l) (re_int.mpr rfl)⟩
      · cases h
    · cases h) hm PyProof.Rows.boot_int hg (da_cons ha da_nil he) (he := he)
/-! list(range(n)) -/
def dListRange : D → Option D
  | .int n => if 0 ≤ n ∧ n ≤ 100000 then some (.list ((List.range n.toNat).map fun i => .int ((i : Nat) : Int))) else none
  | _ => none
theorem de_listRange {p p2 pos2 : Pos} (hm : G.mg "list" = none) (hg : S.sc.names.lookup ("list" : Str) = some .globalImplicit) (hm2 : G.mg "range" = none) (hg2 : S.sc.names.lookup ("range" : Str) = some .globalImplicit) (ha : DE G S w e f)
    (he : ∀ env : Env, starEach [e] env = (false, eval e env) :: starEach [] env := by intro _; rfl) (hc : S.cm = true := by rfl) : DE G S w (.Call (.Name "list" p) [.Call (.Name "range" p2) [e] [] pos2] [] pos) (x1 dListRange f) := by
  obtain ⟨ta, pa, va⟩ := ha
  refine ⟨tLstRg (tRg1 ta), fun X hX => pe_listRg (hX.calm hc) (by unfold Gl Env.kindOf; rw [hX.sc]; exact hg) (by rw [hX.mg]; exact hm) (prg_1 (by unfold Gl Env.kindOf; rw [hX.sc]; exact hg2) (by rw [hX.mg]; exact hm2) (pa X hX) (he _)), fun B F0 ρ z h F σ H R Q q => ?_⟩
  unfold x1 at h
  cases h1 : f ρ with
  | none => rw [h1] at h; cases h
  | some d =>
    rw [h1] at h
    simp only [Option.bind_some] at h
    unfold dListRange at h
    split at h
    · split at h
      · cases h
        rename_i n hn
        refine va B F0 ρ _ h1 F σ H R _ fun v F2 H2 g2 r2 => ⟨n, re_int.mp r2, RgOk.of_le (by omega) (by omega) (by omega) (by omega), fun p hp => ?_⟩
        have ev : rgV 0 n = ((List.range n.toNat).map fun i => ((i : Nat) : Int)).map V.int := by
          unfold rgV
          rw [List.map_map, Int.sub_zero]
          refine List.map_congr_left fun i _ => ?_
          show V.int (0 + (i : Int)) = V.int (i : Int)
          rw [Int.zero_add]
        have ed : ((List.range n.toNat).map fun i => PyData.int ((i : Nat) : Int)) = ((List.range n.toNat).map fun i => ((i : Nat) : Int)).map .int := by rw [List.map_map]; rfl
        rw [ev]
        rw [ed] at q
        obtain ⟨g, rr⟩ := Grow.lst (K := G.K) (R.grow g2).l hp (re_ints_mk (K := G.K) (F := F2) ((List.range n.toNat).map fun i => ((i : Nat) : Int))) (by
          rw [List.length_map, List.length_map, List.length_range]
          show n.toNat ≤ 1000000
          omega)
        exact q _ _ _ (g2.trans g) rr
      · cases h
    · cases h
/-! isinstance(x, T), T a built-in class -/
def tyD : D → String
  | .none => "NoneType"
  | .bool _ => "bool"
  | .int _ => "int"
  | .str _ => "str"
  | .list _ => "list"
  | .tuple _ => "tuple"
  | .dict _ => "dict"
def isT (T : String) (d : D) : Option D := match d with
  | .dict _ => none
  | d => (kitB (tyD d) T).bind fun b => some (.bool b)
theorem ty_re {K : PySem.W.Frag} {F H : Hp} {v : V} {d : D} (l : Ld F H) (h : Re K F v d) (hn : ∀ es, d ≠ .dict es) : TyX K H v (.type (tyD d)) := by
  cases d with
  | none => rw [re_none] at h; subst h; exact .base .non
  | bool b => rw [re_bool] at h; subst h; exact .base (.bl _)
  | int i => rw [re_int] at h; subst h; exact .base (.int _)
  | str i => rw [re_str] at h; subst h; exact .base (.str _)
  | list ds => rw [re_list] at h; obtain ⟨_, _, rfl, h, _⟩ := h; exact .base (.lst (l.lst h))
  | tuple ds => rw [re_tuple] at h; obtain ⟨_, _, rfl, h, _⟩ := h; exact .base (.tup (l.tup h))
  | dict es => exact absurd rfl (hn es)
theorem de_isinst {T : String} {y : Str} {p py : Pos} (hm : G.mg "isinstance" = none) (hg : S.sc.names.lookup ("isinstance" : Str) = some .globalImplicit) (hmy : G.mg y = none) (hgy : S.sc.names.lookup y = some .globalImplicit) (hv : bootBuiltins y = some (.type T)) (ha : DE G S w e f)
    (hn : y ≠ "__name__" := by decide) (hdb : (y == ("__debug__" : Str)) = false := by decide)
    (he : ∀ env : Env, starEach [e, .Name y py] env = (false, eval e env) :: starEach [.Name y py] env := by intro _; rfl) (hpl : ∀ env : Env, (backTo pos (starEach [.Name y py] env)).any (·.1) = false := by intro _; rfl) : DE G S w (.Call (.Name "isinstance" p) [e, .Name y py] [] pos) (x1 (isT T) f) := by
  obtain ⟨ta, pa, va⟩ := ha
  refine ⟨tCB (rIsi G.K) (tCons ta (tCons (tC (.ty T)) tNil)), fun X hX => pe_callB (by rw [← hX.K]; exact call_isi) (by unfold Gl Env.kindOf; rw [hX.sc]; exact hg) (by rw [hX.mg]; exact hm) PyProof.Rows.boot_isinstance
    (pa_cons (pa X hX) (pa_cons (pe_bltn (by unfold Gl Env.kindOf; rw [hX.sc]; exact hgy) (by rw [hX.mg]; exact hmy) hv rfl hn hdb) pa_nil) (he _)) (by decide) (by decide) (he _) (hpl _), fun B F0 ρ z h F σ H R Q q => ?_⟩
  unfold x1 at h
  cases h1 : f ρ with
  | none => rw [h1] at h; cases h
  | some d =>
    rw [h1] at h
    simp only [Option.bind_some] at h
    have hd : (∀ es, d ≠ .dict es) ∧ ∃ b, kitB (tyD d) T = some b ∧ z = .bool b := by
      unfold isT at h
      split at h
      · cases h
      · rename_i h0
        cases e : kitB (tyD d) T with
        | none => rw [e] at h; cases h
        | some b => rw [e] at h; cases h; exact ⟨fun es e => h0 es e, b, rfl, rfl⟩
    obtain ⟨hd, b, hb, rfl⟩ := hd
    refine va B F0 ρ _ h1 F σ H R _ fun v F2 H2 g2 r2 => ?_
    exact ⟨v, .ty T, .type (tyD d), .type T, b, rfl, .ty T, ty_re (R.grow g2).l r2 hd, kit_ty hb, q _ F2 H2 g2 (re_bool.mpr rfl)⟩

/-! ### calls of the text's own defs -/
def spD (K : PySem.W.Frag) (n : Nat) (Φ : List D → Option D) : Sp := fun vs H Q _ => vs.length = n ∧ ∃ F ds d, Ld F H ∧ ReAll K F vs ds ∧ Φ ds = some d ∧ ∀ v F' H', Grow F H F' H' → Re K F' v d → Q v H'
/-- the def that stands at x computes Φ -/
structure Kn (G : Wd) (k : Nat) (x : Str) (n : Nat) (Φ : List D → Option D) : Prop where
  ex : ∃ (f : Addr) (fd : FuncData) (ps : List Str), FnOk G.P G.w G.K G.mg G.base CX0 k f fd ps (spD G.K n Φ) ∧ G.mg x = some (.ref f) ∧ PySem.W.keepIn G.K (.ref f) = true ∧ Binds G.K fd ps []
theorem de_call {x : Str} {p : Pos} {k n : Nat} {Φ : List D → Option D} (h : Kn G k x n Φ) (hk : k ≤ S.k) (hg : S.sc.names.lookup x = some .globalImplicit) (ha : DA G S w (e :: es) fs) (hn : fs.length = n := by rfl) (hdb : (x == ("__debug__" : Str)) = false := by decide)
    (he : ∀ env : Env, starEach (e :: es) env = (false, eval e env) :: starEach es env := by intro _; rfl) (hpl : ∀ env : Env, (backTo pos (starEach es env)).any (·.1) = false := by intro _; rfl) (hc : S.cm = true := by rfl) : DE G S w (.Call (.Name x p) (e :: es) [] pos) (xF Φ fs) := by
  obtain ⟨f, fd, ps, hF, hm, hkp, hb⟩ := h.ex
  obtain ⟨ta, pa, va⟩ := ha
  refine ⟨tCall (spD G.K n Φ) [] E0 ta, fun X hX => ?_, fun B F0 ρ z h F σ H R Q q => ?_⟩
  · have hF' : FnOk X.prog X.w X.K X.mg X.base CX0 k f fd ps (spD G.K n Φ) := by rw [hX.p, hX.w, hX.K, hX.mg, hX.base]; exact hF
    exact pe_call hF' ((hX.room hc).mono hk) (by unfold Gl Env.kindOf; rw [hX.sc]; exact hg) (by rw [hX.mg]; exact hm) (by rw [hX.K]; exact hkp) (by rw [hX.K]; exact hb) .nil pass0 (pa X hX) hdb (he _) (hpl _)
  · unfold xF at h
    cases h1 : xArgs fs ρ with
    | none => rw [h1] at h; cases h
    | some ds =>
      rw [h1] at h
      refine va B F0 ρ ds h1 F σ H R _ fun vs F2 H2 g2 r2 => ?_
      refine ⟨by rw [List.append_nil, r2.len, xArgs_len h1]; exact hn, F2, ds, z, (R.grow g2).l, by rw [List.append_nil]; exact r2, h, fun v F' H' g r => q v F' H' (g2.trans g) r⟩
end

/-! DLE: enumerate over a tuple, as something that a for walks. -/
theorem enum_new1 {v : Value} {o : Obj} {T : Heap → Prop} (B : Begins v o T) :
    Meets (Builtin.«enumerate.__new__» ⟨[.type "enumerate", v], []⟩) (fun _ R s => T s.heap ∧ R (.ok (.ret (.ref (s.heap.push o).objs.size)))
      { s with heap := (s.heap.push o).push { cls := .type "enumerate", data := .fields #[.none, .bool false, .ref s.heap.objs.size, rawInt 0, .none, .none] } }) :=
  .of_wp fun prog w A R s hh => by
    obtain ⟨hp, gg, dd, tk, os⟩ := s
    obtain ⟨hT, hR⟩ := hh
    have hsub := sub_enumerate
    have step : ∀ {A' : Around} {E Q : Value → Shared → Prop}, Q (.ref hp.objs.size) ⟨hp.push o, gg, dd, tk, os⟩ → wpAny (model prog w) A' (pyIter v) Q E ⟨hp, gg, dd, tk, os⟩ :=
      fun z => B.iter prog w _ _ ⟨hp, gg, dd, tk, os⟩ _ hT z
    wp_walk using step
    refine wpAny_stack_any fun st => wpAny_pure ?_
    split
    · rename_i cc _ _ _ _ _
      by_cases hc : (cc == Value.type "enumerate") = true
      · rw [hc]
        wp_walk using step
        exact ⟨_, rfl, hR⟩
      · rw [Bool.not_eq_true] at hc
        rw [hc]
        wp_walk using step
        exact ⟨_, rfl, hR⟩
    · wp_walk using step
      exact ⟨_, rfl, hR⟩
theorem enum_of_tuple {prog : Program} {w : World} {A : Around} {E : Value → Shared → Prop} {s : Shared} {t : Addr} {items : Array Value} {Q : Value → Shared → Prop} (ht : s.heap.IsTuple t items)
    (k : ∀ h', IsEnum h' (s.heap.objs.size + 1) s.heap.objs.size 0 .none → h'.IsTupleIter s.heap.objs.size t 0 → (∀ b o, s.heap.get? b = some o → h'.get? b = some o) → Q (.ref (s.heap.objs.size + 1)) { s with heap := h' }) :
    wpAny (model prog w) A (call (.type "enumerate") [.ref t]) Q E s := by
  refine callType_new F.called_enumerate (by decide) (F.typeCall_enumerate_1 _) (F.newCall_enumerate_1 _) (fun ob => F.args_object_init_2 ob _) F.entry_enumerate_new (enum_new1 (begins_tuple t items)) ⟨ht, ?_⟩
  have z1 : (s.heap.push { cls := .type "tuple_iterator", data := .fields #[.ref t, .int 0 0] }).objs.size = s.heap.objs.size + 1 := by rw [Heap.size_push]
  show _ ∧ _
  rw [z1]
  have z2 : IsEnum ((s.heap.push { cls := .type "tuple_iterator", data := .fields #[.ref t, .int 0 0] }).push
      { cls := .type "enumerate", data := .fields #[.none, .bool false, .ref s.heap.objs.size, rawInt 0, .none, .none] }) (s.heap.objs.size + 1) s.heap.objs.size 0 .none := by
    have q := Heap.get?_push_size (s.heap.push { cls := .type "tuple_iterator", data := .fields #[.ref t, .int 0 0] }) (o := { cls := .type "enumerate", data := .fields #[.none, .bool false, .ref s.heap.objs.size, rawInt 0, .none, .none] }) rfl
    rw [z1] at q
    exact q
  refine ⟨⟨_, z2, rfl⟩, k _ z2 ⟨_, Heap.get?_push_of_some _ (Heap.get?_push_size _ rfl), rfl, rfl⟩ fun b o x => ?_⟩
  exact Heap.get?_push_of_some _ (Heap.get?_push_of_some _ x)
/-- the tuple at a, each item in a new pair with its number -/
def IteT (K : PySem.W.Frag) (a : Addr) : It :=
  ⟨fun i H => ∃ (xs : List V) (x : V), SqT K H a xs ∧ xs[i]? = some x,
   fun i H v H' => ∃ T x, v = .ref T ∧ H T = none ∧ H' = upd H T (.tup [.int (i : Nat), x]) ∧ ∀ xs, SqT K H a xs → xs[i]? = some x,
   fun i H => ∃ xs : List V, SqT K H a xs ∧ xs.length = i⟩
theorem turn_enumT {P : Program} {w : World} {K : PySem.W.Frag} {elts : List Expr} {kk : Nat} {tpos : Pos} (a e it : Addr) :
    Turn P w K (.Tuple elts kk tpos) (IteT K a) [e, it] e (fun i h => (∃ old, IsEnum h e it ((i : Nat) : Int) old) ∧ h.IsTupleIter it a i ∧ e ≠ it ∧ a ≠ it ∧ a ≠ e) where
  mem := by simp
  obj := fun i h st b hb => by
    obtain ⟨⟨old, he⟩, ⟨o, ho, hc, hd⟩, _⟩ := st
    rcases List.mem_cons.mp hb with z | z
    · subst z; exact ⟨_, he, fun v q => nomatch q⟩
    · rw [List.mem_singleton.mp z]; exact ⟨o, ho, fun v q => by rw [hd] at q; cases q⟩
  keep := fun i h h' st k => by
    obtain ⟨⟨old, he⟩, hi, hne⟩ := st
    exact ⟨⟨old, k e (by simp) _ he⟩, hi.at fun o q => k it (by simp) o q, hne⟩
  item := by
    intro X hP hW hK hcalm i pins s σ H E I hf st hg
    subst hP hW hK
    obtain ⟨⟨old, he⟩, hit, hne, hai, hae⟩ := st
    obtain ⟨xs, x, hq, hx⟩ := hg
    obtain ⟨its, rv, p, hz⟩ := I.tuple hq
    obtain ⟨u, hu, ru⟩ := rv.get hx
    have hel : e < s.heap.objs.size := Heap.lt_size he
    have hil : it < s.heap.objs.size := by obtain ⟨_, q, _⟩ := hit; exact Heap.lt_size q
    have hlt : i < its.toArray.size := by rw [List.size_toArray]; exact (List.getElem?_eq_some_iff.mp hu).1
    have hef : e ∉ [it, a] := by
      intro z
      rcases List.mem_cons.mp z with z | z
      · exact hne z
      · exact hae (List.mem_singleton.mp z).symm
    have hA : X.A.in1.handled = none := I.ok.hd hcalm
    refine wpAny_pyNext_enum_itemD (Draws.tuple hA it a hai its.toArray) he ⟨hit, p⟩ hlt hne hef fun x' h' tk hx' ho hst hT hsz hk => ?_
    obtain ⟨hit', _⟩ := hst
    have ex : x' = u := by
      have e1 : its.toArray[i]? = some u := by rw [List.getElem?_toArray]; exact hu
      exact Option.some.inj (hx'.symm.trans e1)
    subst ex
    refine ⟨_, rfl, wpAny_letOwnedTupleGo_enum (s := { s with heap := h', toks := tk + 1 }) ho fun h'' he' sb => ?_⟩
    have hT2 : h''.get? s.heap.objs.size = some { cls := .type "tuple", data := .seq #[.int i tk, x'] } := (sb.2 _ (Nat.ne_of_gt hel)).trans hT
    have new : ObjOk X.prog X.w (upd H s.heap.objs.size (.tup [.int (i : Nat), x])) h'' s.heap.objs.size (.tup [.int (i : Nat), x]) :=
      ⟨by show 2 ≤ sizeLine; decide, [.int i tk, x'], .cons ⟨_, rfl⟩ (.cons ru .nil), ⟨_, hT2, rfl, _, rfl⟩⟩
    have I1 : Inv X pins σ (upd H s.heap.objs.size (.tup [.int (i : Nat), x])) { s with heap := h'', toks := tk + 1 } :=
      I.turnedNew (ch := [e, it]) (fun b ob hb q => by
        have n1 : b ≠ e := fun z => hb (by simp [z])
        have n2 : b ≠ it := fun z => hb (by simp [z])
        exact (sb.2 b n1).trans (hk b ob n1 n2 q)) hf (Nat.le_refl _) new
    refine ⟨.ref s.heap.objs.size, _, I1, rfl, ⟨_, x, rfl, I.hok.fresh (Nat.le_refl _), rfl, fun ys hy => by rw [I.tuple_inj hy hq]; exact hx⟩, ⟨⟨x', ?_⟩, hit'.at fun o q => (sb.2 it (Ne.symm hne)).trans q, hne, hai, hae⟩, fun b hb => ?_⟩
    · have e1 : ((i + 1 : Nat) : Int) = (i : Int) + 1 := by omega
      rw [e1]
      exact he'
    · have hb' : b < s.heap.objs.size := by
        rcases List.mem_cons.mp hb with z | z
        · rw [z]; exact hel
        · rw [List.mem_singleton.mp z]; exact hil
      rw [upd_ne (Nat.ne_of_lt hb')]
      exact (hf b hb).1
  done := by
    intro X hP hW hK hcalm i pins s σ H E I hf st hg
    subst hP hW hK
    obtain ⟨⟨old, he⟩, hit, hne, hai, hae⟩ := st
    obtain ⟨xs, hq, hx⟩ := hg
    obtain ⟨its, rv, p, hz⟩ := I.tuple hq
    obtain ⟨f0, f1, f2, f3, f4, f5⟩ := hf it (by simp)
    have hl := rv.length
    have hA : X.A.in1.handled = none := I.ok.hd hcalm
    have hi : i = its.toArray.size := by rw [List.size_toArray, ← hl, hx]
    subst hi
    exact wpAny_pyNext_enum_endD (Draws.tuple hA it a hai its.toArray) he ⟨hit, p⟩ fun h' eb => ⟨rfl, I.turned (t' := s.toks) (fun b o hb q => eb b o hb q) f0 f1 f3 f4 f5⟩
  self := fun A i s Q E st h => by
    obtain ⟨⟨_, he⟩, _⟩ := st
    exact wpAny_pyIter_enum he h
def iEnumT (K : PySem.W.Frag) (ta : TA) : TI := fun σ H R => ta σ H fun vs H1 => ∃ a xs, vs = [.ref a] ∧ SqT K H1 a xs ∧ R (IteT K a) H1
theorem pi_enumT {X : Cx} {e : Expr} {ta : TA} {p pos tpos : Pos} {elts : List Expr} {kk : Nat} (hg : Gl X "enumerate") (hm : X.mg "enumerate" = none) (ha : PA X [e] ta) (hs : starEach [e] X.env = [(false, eval e X.env)] := by rfl) :
    PI X (.Tuple elts kk tpos) (.Call (.Name "enumerate" p) [e] [] pos) (iEnumT X.K ta) := by
  refine ⟨fun pins s σ H R I h => ?_⟩
  refine Call_ (ld_blt I hg hm boot_enumerate (PyProof.Rows.callWith_type1 (thn (ha.run pos pins s σ H _ I h) fun us s1 ⟨vs, H1, I1, r1, q1⟩ => ?_) hs rfl))
  obtain ⟨a, xs, rfl, hq, q⟩ := q1
  obtain ⟨u, rfl, ru⟩ := vals1 r1
  cases ru
  obtain ⟨its, rv, pt, hz⟩ := I1.tuple hq
  refine enum_of_tuple pt fun h' he hit hk => wpAny_pyIter_enum he ?_
  have I2 : Inv X pins σ H1 { s1 with heap := h' } := I1.kept (t' := s1.toks) hk
  have hal : a < s1.heap.objs.size := pt.lt
  refine ⟨s1.heap.objs.size + 1, [s1.heap.objs.size + 1, s1.heap.objs.size], _, _, H1, rfl, I2, turn_enumT a (s1.heap.objs.size + 1) s1.heap.objs.size, ⟨⟨.none, he⟩, hit, Nat.succ_ne_self _, Nat.ne_of_lt hal, Nat.ne_of_lt (Nat.lt_succ_of_lt hal)⟩, fun b hb => ?_, q⟩
  have hle : s1.heap.objs.size ≤ b := by
    rcases List.mem_cons.mp hb with z | z
    · rw [z]; exact Nat.le_succ _
    · rw [List.mem_singleton.mp z]; exact Nat.le_refl _
  exact I1.fpOk hle (I1.hok.fresh hle)

/-! DL4: the data layer: targets, what is walked, comprehensions, statements, defs. -/

/-! ### slots -/
def wipeN (ρ : Nv) : List Nat → Nv
  | [] => ρ
  | v :: vs => (wipeN ρ vs).set v none
theorem wipeN_len (ρ : Nv) : ∀ vs, (wipeN ρ vs).length = ρ.length
  | [] => rfl
  | v :: vs => by unfold wipeN; rw [List.length_set, wipeN_len ρ vs]
theorem wipeN_some {ρ : Nv} {i : Nat} {d : D} : ∀ {vs : List Nat}, (wipeN ρ vs)[i]? = some (some d) → ρ[i]? = some (some d) ∧ i ∉ vs
  | [], h => ⟨h, by simp⟩
  | v :: vs, h => by
    unfold wipeN at h
    by_cases hi : v = i
    · subst hi
      by_cases hv : v < (wipeN ρ vs).length
      · rw [List.getElem?_set_self hv] at h; cases h
      · rw [List.getElem?_eq_none (by rw [List.length_set]; omega)] at h; cases h
    · rw [List.getElem?_set_ne hi] at h
      obtain ⟨h1, h2⟩ := wipeN_some h
      exact ⟨h1, fun z => (List.mem_cons.mp z).elim (fun e => hi e.symm) h2⟩
theorem wipe_keep {σ : L2.St} {i : Nat} : ∀ {vs : List Nat}, i ∉ vs → (wipe σ vs)[i]? = σ[i]?
  | [], _ => rfl
  | v :: vs, h => by
    unfold wipe
    rw [List.getElem?_set_ne (fun e => h (by rw [e]; exact List.mem_cons_self)), wipe_keep fun z => h (List.mem_cons_of_mem _ z)]
theorem wipe_hit {σ : L2.St} {i : Nat} : ∀ {vs : List Nat}, i ∈ vs → i < σ.length → (wipe σ vs)[i]? = some none
  | [], h, _ => by cases h
  | v :: vs, h, hl => by
    unfold wipe
    by_cases e : v = i
    · rw [e, List.getElem?_set_self (by rw [wipe_length]; exact hl)]
    · rw [List.getElem?_set_ne e]
      exact wipe_hit ((List.mem_cons.mp h).resolve_left fun z => e z.symm) hl
theorem wipe_set {σ : L2.St} {i : Nat} {x : Option V} {vs : List Nat} (h : i ∈ vs) : wipe (σ.set i x) vs = wipe σ vs := by
  refine List.ext_getElem? fun j => ?_
  by_cases hj : j ∈ vs
  · by_cases hl : j < σ.length
    · rw [wipe_hit hj hl, wipe_hit hj (by rw [List.length_set]; exact hl)]
    · rw [List.getElem?_eq_none (by rw [wipe_length, List.length_set]; omega), List.getElem?_eq_none (by rw [wipe_length]; omega)]
  · rw [wipe_keep hj, wipe_keep hj, List.getElem?_set_ne]
    intro e; exact hj (e ▸ h)
theorem wipe_wipe (σ : L2.St) (vs : List Nat) : wipe (wipe σ vs) vs = wipe σ vs := by
  refine List.ext_getElem? fun j => ?_
  by_cases hj : j ∈ vs
  · by_cases hl : j < σ.length
    · rw [wipe_hit hj hl, wipe_hit hj (by rw [wipe_length]; exact hl)]
    · rw [List.getElem?_eq_none (by rw [wipe_length, wipe_length]; omega), List.getElem?_eq_none (by rw [wipe_length]; omega)]
  · rw [wipe_keep hj]
section
variable {K : PySem.W.Frag} {B F0 F F2 H H2 : Hp} {w : List Nat} {ρ : Nv} {σ : L2.St}
theorem Rel.wipe (R : Rel K B F0 w F ρ σ H) (vs : List Nat) : Rel K B F0 w F (wipeN ρ vs) (L2.wipe σ vs) H where
  g := R.g
  len := by rw [wipeN_len, wipe_length]; exact R.len
  val := fun i d hi e => by
    obtain ⟨h1, h2⟩ := wipeN_some e
    rw [wipe_keep h2]
    exact R.val i d hi h1
  own := fun i d hi e => by
    obtain ⟨h1, h2⟩ := wipeN_some e
    rw [wipe_keep h2]
    exact R.own i d hi h1
  sep := fun i j p hi hj hn ⟨d, e1⟩ ⟨d', e2⟩ => by
    obtain ⟨h1, h2⟩ := wipeN_some e1
    obtain ⟨h3, h4⟩ := wipeN_some e2
    rw [wipe_keep h2, wipe_keep h4]
    exact R.sep i j p hi hj hn ⟨d, h1⟩ ⟨d', h3⟩
theorem Rel.set (R : Rel K B F0 w F ρ σ H) {j : Nat} (hj : j ∉ w) {v : V} {d : D} (r : Re K F v d) : Rel K B F0 w F (ρ.set j (some d)) (σ.set j (some v)) H where
  g := R.g
  len := by rw [List.length_set, List.length_set]; exact R.len
  val := fun i d' hi e => by
    by_cases h : j = i
    · subst h
      have hl : j < ρ.length := by
        have := (List.getElem?_eq_some_iff.mp e).1
        rwa [List.length_set] at this
      rw [List.getElem?_set_self hl] at e
      cases e
      exact ⟨v, by rw [List.getElem?_set_self (by rw [← R.len]; exact hl)], r⟩
    · rw [List.getElem?_set_ne h] at e ⊢
      exact R.val i d' hi e
  own := fun i d' hi e => by
    have h : j ≠ i := fun z => hj (z ▸ hi)
    rw [List.getElem?_set_ne h] at e ⊢
    exact R.own i d' hi e
  sep := fun i k p hi hk hn => by
    have h1 : j ≠ i := fun z => hj (z ▸ hi)
    have h2 : j ≠ k := fun z => hj (z ▸ hk)
    rw [List.getElem?_set_ne h1, List.getElem?_set_ne h2, List.getElem?_set_ne h1, List.getElem?_set_ne h2]
    exact R.sep i k p hi hk hn
end

/-! ### targets -/
abbrev Tgt := Nv → D → Option Nv
def tN (j : Nat) : Tgt := fun ρ d => some (ρ.set j (some d))
def setAll : List Nat → List D → Nv → Nv
  | j :: js, x :: xs, ρ => setAll js xs (ρ.set j (some x))
  | _, _, ρ => ρ
def tT (js : List Nat) : Tgt := fun ρ d => match d with
  | .tuple xs => if xs.length = js.length then some (setAll js xs ρ) else none
  | _ => none
def GvD (K : PySem.W.Frag) (w idx : List Nat) (g : TG) (t : Tgt) : Prop := ∀ B F0 ρ d ρ', t ρ d = some ρ' → ∀ F σ H v, Rel K B F0 w F ρ σ H → Re K F v d → ∀ Q : L2.St → Hp → Prop,
  (∀ σ', Rel K B F0 w F ρ' σ' H → (∀ vs, (∀ i ∈ idx, i ∈ vs) → wipe σ' vs = wipe σ vs) → Q σ' H) → g v σ H Q
def DG (G : Wd) (S : Sta) (w idx : List Nat) (tg : Expr) (t : Tgt) : Prop := ∃ g, (∀ X, In G S X → PG X tg g) ∧ GvD G.K w idx g t
def GsD (K : PySem.W.Frag) (w : List Nat) (g : TGs) (js : List Nat) : Prop := ∀ B F0 ρ ds, ds.length = js.length → ∀ F σ H vs, Rel K B F0 w F ρ σ H → ReAll K F vs ds → ∀ Q : L2.St → Hp → Prop,
  (∀ σ', Rel K B F0 w F (setAll js ds ρ) σ' H → (∀ us, (∀ i ∈ js, i ∈ us) → wipe σ' us = wipe σ us) → Q σ' H) → g vs σ H Q
def DGs (G : Wd) (S : Sta) (w : List Nat) (es : List Expr) (js : List Nat) : Prop := ∃ g, (∀ X, In G S X → PGs X es g) ∧ GsD G.K w g js
section
variable {G : Wd} {S : Sta} {w : List Nat} {e a b c : Expr} {es : List Expr} {f fa fb fc : XE} {fs : List XE} {pos : Pos}
theorem dg_name {j : Nat} {x : Str} (hi : S.N[j]? = some x) (hx : Loc S.sc x) (hf : S.fn x = true ∨ S.sc.names.lookup x = some .local) (hw : j ∉ w) : DG G S w [j] (.Name x pos) (tN j) :=
  ⟨gName j, fun X hX => pg_name (by rw [hX.N]; exact hX.nd) (by rw [hX.N]; exact hi) (by rw [hX.sc]; exact hx) (by rw [hX.sc, hX.fn]; exact hf), fun B F0 ρ d ρ' h F σ H v R r Q q => by
    unfold tN at h
    cases h
    exact q _ (R.set hw r) fun vs hv => wipe_set (hv j List.mem_cons_self)⟩
theorem dgs_nil : DGs G S w [] [] := ⟨gNil, fun X _ => pgs_nil, fun B F0 ρ ds hl F σ H vs R r Q q => by
  have e : ds = [] := List.eq_nil_of_length_eq_zero hl
  subst e
  cases vs with
  | nil => exact ⟨rfl, q σ R fun _ _ => rfl⟩
  | cons _ _ => simp only [ReAll] at r⟩
theorem dgs_cons {j : Nat} {js : List Nat} {x : Str} {px : Pos} (h1 : DG G S w [j] (.Name x px) (tN j)) (h2 : DGs G S w es js) : DGs G S w (.Name x px :: es) (j :: js) := by
  obtain ⟨g, p, v⟩ := h1
  obtain ⟨gs, ps, vs'⟩ := h2
  refine ⟨gCons g gs, fun X hX => pgs_cons (p X hX) (ps X hX), fun B F0 ρ ds hl F σ H vs R r Q q => ?_⟩
  cases ds with
  | nil => cases hl
  | cons d ds =>
    cases vs with
    | nil => simp only [ReAll] at r
    | cons u us =>
      rw [re_cons] at r
      refine ⟨u, us, rfl, v B F0 ρ d _ rfl F σ H u R r.1 _ fun σ1 R1 hw1 => ?_⟩
      refine vs' B F0 _ ds (by simpa using hl) F σ1 H us R1 r.2 Q fun σ2 R2 hw2 => q σ2 R2 fun us hu => ?_
      rw [hw2 us fun i hi => hu i (List.mem_cons_of_mem _ hi), hw1 us fun i hi => hu i (by rw [List.mem_singleton.mp hi]; exact List.mem_cons_self)]
theorem dg_tup {k : Nat} {js : List Nat} (h : DGs G S w es js) (hn : ∀ env : Env, (assignEach es env).length = js.length := by intro _; rfl) (hst : ∀ env : Env, (assignEach es env).findIdx? (·.1) = none := by intro _; rfl) (hc : S.cm = true := by rfl) :
    DG G S w js (.Tuple es k pos) (tT js) := by
  obtain ⟨g, p, v⟩ := h
  refine ⟨gTup G.K js.length g, fun X hX => by rw [← hX.K]; exact pg_tup (hX.calm hc) (p X hX) (hn _) (hst _), fun B F0 ρ d ρ' h F σ H u R r Q q => ?_⟩
  unfold tT at h
  split at h
  · split at h
    · cases h
      rename_i xs hx
      rw [re_tuple] at r
      obtain ⟨a, ys, rfl, ha, ry, _⟩ := r
      refine ⟨a, ys, rfl, SqT.of (R.l.tup ha), by rw [ry.len]; exact hx, ?_⟩
      exact v B F0 ρ xs hx F σ H ys R ry Q q
    · cases h
  · cases h

/-! ### what is walked -/
abbrev XSrc := Nv → Option (List D)
structure WalkD (K : PySem.W.Frag) (J : It) (F : Hp) (items : List D) : Prop where
  len : items.length ≤ big
  go : ∀ i F' H', i < items.length → Same F F' → Ld F' H' → J.go i H'
  yld : ∀ i F' H' x H'' d, items[i]? = some d → Same F F' → Ld F' H' → J.yld i H' x H'' → ∃ F'', Grow F' H' F'' H'' ∧ Re K F'' x d
  stop : ∀ F' H', Same F F' → Ld F' H' → J.stop items.length H'
def IvD (K : PySem.W.Frag) (w : List Nat) (wi : TI) (src : XSrc) : Prop := ∀ B F0 ρ items, src ρ = some items → ∀ F σ H, Rel K B F0 w F ρ σ H → ∀ R : It → Hp → Prop, (∀ J F2 H2, Grow F H F2 H2 → WalkD K J F2 items → R J H2) → wi σ H R
def DI (G : Wd) (S : Sta) (w : List Nat) (tg iter : Expr) (src : XSrc) : Prop := ∃ wi, (∀ X, In G S X → PI X tg iter wi) ∧ IvD G.K w wi src
def dItems : D → Option (List D)
  | .list xs => some xs
  | .tuple xs => some xs
  | _ => none
def sSq (f : XE) : XSrc := fun ρ => (f ρ).bind dItems
def intsUp (lo : Int) (n : Nat) : List D := (List.range n).map fun i => .int (lo + (i : Nat))
def dRange : D → D → Option (List D)
  | .int a, .int b => if -1000 ≤ a ∧ a ≤ 100000 ∧ -1000 ≤ b ∧ b ≤ 100000 then some (intsUp a (b - a).toNat) else none
  | _, _ => none
def sRng (f : XE) : XSrc := fun ρ => (f ρ).bind fun d => dRange (.int 0) d
def sRng2 (f g : XE) : XSrc := fun ρ => (f ρ).bind fun d => (g ρ).bind fun e => dRange d e
def numbered : Nat → List D → List D
  | _, [] => []
  | i, x :: xs => .tuple [.int (i : Nat), x] :: numbered (i + 1) xs
def sEnu (f : XE) : XSrc := fun ρ => (f ρ).bind fun d => (dItems d).bind fun xs => some (numbered 0 xs)
theorem numbered_len : ∀ (i : Nat) (xs : List D), (numbered i xs).length = xs.length
  | _, [] => rfl
  | i, x :: xs => by simp only [numbered, List.length_cons, numbered_len (i + 1) xs]
theorem numbered_get : ∀ (i j : Nat) (xs : List D), (numbered i xs)[j]? = (xs[j]?).map fun x => .tuple [.int ((i + j : Nat) : Int), x]
  | _, _, [] => by simp [numbered]
  | i, 0, x :: xs => by simp [numbered]
  | i, j + 1, x :: xs => by
    simp only [numbered, List.getElem?_cons_succ]
    rw [numbered_get (i + 1) j xs, Nat.add_right_comm]
    rfl
theorem PI_or {X : Cx} {tg it : Expr} {w1 w2 : TI} (h : PI X tg it w1) (h' : PI X tg it w2) : PI X tg it (fun σ H R => w1 σ H R ∨ w2 σ H R) :=
  ⟨fun pins s σ H R I z => z.elim (h.run pins s σ H R I) (h'.run pins s σ H R I)⟩
theorem walk_list {K : PySem.W.Frag} {F : Hp} {a : Addr} {vs : List V} {ds : List D} (h : F a = some (.lst vs)) (r : ReAll K F vs ds) (hl : ds.length ≤ big) : WalkD K (Itl K a) F ds where
  len := hl
  go := fun i F' H' hi e l => by
    obtain ⟨v, h1, _⟩ := r.get (List.getElem?_eq_getElem hi)
    exact ⟨vs, v, SqL.of (l.lst (e _ _ h)), h1⟩
  yld := fun i F' H' x H'' d hd e l y => by
    obtain ⟨rfl, y2⟩ := y
    obtain ⟨v, h1, h2⟩ := r.get hd
    have h3 := y2 vs (SqL.of (l.lst (e _ _ h)))
    rw [h1] at h3
    cases h3
    exact ⟨F', .refl l, h2.m e⟩
  stop := fun F' H' e l => ⟨vs, SqL.of (l.lst (e _ _ h)), by rw [r.len]; exact Nat.le_refl _⟩
theorem walk_tup {K : PySem.W.Frag} {F : Hp} {a : Addr} {vs : List V} {ds : List D} (h : F a = some (.tup vs)) (r : ReAll K F vs ds) (hl : ds.length ≤ big) : WalkD K (Itt K a) F ds where
  len := hl
  go := fun i F' H' hi e l => by
    obtain ⟨v, h1, _⟩ := r.get (List.getElem?_eq_getElem hi)
    exact ⟨vs, v, SqT.of (l.tup (e _ _ h)), h1⟩
  yld := fun i F' H' x H'' d hd e l y => by
    obtain ⟨rfl, y2⟩ := y
    obtain ⟨v, h1, h2⟩ := r.get hd
    have h3 := y2 vs (SqT.of (l.tup (e _ _ h)))
    rw [h1] at h3
    cases h3
    exact ⟨F', .refl l, h2.m e⟩
  stop := fun F' H' e l => ⟨vs, SqT.of (l.tup (e _ _ h)), by rw [r.len]; exact Nat.le_refl _⟩
theorem walk_rng {K : PySem.W.Frag} {F : Hp} {lo : Int} {n : Nat} (hn : n ≤ big) : WalkD K (Itr lo n) F (intsUp lo n) where
  len := by unfold intsUp; rw [List.length_map, List.length_range]; exact hn
  go := fun i F' H' hi e l => by
    unfold intsUp at hi; rw [List.length_map, List.length_range] at hi
    exact hi
  yld := fun i F' H' x H'' d hd e l y => by
    obtain ⟨rfl, rfl⟩ := y
    refine ⟨F', .refl l, ?_⟩
    unfold intsUp at hd
    rw [List.getElem?_map] at hd
    cases q : (List.range n)[i]? with
    | none => rw [q] at hd; cases hd
    | some j =>
      rw [q] at hd
      obtain ⟨h1, h2⟩ := List.getElem?_eq_some_iff.mp q
      rw [List.getElem_range] at h2
      subst h2
      cases hd
      rw [re_int]
  stop := fun F' H' e l => by
    unfold intsUp; rw [List.length_map, List.length_range]
    exact Nat.le_refl _
theorem di_seq {tg : Expr} (ha : DE G S w a fa) : DI G S w tg a (sSq fa) := by
  obtain ⟨ta, pa, va⟩ := ha
  refine ⟨fun σ H R => iList G.K ta σ H R ∨ iTup G.K ta σ H R, fun X hX => by rw [← hX.K]; exact PI_or (pi_list (pa X hX)) (pi_tup (pa X hX)), fun B F0 ρ items h F σ H R Q q => ?_⟩
  unfold sSq at h
  cases h1 : fa ρ with
  | none => rw [h1] at h; cases h
  | some d =>
    rw [h1] at h
    simp only [Option.bind_some] at h
    unfold dItems at h
    split at h
    · cases h
      refine .inl (va B F0 ρ _ h1 F σ H R _ fun x F2 H2 g r => ?_)
      rw [re_list] at r
      obtain ⟨p, vs, rfl, hp, rv, hl⟩ := r
      exact ⟨p, rfl, ⟨vs, SqL.of ((R.grow g).l.lst hp)⟩, q _ F2 H2 g (walk_list hp rv hl)⟩
    · cases h
      refine .inr (va B F0 ρ _ h1 F σ H R _ fun x F2 H2 g r => ?_)
      rw [re_tuple] at r
      obtain ⟨p, vs, rfl, hp, rv, hl⟩ := r
      exact ⟨p, rfl, ⟨vs, SqT.of ((R.grow g).l.tup hp)⟩, q _ F2 H2 g (walk_tup hp rv hl)⟩
    · cases h
theorem di_range {tg : Expr} {p : Pos} (hm : G.mg "range" = none) (hg : S.sc.names.lookup ("range" : Str) = some .globalImplicit) (ha : DE G S w a fa) (hs : ∀ env : Env, starEach [a] env = (false, eval a env) :: starEach [] env := by intro _; rfl) : DI G S w tg (.Call (.Name "range" p) [a] [] pos) (sRng fa) := by
  obtain ⟨ta, pa, va⟩ := ha
  refine ⟨iRng1 (tCons ta tNil), fun X hX => pi_range1 (by unfold Gl Env.kindOf; rw [hX.sc]; exact hg) (by rw [hX.mg]; exact hm) (pa_cons (pa X hX) pa_nil (hs _)) (hs _), fun B F0 ρ items h F σ H R Q q => ?_⟩
  unfold sRng at h
  cases h1 : fa ρ with
  | none => rw [h1] at h; cases h
  | some d =>
    rw [h1] at h
    simp only [Option.bind_some] at h
    unfold dRange at h
    split at h
    · split at h
      · cases h
        rename_i x1 x2 lo n e1 hc
        cases e1
        refine va B F0 ρ _ h1 F σ H R _ fun x F2 H2 g r => ⟨n, by rw [re_int.mp r], by omega, by omega, ?_⟩
        have hw := walk_rng (K := G.K) (F := F2) (lo := 0) (n := (n - 0).toNat) (show (n - 0).toNat ≤ 1000000 by omega)
        rw [Int.sub_zero] at q hw
        exact q _ F2 H2 g hw
      · cases h
    · cases h
theorem di_range2 {tg : Expr} {p : Pos} (hm : G.mg "range" = none) (hg : S.sc.names.lookup ("range" : Str) = some .globalImplicit) (ha : DE G S w a fa) (hb : DE G S w b fb) (hs : ∀ env : Env, starEach [a, b] env = (false, eval a env) :: starEach [b] env := by intro _; rfl)
    (hs2 : ∀ env : Env, starEach [b] env = (false, eval b env) :: starEach [] env := by intro _; rfl) : DI G S w tg (.Call (.Name "range" p) [a, b] [] pos) (sRng2 fa fb) := by
  obtain ⟨ta, pa, va⟩ := ha
  obtain ⟨tb, pb, vb⟩ := hb
  refine ⟨iRng2 (tCons ta (tCons tb tNil)), fun X hX => pi_range2 (by unfold Gl Env.kindOf; rw [hX.sc]; exact hg) (by rw [hX.mg]; exact hm) (pa_cons (pa X hX) (pa_cons (pb X hX) pa_nil (hs2 _)) (hs _)) ((hs _).trans (congrArg _ (hs2 _))) (hs2 _), fun B F0 ρ items h F σ H R Q q => ?_⟩
  unfold sRng2 at h
  cases h1 : fa ρ with
  | none => rw [h1] at h; cases h
  | some d =>
    rw [h1] at h
    simp only [Option.bind_some] at h
    cases h2 : fb ρ with
    | none => rw [h2] at h; cases h
    | some d2 =>
      rw [h2] at h
      simp only [Option.bind_some] at h
      unfold dRange at h
      split at h
      · split at h
        · cases h
          rename_i x1 x2 lo n hc
          refine va B F0 ρ _ h1 F σ H R _ fun x F2 H2 g r => vb B F0 ρ _ h2 F2 σ H2 (R.grow g) _ fun y F3 H3 g3 r3 => ?_
          refine ⟨lo, n, by rw [re_int.mp r, re_int.mp r3], ⟨by omega, by omega, by omega, by omega⟩, ?_⟩
          exact q _ F3 H3 (g.trans g3) (walk_rng (K := G.K) (F := F3) (lo := lo) (n := (n - lo).toNat) (show (n - lo).toNat ≤ 1000000 by omega))
        · cases h
      · cases h
theorem pair_new {K : PySem.W.Frag} {F H : Hp} {p : Addr} {v : V} {d : D} {i : Nat} (l : Ld F H) (h : H p = none) (r : Re K F v d) :
    ∃ F'', Grow F H F'' (upd H p (.tup [.int (i : Nat), v])) ∧ Re K F'' (.ref p) (.tuple [.int (i : Nat), d]) := by
  obtain ⟨g, rr⟩ := Grow.tup (K := K) (vs := [.int (i : Nat), v]) (ds := [.int (i : Nat), d]) l h (re_cons.mpr ⟨re_int.mpr rfl, re_cons.mpr ⟨r, re_nil⟩⟩) (show 2 ≤ big by decide)
  exact ⟨_, g, rr⟩
theorem walk_enuL {K : PySem.W.Frag} {F : Hp} {a : Addr} {vs : List V} {ds : List D} (h : F a = some (.lst vs)) (r : ReAll K F vs ds) (hl : ds.length ≤ big) : WalkD K (Ite K a) F (numbered 0 ds) where
  len := by rw [numbered_len]; exact hl
  go := fun i F' H' hi e l => by
    rw [numbered_len] at hi
    obtain ⟨v, h1, _⟩ := r.get (List.getElem?_eq_getElem hi)
    exact ⟨vs, v, SqL.of (l.lst (e _ _ h)), h1⟩
  yld := fun i F' H' x H'' d hd e l y => by
    obtain ⟨T, x', rfl, hT, rfl, y2⟩ := y
    rw [numbered_get] at hd
    cases q : ds[i]? with
    | none => rw [q] at hd; cases hd
    | some d' =>
      rw [q] at hd
      cases hd
      obtain ⟨v, h1, h2⟩ := r.get q
      have h3 := y2 vs (SqL.of (l.lst (e _ _ h)))
      rw [h1] at h3
      cases h3
      rw [Nat.zero_add]
      exact pair_new l hT (h2.m e)
  stop := fun F' H' e l => ⟨vs, SqL.of (l.lst (e _ _ h)), by rw [numbered_len, r.len]; exact Nat.le_refl _⟩
theorem walk_enuT {K : PySem.W.Frag} {F : Hp} {a : Addr} {vs : List V} {ds : List D} (h : F a = some (.tup vs)) (r : ReAll K F vs ds) (hl : ds.length ≤ big) : WalkD K (IteT K a) F (numbered 0 ds) where
  len := by rw [numbered_len]; exact hl
  go := fun i F' H' hi e l => by
    rw [numbered_len] at hi
    obtain ⟨v, h1, _⟩ := r.get (List.getElem?_eq_getElem hi)
    exact ⟨vs, v, SqT.of (l.tup (e _ _ h)), h1⟩
  yld := fun i F' H' x H'' d hd e l y => by
    obtain ⟨T, x', rfl, hT, rfl, y2⟩ := y
    rw [numbered_get] at hd
    cases q : ds[i]? with
    | none => rw [q] at hd; cases hd
    | some d' =>
      rw [q] at hd
      cases hd
      obtain ⟨v, h1, h2⟩ := r.get q
      have h3 := y2 vs (SqT.of (l.tup (e _ _ h)))
      rw [h1] at h3
      cases h3
      rw [Nat.zero_add]
      exact pair_new l hT (h2.m e)
  stop := fun F' H' e l => ⟨vs, SqT.of (l.tup (e _ _ h)), by rw [numbered_len]; exact r.len⟩
theorem di_enum {elts : List Expr} {kk : Nat} {tpos p : Pos} (hm : G.mg "enumerate" = none) (hg : S.sc.names.lookup ("enumerate" : Str) = some .globalImplicit) (ha : DE G S w a fa) (hs : ∀ env : Env, starEach [a] env = (false, eval a env) :: starEach [] env := by intro _; rfl) :
    DI G S w (.Tuple elts kk tpos) (.Call (.Name "enumerate" p) [a] [] pos) (sEnu fa) := by
  obtain ⟨ta, pa, va⟩ := ha
  refine ⟨fun σ H R => iEnum G.K (tCons ta tNil) σ H R ∨ iEnumT G.K (tCons ta tNil) σ H R, fun X hX => by
    rw [← hX.K]
    have h1 : Gl X "enumerate" := by unfold Gl Env.kindOf; rw [hX.sc]; exact hg
    have h2 : X.mg "enumerate" = none := by rw [hX.mg]; exact hm
    exact PI_or (pi_enum h1 h2 (pa_cons (pa X hX) pa_nil (hs _)) (hs _)) (pi_enumT h1 h2 (pa_cons (pa X hX) pa_nil (hs _)) (hs _)), fun B F0 ρ items h F σ H R Q q => ?_⟩
  unfold sEnu at h
  cases h1 : fa ρ with
  | none => rw [h1] at h; cases h
  | some d =>
    rw [h1] at h
    simp only [Option.bind_some] at h
    unfold dItems at h
    split at h
    · cases h
      refine .inl (va B F0 ρ _ h1 F σ H R _ fun x F2 H2 g r => ?_)
      rw [re_list] at r
      obtain ⟨p, vs, rfl, hp, rv, hl⟩ := r
      exact ⟨p, vs, rfl, SqL.of ((R.grow g).l.lst hp), q _ F2 H2 g (walk_enuL hp rv hl)⟩
    · cases h
      refine .inr (va B F0 ρ _ h1 F σ H R _ fun x F2 H2 g r => ?_)
      rw [re_tuple] at r
      obtain ⟨p, vs, rfl, hp, rv, hl⟩ := r
      exact ⟨p, vs, rfl, SqT.of ((R.grow g).l.tup hp), q _ F2 H2 g (walk_enuT hp rv hl)⟩
    · cases h

/-! ### comprehensions -/
def lcGo (t : Tgt) (test elt : XE) (ρ : Nv) : List D → Option (List D)
  | [] => some []
  | x :: xs => (t ρ x).bind fun ρ1 => (test ρ1).bind fun c => xIf c ((elt ρ1).bind fun y => (lcGo t test elt ρ xs).bind fun ys => some (y :: ys)) (lcGo t test elt ρ xs)
def xLc (src : XSrc) (t : Tgt) (vs : List Nat) (test elt : XE) : XE := fun ρ => (src ρ).bind fun items => (lcGo t test elt (wipeN ρ vs) items).bind fun ys => some (.list ys)
def xYes : XE := fun _ => some (.bool true)
theorem lcGo_len {t : Tgt} {test elt : XE} {ρ : Nv} : ∀ {items ys : List D}, lcGo t test elt ρ items = some ys → ys.length ≤ items.length
  | [], ys, h => by unfold lcGo at h; cases h; exact Nat.le_refl _
  | x :: xs, ys, h => by
    unfold lcGo at h
    cases h1 : t ρ x with
    | none => rw [h1] at h; cases h
    | some ρ1 =>
      rw [h1] at h
      simp only [Option.bind_some] at h
      cases h2 : test ρ1 with
      | none => rw [h2] at h; cases h
      | some c =>
        rw [h2] at h
        simp only [Option.bind_some] at h
        unfold xIf at h
        split at h
        · cases h3 : elt ρ1 with
          | none => rw [h3] at h; cases h
          | some y =>
            rw [h3] at h
            simp only [Option.bind_some] at h
            cases h4 : lcGo t test elt ρ xs with
            | none => rw [h4] at h; cases h
            | some zs =>
              rw [h4] at h
              cases h
              have := lcGo_len h4
              rw [List.length_cons, List.length_cons]; omega
        · have := lcGo_len h
          rw [List.length_cons]; omega
        · cases h
def PTsD (G : Wd) (S : Sta) (w : List Nat) (ifs : List Expr) (f : XE) : Prop := ∃ tt, (∀ X, In G S X → PTs X ifs tt) ∧ TvD G.K w tt f
theorem dts_nil : PTsD G S w [] xYes := ⟨tYes, fun X _ => pts_nil, fun B F0 ρ b h F σ H R Q q => by
  unfold xYes at h; cases h
  exact q F H (.refl R.l)⟩
theorem dts_one (h : DT G S w a fa) : PTsD G S w [a] fa := by
  obtain ⟨t, p, v⟩ := h
  exact ⟨t, fun X hX => pts_one (p X hX), v⟩
theorem evd_lc {K : PySem.W.Frag} {wi : TI} {src : XSrc} {g : TG} {t : Tgt} {vs : List Nat} {tt : TT} {te : TE} {test elt : XE} (idx : List Nat) (hidx : ∀ i ∈ idx, i ∈ vs) (hi : IvD K w wi src) (hg : GvD K w idx g t) (ht : TvD K w tt test) (he : EvD K w te elt) :
    EvD K w (tLc wi g tt te vs) (xLc src t vs test elt) := fun B F0 ρ z h F σ H R Q q => by
  unfold xLc at h
  cases h1 : src ρ with
  | none => rw [h1] at h; cases h
  | some items =>
    rw [h1] at h
    simp only [Option.bind_some] at h
    cases h2 : lcGo t test elt (wipeN ρ vs) items with
    | none => rw [h2] at h; cases h
    | some ys =>
      rw [h2] at h
      cases h
      refine hi B F0 ρ items h1 F σ H R _ fun J F1 H1 g1 wk => ?_
      have R1 := R.grow g1
      intro DD hD
      have hF1 : F1 DD = none := R1.l.none hD
      refine ⟨fun i m H' => m = items.length - i ∧ i ≤ items.length ∧ ∃ F' acc accD rest, Grow F1 H1 F' H' ∧ F' DD = none ∧ H' DD = some (.lst acc) ∧ ReAll K F' acc accD ∧ lcGo t test elt (wipeN ρ vs) (items.drop i) = some rest ∧ accD ++ rest = ys,
        ⟨items.length, by simp, Nat.zero_le _, F1, [], [], ys, ⟨Same.refl _, same_new hD, R1.l.post (same_new hD), fun _ _ _ _ => rfl⟩, hF1, upd_same, re_nil, by rw [List.drop_zero]; exact h2, rfl⟩, ?_⟩
      rintro i m H' ⟨rfl, hile, F', acc, accD, rest, g2, hFD, hHD, racc, hrest, hys⟩
      have R2 := R1.grow g2
      by_cases hlt : i < items.length
      · refine .inr ⟨wk.go i F' H' hlt g2.f g2.l, fun H'' => ∃ F'' acc accD rest, Grow F1 H1 F'' H'' ∧ F'' DD = none ∧ H'' DD = some (.lst acc) ∧ ReAll K F'' acc accD ∧ lcGo t test elt (wipeN ρ vs) (items.drop (i + 1)) = some rest ∧ accD ++ rest = ys,
          fun H'' hN => ⟨items.length - (i + 1), by omega, rfl, hlt, hN⟩, fun x H3 hy => ?_⟩
        have hd : items[i]? = some items[i] := List.getElem?_eq_getElem hlt
        obtain ⟨F3, g3, r3⟩ := wk.yld i F' H' x H3 _ hd g2.f g2.l hy
        have hcons : items.drop i = items[i] :: items.drop (i + 1) := (List.drop_eq_getElem_cons hlt)
        rw [hcons] at hrest
        unfold lcGo at hrest
        cases e1 : t (wipeN ρ vs) items[i] with
        | none => rw [e1] at hrest; cases hrest
        | some ρ1 =>
          rw [e1] at hrest
          simp only [Option.bind_some] at hrest
          cases e2 : test ρ1 with
          | none => rw [e2] at hrest; cases hrest
          | some c =>
            rw [e2] at hrest
            simp only [Option.bind_some] at hrest
            have hH3D : H3 DD = some (.lst acc) := g3.h _ _ hHD
            have hF3D : F3 DD = none := by rw [g3.n DD _ hHD (fun _ z => by cases z)]; exact hFD
            refine hg B F0 (wipeN ρ vs) _ ρ1 e1 F3 (wipe σ vs) H3 x ((R2.grow g3).wipe vs) r3 _ fun σ2 R3 hw2 => ⟨by rw [hw2 vs hidx, wipe_wipe], ?_⟩
            cases c with
            | bool cb =>
              refine ht B F0 ρ1 cb e2 F3 σ2 H3 R3 _ fun F4 H4 g4 => ?_
              have hH4D : H4 DD = some (.lst acc) := g4.h _ _ hH3D
              have hF4D : F4 DD = none := by rw [g4.n DD _ hH3D (fun _ z => by cases z)]; exact hF3D
              cases cb with
              | true =>
                simp only [xIf] at hrest
                refine iteT ?_
                cases e3 : elt ρ1 with
                | none => rw [e3] at hrest; cases hrest
                | some y =>
                  rw [e3] at hrest
                  simp only [Option.bind_some] at hrest
                  cases e4 : lcGo t test elt (wipeN ρ vs) (items.drop (i + 1)) with
                  | none => rw [e4] at hrest; cases hrest
                  | some zs =>
                    rw [e4] at hrest
                    cases hrest
                    refine he B F0 ρ1 y e3 F4 σ2 H4 (R3.grow g4) _ fun u F5 H5 g5 r5 => ?_
                    have hH5D : H5 DD = some (.lst acc) := g5.h _ _ hH4D
                    have hF5D : F5 DD = none := by rw [g5.n DD _ hH4D (fun _ z => by cases z)]; exact hF4D
                    have gT : Grow F1 H1 F5 H5 := ((g2.trans g3).trans g4).trans g5
                    have hacc : acc.length < sizeLine := by
                      rw [racc.len]
                      have a1 : (accD ++ (y :: zs)).length ≤ items.length := by rw [hys]; exact lcGo_len h2
                      rw [List.length_append] at a1
                      exact big_lt (Nat.le_trans (Nat.le_trans (Nat.le_add_right _ _) a1) wk.len)
                    refine ⟨acc, hH5D, hacc, F5, acc ++ [u], accD ++ [y], zs, ⟨gT.f, fun a o ha => ?_, fun a o ha => ?_, gT.n⟩, hF5D, upd_same, (racc.m ((g3.trans g4).trans g5).f).app (re_cons.mpr ⟨r5, re_nil⟩), rfl, by rw [List.append_assoc]; exact hys⟩
                    · rw [upd_ne (ne_of_none ha hD)]; exact gT.h a o ha
                    · rw [upd_ne (ne_of_none ha hF5D)]; exact gT.l a o ha
              | false =>
                simp only [xIf] at hrest
                refine iteF ?_
                exact ⟨F4, acc, accD, rest, (g2.trans g3).trans g4, hF4D, hH4D, racc.m (g3.trans g4).f, hrest, hys⟩
            | _ => simp [xIf] at hrest
      · have e : i = items.length := by omega
        subst e
        rw [List.drop_length] at hrest
        unfold lcGo at hrest
        cases hrest
        rw [List.append_nil] at hys
        subst hys
        refine .inl ⟨wk.stop F' H' g2.f g2.l, ?_⟩
        refine q (.ref DD) (upd F' DD (.lst acc)) H' (g1.trans ⟨g2.f.trans (same_new hFD), g2.h, fun a u ha => ?_, fun a o ha hn => ?_⟩) ?_
        · by_cases e : a = DD
          · subst e; rw [upd_same] at ha; cases ha; exact .inl hHD
          · rw [upd_ne e] at ha; exact g2.l a u ha
        · rw [upd_ne (ne_of_none ha hD)]; exact g2.n a o ha hn
        · rw [re_list]
          exact ⟨DD, acc, rfl, upd_same, racc.m (same_new hFD), Nat.le_trans (lcGo_len h2) wk.len⟩
theorem de_lc {elt tg iter : Expr} {ifs : List Expr} {scope : Scope} (own : List (Str × Nat)) {idx : List Nat} {src : XSrc} {t : Tgt} {test felt : XE} (hi : DI G S w tg iter src) (ok : BlkOk S.N S.sc scope own) (hidx : ∀ i ∈ idx, i ∈ own.map (·.2))
    (hg : DG G (S.blk scope) w idx tg t) (ht : PTsD G (S.blk scope) w ifs test) (he : DE G (S.blk scope) w elt felt) (hs : ∀ (env : Env) x, foldedSetIterable iter env x = pure x := by intro _ _; rfl) (hc : S.cm = true := by rfl) : DE G S w (.ListComp elt [⟨tg, iter, ifs, 0⟩] scope pos) (xLc src t (own.map (·.2)) test felt) := by
  obtain ⟨wi, pi, vi⟩ := hi
  obtain ⟨g, pg, vg⟩ := hg
  obtain ⟨tt, pt, vt⟩ := ht
  obtain ⟨te, pe, ve⟩ := he
  refine ⟨tLc wi g tt te (own.map (·.2)), fun X hX => pe_lc (hX.calm hc) (by rw [hX.N]; exact hX.nd) (pi X hX) (by rw [hX.N, hX.sc]; exact ok) (fun s H C cl fp => pg _ (hX.blk ok.kind s H C cl fp)) (fun s H C cl fp => pt _ (hX.blk ok.kind s H C cl fp)) (fun s H C cl fp => pe _ (hX.blk ok.kind s H C cl fp)) (hs _), evd_lc idx hidx vi vg vt ve⟩
end

/-! DL5: the data layer: statements, defs. -/

inductive Out where
  | nx (ρ : Nv) | rt (d : D) | bk (ρ : Nv) | ct (ρ : Nv) | ex (c : Str) (ρ : Nv) | rs (d : D) (ρ : Nv)
abbrev XS := Nv → Option Out
def Post (G : Wd) (B F0 : Hp) (w : List Nat) (F : Hp) (E : Ends) (W : WX) : Out → Prop
  | .nx ρ' => ∀ F' σ' H', Same F F' → Rel G.K B F0 w F' ρ' σ' H' → E.nx σ' H'
  | .bk ρ' => ∀ F' σ' H', Same F F' → Rel G.K B F0 w F' ρ' σ' H' → E.bk σ' H'
  | .ct ρ' => ∀ F' σ' H', Same F F' → Rel G.K B F0 w F' ρ' σ' H' → E.ct σ' H'
  | .rt d => ∀ v F' H', Grow F0 B F' H' → Re G.K F' v d → E.rt v H'
  | .ex c ρ' => ∀ F' σ' H', Same F F' → Rel G.K B F0 w F' ρ' σ' H' → W (cv G c) none σ' H'
  | .rs d ρ' => ∀ v F' σ' H', Same F F' → Rel G.K B F0 w F' ρ' σ' H' → Re G.K F' v d → E.rt v H'
theorem Post.mono {G : Wd} {B F0 : Hp} {w : List Nat} {F F1 : Hp} {E : Ends} {W : WX} (e : Same F F1) : ∀ {o : Out}, Post G B F0 w F E W o → Post G B F0 w F1 E W o
  | .nx _, h => fun F' σ' H' s R => h F' σ' H' (e.trans s) R
  | .bk _, h => fun F' σ' H' s R => h F' σ' H' (e.trans s) R
  | .ct _, h => fun F' σ' H' s R => h F' σ' H' (e.trans s) R
  | .rt _, h => h
  | .ex _ _, h => fun F' σ' H' s R => h F' σ' H' (e.trans s) R
  | .rs _ _, h => fun v F' σ' H' s R => h v F' σ' H' (e.trans s) R
def SvD (G : Wd) (w : List Nat) (W : WX) (ts : TS) (s : XS) : Prop := ∀ B F0 ρ o, s ρ = some o → ∀ F σ H, Rel G.K B F0 w F ρ σ H → ∀ E : Ends, Post G B F0 w F E W o → ts E σ H
def DS (G : Wd) (S : Sta) (w : List Nat) (st : Stmt) (s : XS) : Prop := ∃ ts : WX → TS, (∀ X W, In G S X → L2N.Takes X W → PS X st (ts W)) ∧ ∀ W, SvD G w W (ts W) s
def DSs (G : Wd) (S : Sta) (w : List Nat) (st : List Stmt) (s : XS) : Prop := ∃ ts : WX → TS, (∀ X W, In G S X → L2N.Takes X W → PSs X st (ts W)) ∧ ∀ W, SvD G w W (ts W) s

theorem takesN0 {X : Cx} : L2N.Takes X (fun _ _ _ _ => False) := fun _ _ ⟨_, _, _, _, _, _, _, _, _, _, _, _, _, _, _, _, z⟩ => z.elim
def sNext : XS := fun ρ => some (.nx ρ)
def thn2 (o : Out) (t : XS) : Option Out := match o with
  | .nx ρ => t ρ
  | o => some o
def sSeq (s t : XS) : XS := fun ρ => (s ρ).bind fun o => thn2 o t
def sRet (f : XE) : XS := fun ρ => (f ρ).bind fun d => some (.rt d)
def sRetN : XS := fun _ => some (.rt .none)
def sAsg (t : Tgt) (f : XE) : XS := fun ρ => (f ρ).bind fun d => (t ρ d).bind fun ρ' => some (.nx ρ')
def sIf (f : XE) (s t : XS) : XS := fun ρ => (f ρ).bind fun c => xIf c (s ρ) (t ρ)
def sBreak : XS := fun ρ => some (.bk ρ)
def sCont : XS := fun ρ => some (.ct ρ)
def forNx (k : Nv → Option Out) : Out → Option Out
  | .nx ρ => k ρ
  | .ct ρ => k ρ
  | .bk ρ => some (.nx ρ)
  | .rt d => some (.rt d)
  | .ex c ρ => some (.ex c ρ)
  | .rs _ _ => none
def forGo (t : Tgt) (body : XS) : List D → Nv → Option Out
  | [], ρ => some (.nx ρ)
  | x :: xs, ρ => (t ρ x).bind fun ρ1 => (body ρ1).bind fun o => forNx (forGo t body xs) o
def sFor (src : XSrc) (t : Tgt) (body : XS) : XS := fun ρ => (src ρ).bind fun items => forGo t body items ρ
def whileGo (c : XE) (body : XS) : Nat → Nv → Option Out
  | 0, _ => none
  | n + 1, ρ => (c ρ).bind fun b => xIf b ((body ρ).bind fun o => forNx (whileGo c body n) o) (some (.nx ρ))
def sWhile (n : Nat) (c : XE) (body : XS) : XS := whileGo c body n
/-! own slots -/
def sOwn (i : Nat) (fs : List XE) : XS := fun ρ => (xArgs fs ρ).bind fun ds => some (.nx (ρ.set i (some (.list ds))))
def appD (d : D) : D → Option D
  | .list ds => if ds.length < big then some (.list (ds ++ [d])) else none
  | _ => none
def sApp (i : Nat) (f : XE) : XS := fun ρ => (f ρ).bind fun d => (xVar i ρ).bind fun l => (appD d l).bind fun l' => some (.nx (ρ.set i (some l')))
def extD : D → D → Option D
  | .list es, .list ds => if ds.length + es.length ≤ big then some (.list (ds ++ es)) else none
  | _, _ => none
def sExt (i : Nat) (f : XE) : XS := fun ρ => (f ρ).bind fun d => (xVar i ρ).bind fun l => (extD d l).bind fun l' => some (.nx (ρ.set i (some l')))
def sMove (j i : Nat) : XS := fun ρ => (xVar i ρ).bind fun l => match l with
  | .list ds => some (.nx ((ρ.set i none).set j (some (.list ds))))
  | _ => none
def sRetOwn (i : Nat) : XS := fun ρ => (xVar i ρ).bind fun l => match l with
  | .list ds => some (.rt (.list ds))
  | _ => none
section
variable {G : Wd} {S : Sta} {w : List Nat} {e a b c : Expr} {es : List Expr} {f fa fb fc : XE} {fs : List XE} {pos : Pos} {st : Stmt} {sts : List Stmt} {s t u : XS}
theorem bindS {α β : Type} {o : Option α} {k : α → Option β} {b : β} (h : o.bind k = some b) : ∃ a, o = some a ∧ k a = some b := by
  cases o with
  | none => cases h
  | some a => exact ⟨a, rfl, h⟩
theorem dss_nil : DSs G S w [] sNext := ⟨fun _ => tNext, fun X W _ _ => pss_nil, fun W B F0 ρ o h F σ H R E p => by
  unfold sNext at h; cases h
  exact p F σ H (Same.refl _) R⟩
theorem dss_one (h : DS G S w st s) : DSs G S w [st] s := by
  obtain ⟨ts, p, v⟩ := h
  exact ⟨ts, fun X W hX tk => pss_one (p X W hX tk), v⟩
theorem dss_cons (h1 : DS G S w st s) (h2 : DSs G S w sts t) : DSs G S w (st :: sts) (sSeq s t) := by
  obtain ⟨ts, p, v⟩ := h1
  obtain ⟨tu, pu, vu⟩ := h2
  refine ⟨fun W => tSeq (ts W) (tu W), fun X W hX tk => pss_cons (p X W hX tk) (pu X W hX tk), fun W B F0 ρ o h F σ H R E pp => ?_⟩
  unfold sSeq at h
  obtain ⟨o1, h1, h2⟩ := bindS h
  refine v W B F0 ρ o1 h1 F σ H R { E with nx := tu W E } ?_
  cases o1 with
  | nx ρ' => exact fun F' σ' H' e' R' => vu W B F0 ρ' o h2 F' σ' H' R' E (pp.mono e')
  | rt d => cases h2; exact pp
  | bk ρ' => cases h2; exact pp
  | ct ρ' => cases h2; exact pp
  | ex c ρ' => cases h2; exact pp
  | rs d ρ' => cases h2; exact pp
theorem ds_ret (h : DE G S w e f) : DS G S w (.Return (some e) pos) (sRet f) := by
  obtain ⟨te, p, v⟩ := h
  refine ⟨fun _ => tRet te, fun X W hX _ => ps_ret (p X hX), fun W B F0 ρ o h F σ H R E pp => ?_⟩
  unfold sRet at h
  obtain ⟨d, h1, h2⟩ := bindS h
  cases h2
  exact v B F0 ρ d h1 F σ H R _ fun x F2 H2 g r => pp x F2 H2 (R.g.trans g) r
theorem ds_retN : DS G S w (.Return none pos) sRetN := ⟨fun _ => tRetN, fun X W hX _ => ps_retN, fun W B F0 ρ o h F σ H R E pp => by
  unfold sRetN at h; cases h
  exact pp _ F H R.g (re_none.mpr rfl)⟩
theorem ds_asg {tg : Expr} {idx : List Nat} {tt : Tgt} (h : DE G S w e f) (hg : DG G S w idx tg tt) (hs : ∀ env : Env, swapsWithSole [tg] e pos.line env = pure false := by intro _; rfl) (hw : ∀ env : Env, swappedStores [tg] e env = pure none := by intro _; rfl)
    (h1 : ∀ env : Env, (assignEach [tg] env).map (·.2) = [assign tg env] := by intro _; rfl) : DS G S w (.Assign [tg] e pos) (sAsg tt f) := by
  obtain ⟨te, p, v⟩ := h
  obtain ⟨g, pg, vg⟩ := hg
  refine ⟨fun _ => tAsg te g, fun X W hX _ => ps_asg (p X hX) (pg X hX) (hs _) (hw _) (h1 _), fun W B F0 ρ o h F σ H R E pp => ?_⟩
  unfold sAsg at h
  obtain ⟨d, h1, h2⟩ := bindS h
  obtain ⟨ρ', h3, h4⟩ := bindS h2
  cases h4
  exact v B F0 ρ d h1 F σ H R _ fun x F2 H2 g2 r => vg B F0 ρ d ρ' h3 F2 σ H2 x (R.grow g2) r _ fun σ' R' _ => pp F2 σ' H2 g2.f R'
/-- y = [..] on one line, y a plain local -/
theorem ds_setLc {y : Str} {i : Nat} {py spos : Pos} {elt tg iter : Expr} {ifs : List Expr} {scope : Scope} (own : List (Str × Nat)) {idx : List Nat} {src : XSrc} {tt : Tgt} {test felt : XE} (hy : S.N[i]? = some y) (hyl : S.sc.names.lookup y = some .local) (hyw : i ∉ w)
    (hl : (py.line == pos.line) = true) (hany : (scope.names.any fun (n, k) => n == y && (k == .local || k == .cell)) = false) (hi : DI G S w tg iter src) (ok : BlkOk S.N S.sc scope own) (hidx : ∀ i ∈ idx, i ∈ own.map (·.2))
    (hg : DG G (S.blk scope) w idx tg tt) (ht : PTsD G (S.blk scope) w ifs test) (he : DE G (S.blk scope) w elt felt) (hs : ∀ (env : Env) x, foldedSetIterable iter env x = pure x := by intro _ _; rfl) (hc : S.cm = true := by rfl) :
    DS G S w (.Assign [.Name y py] (.ListComp elt [⟨tg, iter, ifs, 0⟩] scope pos) spos) (sAsg (tN i) (xLc src tt (own.map (·.2)) test felt)) := by
  obtain ⟨wi, pi, vi⟩ := hi
  obtain ⟨g, pg, vg⟩ := hg
  obtain ⟨tt', pt, vt⟩ := ht
  obtain ⟨te, pe, ve⟩ := he
  refine ⟨fun _ => tAsg (tLc wi g tt' te (own.map (·.2))) (gName i), fun X W hX _ => ps_setLc (hX.calm hc) (by rw [hX.N]; exact hX.nd) (by rw [hX.N]; exact hy) (by rw [hX.sc]; exact hyl)
    (sw_true (by rw [hX.sc]; exact hX.kind) (by rw [hX.sc]; exact hyl) hl hany) (pi X hX) (by rw [hX.N, hX.sc]; exact ok) (fun s H C cl fp => pg _ (hX.blk ok.kind s H C cl fp)) (fun s H C cl fp => pt _ (hX.blk ok.kind s H C cl fp)) (fun s H C cl fp => pe _ (hX.blk ok.kind s H C cl fp)) (hs _), fun W B F0 ρ o h F σ H R E pp => ?_⟩
  unfold sAsg at h
  obtain ⟨d, h1, h2⟩ := bindS h
  unfold tN at h2
  cases h2
  exact evd_lc idx hidx vi vg vt ve B F0 ρ d h1 F σ H R _ fun x F2 H2 g2 r => pp F2 _ H2 g2.f ((R.grow g2).set hyw r)
/-- a comprehension stored to a name that is captured somewhere -/
theorem sw_false {elt : Expr} {gs : List Comprehension} {scope : Scope} {pos py : Pos} {y : Str} {l : Nat} {env : Env} (hy : env.scope.names.lookup y = some .cell) : swapsWithSole [.Name y py] (.ListComp elt gs scope pos) l env = pure false := by
  have ky : env.kindOf y = some .cell := hy
  show swapsWith (.ListComp elt gs scope pos) (some (.Name y py)) l env = pure false
  unfold swapsWith
  simp only [ky]
  show pure _ = pure false
  congr 1
  cases (env.blockKind == ScopeKind.function) <;> rfl
theorem ds_cellLc {y : Str} {i : Nat} {py spos : Pos} {elt : Expr} {gs : List Comprehension} {scope : Scope} (hy : S.N[i]? = some y) (hyl : S.sc.names.lookup y = some .cell) (hyw : i ∉ w) (hf : S.fn y = true) (h : DE G S w (.ListComp elt gs scope pos) f) :
    DS G S w (.Assign [.Name y py] (.ListComp elt gs scope pos) spos) (sAsg (tN i) f) := by
  obtain ⟨te, p, v⟩ := h
  refine ⟨fun _ => tAsg te (gName i), fun X W hX _ => ps_asg (p X hX) (pg_name (by rw [hX.N]; exact hX.nd) (by rw [hX.N]; exact hy) (by rw [hX.sc]; exact .inr hyl) (by rw [hX.fn]; exact .inl hf)) (sw_false (by rw [hX.sc]; exact hyl)) rfl, fun W B F0 ρ o h F σ H R E pp => ?_⟩
  unfold sAsg at h
  obtain ⟨d, h1, h2⟩ := bindS h
  unfold tN at h2
  cases h2
  exact v B F0 ρ d h1 F σ H R _ fun x F2 H2 g2 r => pp F2 _ H2 g2.f ((R.grow g2).set hyw r)
theorem ds_if {p q : List Stmt} (hc : DT G S w c fc) (h1 : DSs G S w p s) (h2 : DSs G S w q t) : DS G S w (.If c p q pos) (sIf fc s t) := by
  obtain ⟨tc, pc, vc⟩ := hc
  obtain ⟨ts, ps, vs⟩ := h1
  obtain ⟨tu, pu, vu⟩ := h2
  refine ⟨fun W => tIfS tc (ts W) (tu W), fun X W hX tk => ps_if (pc X hX) (ps X W hX tk) (pu X W hX tk), fun W B F0 ρ o h F σ H R E pp => ?_⟩
  unfold sIf at h
  obtain ⟨d, h1, h2⟩ := bindS h
  unfold xIf at h2
  split at h2
  · exact vc B F0 ρ true h1 F σ H R _ fun F2 H2 g => iteT (vs W B F0 ρ o h2 F2 σ H2 (R.grow g) E (pp.mono g.f))
  · exact vc B F0 ρ false h1 F σ H R _ fun F2 H2 g => iteF (vu W B F0 ρ o h2 F2 σ H2 (R.grow g) E (pp.mono g.f))
  · cases h2
theorem ds_break : DS G S w (.Break pos) sBreak := ⟨fun _ => tBreak, fun X W hX _ => ps_break, fun W B F0 ρ o h F σ H R E pp => by
  unfold sBreak at h; cases h
  exact pp F σ H (Same.refl _) R⟩
theorem ds_continue : DS G S w (.Continue pos) sCont := ⟨fun _ => tCont, fun X W hX _ => ps_continue, fun W B F0 ρ o h F σ H R E pp => by
  unfold sCont at h; cases h
  exact pp F σ H (Same.refl _) R⟩
theorem ds_pass : DS G S w (.Pass pos) sNext := ⟨fun _ => tNext, fun X W hX _ => ps_pass, fun W B F0 ρ o h F σ H R E pp => by
  unfold sNext at h; cases h
  exact pp F σ H (Same.refl _) R⟩
theorem svd_for {wi : TI} {g : TG} {tb : TS} {src : XSrc} {tt : Tgt} {idx : List Nat} {W : WX} (vi : IvD G.K w wi src) (vg : GvD G.K w idx g tt) (vb : SvD G w W tb s) : SvD G w W (tFor wi g tb) (sFor src tt s) := fun B F0 ρ o h F σ H R E pp => by
  unfold sFor at h
  obtain ⟨items, h1, h2⟩ := bindS h
  refine vi B F0 ρ items h1 F σ H R _ fun J F1 H1 g1 wk => ?_
  have R1 := R.grow g1
  refine ⟨fun i m σ' H' => m = items.length - i ∧ i ≤ items.length ∧ ∃ F' ρ', Same F1 F' ∧ Rel G.K B F0 w F' ρ' σ' H' ∧ forGo tt s (items.drop i) ρ' = some o,
    ⟨items.length, by simp, Nat.zero_le _, F1, ρ, Same.refl _, R1, by rw [List.drop_zero]; exact h2⟩, ?_⟩
  rintro i m σ' H' ⟨rfl, hile, F', ρ', e', R', hgo⟩
  by_cases hlt : i < items.length
  · refine .inr ⟨wk.go i F' H' hlt e' R'.l, fun σ'' H'' => ∃ F' ρ', Same F1 F' ∧ Rel G.K B F0 w F' ρ' σ'' H'' ∧ forGo tt s (items.drop (i + 1)) ρ' = some o,
      fun σ'' H'' hN => ⟨items.length - (i + 1), by omega, rfl, hlt, hN⟩, fun x H3 hy => ?_⟩
    have hd : items[i]? = some items[i] := List.getElem?_eq_getElem hlt
    obtain ⟨F3, g3, r3⟩ := wk.yld i F' H' x H3 _ hd e' R'.l hy
    have hcons : items.drop i = items[i] :: items.drop (i + 1) := List.drop_eq_getElem_cons hlt
    rw [hcons] at hgo
    unfold forGo at hgo
    obtain ⟨ρ1, e1, hgo⟩ := bindS hgo
    obtain ⟨o1, e2, hgo⟩ := bindS hgo
    refine vg B F0 ρ' _ ρ1 e1 F3 σ' H3 x (R'.grow g3) r3 _ fun σ2 R3 _ => ?_
    refine vb B F0 ρ1 o1 e2 F3 σ2 H3 R3 _ ?_
    have e3 : Same F1 F3 := e'.trans g3.f
    cases o1 with
    | nx ρ2 => exact fun F4 σ4 H4 e4 R4 => ⟨F4, ρ2, e3.trans e4, R4, hgo⟩
    | ct ρ2 => exact fun F4 σ4 H4 e4 R4 => ⟨F4, ρ2, e3.trans e4, R4, hgo⟩
    | bk ρ2 => cases hgo; exact fun F4 σ4 H4 e4 R4 => pp F4 σ4 H4 (g1.f.trans (e3.trans e4)) R4
    | rt d => cases hgo; exact pp
    | ex c ρ2 => cases hgo; exact fun F4 σ4 H4 e4 R4 => pp F4 σ4 H4 (g1.f.trans (e3.trans e4)) R4
    | rs d ρ2 => cases hgo
  · have e : i = items.length := by omega
    subst e
    rw [List.drop_length] at hgo
    unfold forGo at hgo
    cases hgo
    exact .inl ⟨wk.stop F' H' e' R'.l, pp F' σ' H' (g1.f.trans e') R'⟩
theorem ds_for {tg iter : Expr} {body : List Stmt} {src : XSrc} {tt : Tgt} {idx : List Nat} (hi : DI G S w tg iter src) (hg : DG G S w idx tg tt) (hb : DSs G S w body s) (hs : ∀ (env : Env) x, foldedSetIterable iter env x = pure x := by intro _ _; rfl) (hc : S.cm = true := by rfl) : DS G S w (.For tg iter body [] pos) (sFor src tt s) := by
  obtain ⟨wi, pi, vi⟩ := hi
  obtain ⟨g, pg, vg⟩ := hg
  obtain ⟨tb, pb, vb⟩ := hb
  exact ⟨fun W => tFor wi g (tb W), fun X W hX tk => ps_for hX.po (hX.calm hc) (pi X hX) (pg X hX) (pb X W hX tk) (hs _), fun W => svd_for vi vg (vb W)⟩
theorem ds_while {body : List Stmt} (n : Nat) (hc : DT G S w c fc) (hb : DSs G S w body s) : DS G S w (.While c body [] pos) (sWhile n fc s) := by
  obtain ⟨tc, pc, vc⟩ := hc
  obtain ⟨tb, pb, vb⟩ := hb
  refine ⟨fun W => tWhile tc (tb W), fun X W hX tk => ps_while hX.po (pc X hX) (pb X W hX tk), fun W B F0 ρ o h F σ H R E pp => ?_⟩
  unfold sWhile at h
  refine ⟨fun m σ' H' => ∃ F' ρ', Same F F' ∧ Rel G.K B F0 w F' ρ' σ' H' ∧ whileGo fc s m ρ' = some o, ⟨n, F, ρ, Same.refl _, R, h⟩, ?_⟩
  rintro m σ' H' ⟨F', ρ', e', R', hgo⟩
  cases m with
  | zero => unfold whileGo at hgo; cases hgo
  | succ m =>
    unfold whileGo at hgo
    obtain ⟨d, e1, hgo⟩ := bindS hgo
    unfold xIf at hgo
    split at hgo
    · refine vc B F0 ρ' true e1 F' σ' H' R' _ fun F2 H2 g => iteT ?_
      obtain ⟨o1, e2, hgo⟩ := bindS hgo
      refine ⟨fun σ'' H'' => ∃ F' ρ', Same F F' ∧ Rel G.K B F0 w F' ρ' σ'' H'' ∧ whileGo fc s m ρ' = some o, fun σ'' H'' hN => ⟨m, Nat.lt_succ_self _, hN⟩, ?_⟩
      refine vb W B F0 ρ' o1 e2 F2 σ' H2 (R'.grow g) _ ?_
      have e3 : Same F F2 := e'.trans g.f
      cases o1 with
      | nx ρ2 => exact fun F4 σ4 H4 e4 R4 => ⟨F4, ρ2, e3.trans e4, R4, hgo⟩
      | ct ρ2 => exact fun F4 σ4 H4 e4 R4 => ⟨F4, ρ2, e3.trans e4, R4, hgo⟩
      | bk ρ2 => cases hgo; exact fun F4 σ4 H4 e4 R4 => pp F4 σ4 H4 (e3.trans e4) R4
      | rt d => cases hgo; exact pp
      | ex c ρ2 => cases hgo; exact fun F4 σ4 H4 e4 R4 => pp F4 σ4 H4 (e3.trans e4) R4
      | rs d ρ2 => cases hgo
    · cases hgo
      refine vc B F0 ρ' false e1 F' σ' H' R' _ fun F2 H2 g => iteF ?_
      exact pp F2 σ' H2 (e'.trans g.f) (R'.grow g)
    · cases hgo

/-! ### own slots -/
theorem xVar_some {i : Nat} {ρ : Nv} {d : D} (h : xVar i ρ = some d) : ρ[i]? = some (some d) := by
  unfold xVar at h
  cases e : ρ[i]? with
  | none => rw [e] at h; cases h
  | some o => rw [e] at h; exact congrArg some h
/-- an own slot is stored to: what stands at p now -/
theorem Rel.own_set {K : PySem.W.Frag} {B F0 F H : Hp} {w : List Nat} {ρ : Nv} {σ : L2.St} (R : Rel K B F0 w F ρ σ H) {i : Nat} (hi : i ∈ w) {p : Addr} {o : HO} {d : D} (hp : B p = none) (hF : F p = none) (ho : OwnO K F o d)
    (hσ : i < σ.length → σ[i]? = some (some (.ref p))) (hne : ∀ j ∈ w, j ≠ i → (∃ d, ρ[j]? = some (some d)) → σ[j]? ≠ some (some (.ref p))) : Rel K B F0 w F (ρ.set i (some d)) σ (upd H p o) where
  g := ⟨R.g.f, fun a u ha => by rw [upd_ne (ne_of_none ha hp)]; exact R.g.h a u ha, fun a u ha => by rw [upd_ne (ne_of_none ha hF)]; exact R.g.l a u ha, R.g.n⟩
  len := by rw [List.length_set]; exact R.len
  val := fun j d' hj e => by
    rw [List.getElem?_set_ne (fun z : i = j => hj (z ▸ hi))] at e
    exact R.val j d' hj e
  own := fun j d' hj e => by
    by_cases h : i = j
    · subst h
      have hl : i < ρ.length := by
        have := (List.getElem?_eq_some_iff.mp e).1
        rwa [List.length_set] at this
      rw [List.getElem?_set_self hl] at e
      cases e
      exact ⟨p, o, hσ (by rw [← R.len]; exact hl), hp, hF, upd_same, ho⟩
    · rw [List.getElem?_set_ne h] at e
      obtain ⟨q, o', h1, h2, h3, h4, h5⟩ := R.own j d' hj e
      refine ⟨q, o', h1, h2, h3, ?_, h5⟩
      rw [upd_ne]
      · exact h4
      · rintro rfl
        exact hne j hj (fun z => h z.symm) ⟨d', e⟩ h1
  sep := fun j k q hj hk hn ⟨d1, e1⟩ ⟨d2, e2⟩ s1 s2 => by
    by_cases h : i = j
    · subst h
      have hl : i < σ.length := (List.getElem?_eq_some_iff.mp s1).1
      rw [hσ hl] at s1
      cases s1
      rw [List.getElem?_set_ne hn] at e2
      exact hne k hk (fun z => hn z.symm) ⟨d2, e2⟩ s2
    · rw [List.getElem?_set_ne h] at e1
      by_cases h' : i = k
      · subst h'
        have hl : i < σ.length := (List.getElem?_eq_some_iff.mp s2).1
        rw [hσ hl] at s2
        cases s2
        exact hne j hj hn ⟨d1, e1⟩ s1
      · rw [List.getElem?_set_ne h'] at e2
        exact R.sep j k q hj hk hn ⟨d1, e1⟩ ⟨d2, e2⟩ s1 s2
/-- the slot itself is stored to first: a new object's reference -/
theorem Rel.own_new {K : PySem.W.Frag} {B F0 F H : Hp} {w : List Nat} {ρ : Nv} {σ : L2.St} (R : Rel K B F0 w F ρ σ H) {i : Nat} (hi : i ∈ w) {p : Addr} {o : HO} {d : D} (hp : H p = none) (ho : OwnO K F o d) :
    Rel K B F0 w F (ρ.set i (some d)) (σ.set i (some (.ref p))) (upd H p o) := by
  have hB : B p = none := R.g.h.free hp
  have hF : F p = none := R.l.none hp
  have R0 : Rel K B F0 w F (ρ.set i none) (σ.set i (some (.ref p))) H := by
    refine ⟨R.g, by rw [List.length_set, List.length_set]; exact R.len, fun j d' hj e => ?_, fun j d' hj e => ?_, fun j k q hj hk hn ⟨d1, e1⟩ ⟨d2, e2⟩ => ?_⟩
    · have h : i ≠ j := fun z => hj (z ▸ hi)
      rw [List.getElem?_set_ne h] at e ⊢
      exact R.val j d' hj e
    · by_cases h : i = j
      · subst h
        have hl : i < ρ.length := by
          have := (List.getElem?_eq_some_iff.mp e).1
          rwa [List.length_set] at this
        rw [List.getElem?_set_self hl] at e
        cases e
      · rw [List.getElem?_set_ne h] at e ⊢
        exact R.own j d' hj e
    · have hl : ∀ (j : Nat) (d' : D), (ρ.set i none)[j]? = some (some d') → i ≠ j := fun j d' e h => by
        subst h
        have hl : i < ρ.length := by
          have := (List.getElem?_eq_some_iff.mp e).1
          rwa [List.length_set] at this
        rw [List.getElem?_set_self hl] at e
        cases e
      have n1 := hl j d1 e1
      have n2 := hl k d2 e2
      rw [List.getElem?_set_ne n1] at e1
      rw [List.getElem?_set_ne n2] at e2
      rw [List.getElem?_set_ne n1, List.getElem?_set_ne n2]
      exact R.sep j k q hj hk hn ⟨d1, e1⟩ ⟨d2, e2⟩
  have h := R0.own_set hi hB hF ho (fun hl => by rw [List.length_set] at hl; exact List.getElem?_set_self hl) (fun j hj hn ⟨d', e⟩ s1 => by
    obtain ⟨q, o', h1, _, _, h4, _⟩ := R0.own j d' hj e
    rw [h1] at s1
    cases s1
    rw [hp] at h4
    cases h4)
  rw [List.set_set] at h
  exact h
theorem ds_own {i : Nat} {x : Str} {px lp : Pos} (hi : S.N[i]? = some x) (hx : Loc S.sc x) (hf : S.fn x = true ∨ S.sc.names.lookup x = some .local) (hw : i ∈ w) (ha : DA G S w es fs) (hl : fs.length ≤ 1000 := by decide) : DS G S w (.Assign [.Name x px] (.List es lp) pos) (sOwn i fs) := by
  obtain ⟨ta, pa, va⟩ := ha
  refine ⟨fun _ => tAsg (tLst ta) (gName i), fun X W hX _ => ps_asg (pe_lst (pa X hX)) (pg_name (by rw [hX.N]; exact hX.nd) (by rw [hX.N]; exact hi) (by rw [hX.sc]; exact hx) (by rw [hX.sc, hX.fn]; exact hf)) rfl rfl, fun W B F0 ρ o h F σ H R E pp => ?_⟩
  unfold sOwn at h
  obtain ⟨ds, h1, h2⟩ := bindS h
  cases h2
  have hz : ds.length ≤ big := by rw [xArgs_len h1]; exact Nat.le_trans hl (by decide)
  refine va B F0 ρ ds h1 F σ H R _ fun vs F2 H2 g2 r2 => ⟨by rw [r2.len]; exact big_le hz, fun p hp => ?_⟩
  exact pp F2 _ _ g2.f ((R.grow g2).own_new hw hp ⟨vs, rfl, r2, hz⟩)
theorem ds_app {i : Nat} {x : Str} {px apos cpos : Pos} (hi : S.N[i]? = some x) (hv : Vis S.sc x) (hw : i ∈ w) (ha : DE G S w e f) (hd : (x == ("__debug__" : Str)) = false := by decide) (hcd : (x == ("__classdict__" : Str)) = false := by decide)
    (hfew : ∀ env : Env, ((backTo cpos (starEach [e] env)).all (fun x => !x.1) && (backToKw cpos (keywordEach [] env)).all (fun x => x.1.isSome) && decide (([e] : List Expr).length + ([] : List Keyword).length + (if ([] : List Keyword).isEmpty then 0 else 1) < 30)) = true := by intro _; rfl)
    (hline : (apos.endLine == cpos.line) = true := by rfl) (hs : ∀ env : Env, starEach [e] env = (false, eval e env) :: starEach [] env := by intro _; rfl) : DS G S w (.Expr (.Call (.Attribute (.Name x px) "append" apos) [e] [] cpos) pos) (sApp i f) := by
  obtain ⟨te, p, v⟩ := ha
  refine ⟨fun _ => tDrop (tBM G.K "list" rAppend (tVar i) (tCons te tNil)), fun X W hX _ => ?_, fun W B F0 ρ o h F σ H R E pp => ?_⟩
  · rw [← hX.K]
    exact ps_expr (pe_bm PySem.F.plainAttrs_list PySem.F.slot_list_append PySem.F.type_list_append mt_append (pe_var (by rw [hX.N]; exact hi) (by rw [hX.sc]; exact hv) hd hcd) (pa_cons (p X hX) pa_nil (hs _)) rfl (hfew _) hline (hs _) rfl) rfl
  · unfold sApp at h
    obtain ⟨d, h1, h2⟩ := bindS h
    obtain ⟨l, h3, h4⟩ := bindS h2
    obtain ⟨l', h5, h6⟩ := bindS h4
    cases h6
    have e3 := xVar_some h3
    obtain ⟨q, ob, s1, s2, s3, s4, s5⟩ := R.own i l hw e3
    unfold appD at h5
    split at h5
    · split at h5
      · rename_i ds hlt
        cases h5
        obtain ⟨vs, rfl, rv, hlen⟩ := s5
        refine ⟨.ref q, s1, .inl ⟨rfl, vs, SqL.of s4⟩, v B F0 ρ d h1 F σ H R _ fun u F2 H2 g2 r2 => ?_⟩
        have R2 := R.grow g2
        obtain ⟨q', ob', t1, t2, t3, t4, t5⟩ := R2.own i (.list ds) hw e3
        rw [s1] at t1
        cases t1
        refine ⟨q, vs, u, rfl, rfl, g2.h _ _ s4, by rw [rv.len]; exact big_lt (Nat.le_of_lt hlt), ?_⟩
        refine pp F2 _ _ g2.f (R2.own_set hw t2 t3 ⟨vs ++ [u], rfl, (rv.m g2.f).app (re_cons.mpr ⟨r2, re_nil⟩), by rw [List.length_append]; exact hlt⟩ (fun _ => s1) fun j hj hn ⟨dj, ej⟩ sj => ?_)
        exact R2.sep j i q hj hw hn ⟨dj, ej⟩ ⟨_, e3⟩ sj s1
      · cases h5
    · cases h5
theorem ds_ext {i : Nat} {x : Str} {px apos cpos : Pos} (hi : S.N[i]? = some x) (hv : Vis S.sc x) (hw : i ∈ w) (ha : DE G S w e f) (hd : (x == ("__debug__" : Str)) = false := by decide) (hcd : (x == ("__classdict__" : Str)) = false := by decide)
    (hfew : ∀ env : Env, ((backTo cpos (starEach [e] env)).all (fun x => !x.1) && (backToKw cpos (keywordEach [] env)).all (fun x => x.1.isSome) && decide (([e] : List Expr).length + ([] : List Keyword).length + (if ([] : List Keyword).isEmpty then 0 else 1) < 30)) = true := by intro _; rfl)
    (hline : (apos.endLine == cpos.line) = true := by rfl) (hs : ∀ env : Env, starEach [e] env = (false, eval e env) :: starEach [] env := by intro _; rfl) : DS G S w (.Expr (.Call (.Attribute (.Name x px) "extend" apos) [e] [] cpos) pos) (sExt i f) := by
  obtain ⟨te, p, v⟩ := ha
  refine ⟨fun _ => tDrop (tBM G.K "list" rExtend (tVar i) (tCons te tNil)), fun X W hX _ => ?_, fun W B F0 ρ o h F σ H R E pp => ?_⟩
  · rw [← hX.K]
    exact ps_expr (pe_bm PySem.F.plainAttrs_list PySem.F.slot_list_extend PySem.F.type_list_extend mt_extend (pe_var (by rw [hX.N]; exact hi) (by rw [hX.sc]; exact hv) hd hcd) (pa_cons (p X hX) pa_nil (hs _)) rfl (hfew _) hline (hs _) rfl) rfl
  · unfold sExt at h
    obtain ⟨d, h1, h2⟩ := bindS h
    obtain ⟨l, h3, h4⟩ := bindS h2
    obtain ⟨l', h5, h6⟩ := bindS h4
    cases h6
    have e3 := xVar_some h3
    obtain ⟨q, ob, s1, s2, s3, s4, s5⟩ := R.own i l hw e3
    unfold extD at h5
    split at h5
    · split at h5
      · rename_i es' ds hlt
        cases h5
        obtain ⟨vs, rfl, rv, hlen⟩ := s5
        refine ⟨.ref q, s1, .inl ⟨rfl, vs, SqL.of s4⟩, v B F0 ρ _ h1 F σ H R _ fun u F2 H2 g2 r2 => ?_⟩
        have R2 := R.grow g2
        obtain ⟨q', ob', t1, t2, t3, t4, t5⟩ := R2.own i (.list ds) hw e3
        rw [s1] at t1
        cases t1
        rw [re_list] at r2
        obtain ⟨b, zs, rfl, hb, rz, _⟩ := r2
        refine ⟨q, b, vs, zs, rfl, rfl, g2.h _ _ s4, R2.l.lst hb, by rw [rv.len, rz.len]; exact big_le hlt, ?_⟩
        refine pp F2 _ _ g2.f (R2.own_set hw t2 t3 ⟨vs ++ zs, rfl, (rv.m g2.f).app rz, by rw [List.length_append]; exact hlt⟩ (fun _ => s1) fun j hj hn ⟨dj, ej⟩ sj => ?_)
        exact R2.sep j i q hj hw hn ⟨dj, ej⟩ ⟨_, e3⟩ sj s1
      · cases h5
    · cases h5
/-- an own list is told to all: F hears of it -/
theorem Rel.tell {K : PySem.W.Frag} {B F0 F H : Hp} {w : List Nat} {ρ : Nv} {σ : L2.St} (R : Rel K B F0 w F ρ σ H) {i : Nat} (hi : i ∈ w) {p : Addr} {vs : List V} {ds : List D} (e : ρ[i]? = some (some (.list ds))) (s : σ[i]? = some (some (.ref p))) (hp : H p = some (.lst vs)) :
    Rel K B F0 w (upd F p (.lst vs)) (ρ.set i none) σ H ∧ Same F (upd F p (.lst vs)) := by
  obtain ⟨q, o, h1, h2, h3, h4, h5⟩ := R.own i _ hi e
  rw [s] at h1
  cases h1
  have sm : Same F (upd F p (.lst vs)) := same_new h3
  have hset : ∀ (j : Nat) (d' : D), (ρ.set i none)[j]? = some (some d') → i ≠ j ∧ ρ[j]? = some (some d') := fun j d' e' => by
    by_cases h : i = j
    · subst h
      have hl : i < ρ.length := by
        have := (List.getElem?_eq_some_iff.mp e').1
        rwa [List.length_set] at this
      rw [List.getElem?_set_self hl] at e'
      cases e'
    · rw [List.getElem?_set_ne h] at e'
      exact ⟨h, e'⟩
  refine ⟨⟨⟨R.g.f.trans sm, R.g.h, fun a u ha => ?_, fun a o ha ht => ?_⟩, by rw [List.length_set]; exact R.len, fun j d' hj e' => ?_, fun j d' hj e' => ?_, fun j k r hj hk hn ⟨d1, e1⟩ ⟨d2, e2⟩ => ?_⟩, sm⟩
  · by_cases z : a = p
    · subst z; rw [upd_same] at ha; cases ha; exact .inl hp
    · rw [upd_ne z] at ha; exact R.g.l a u ha
  · rw [upd_ne (ne_of_none ha h2)]; exact R.g.n a o ha ht
  · obtain ⟨_, e2⟩ := hset j d' e'
    obtain ⟨v, v1, v2⟩ := R.val j d' hj e2
    exact ⟨v, v1, v2.m sm⟩
  · obtain ⟨n1, e2⟩ := hset j d' e'
    obtain ⟨q', o', k1, k2, k3, k4, k5⟩ := R.own j d' hj e2
    refine ⟨q', o', k1, k2, ?_, k4, k5.mono sm⟩
    rw [upd_ne]
    · exact k3
    · rintro rfl
      exact R.sep i j _ hi hj n1 ⟨_, e⟩ ⟨d', e2⟩ s k1
  · obtain ⟨n1, e3⟩ := hset j d1 e1
    obtain ⟨n2, e4⟩ := hset k d2 e2
    exact R.sep j k r hj hk hn ⟨d1, e3⟩ ⟨d2, e4⟩
theorem ds_retOwn {i : Nat} {x : Str} {px : Pos} (hi : S.N[i]? = some x) (hv : Vis S.sc x) (hw : i ∈ w) (hd : (x == ("__debug__" : Str)) = false := by decide) (hcd : (x == ("__classdict__" : Str)) = false := by decide) : DS G S w (.Return (some (.Name x px)) pos) (sRetOwn i) := by
  refine ⟨fun _ => tRet (tVar i), fun X W hX _ => ps_ret (pe_var (by rw [hX.N]; exact hi) (by rw [hX.sc]; exact hv) hd hcd), fun W B F0 ρ o h F σ H R E pp => ?_⟩
  unfold sRetOwn at h
  obtain ⟨l, h3, h4⟩ := bindS h
  have e3 := xVar_some h3
  obtain ⟨q, ob, s1, s2, s3, s4, s5⟩ := R.own i l hw e3
  split at h4
  · cases h4
    obtain ⟨vs, rfl, rv, hlen⟩ := s5
    obtain ⟨R', sm⟩ := R.tell hw e3 s1 s4
    exact ⟨.ref q, s1, pp (.ref q) _ H R'.g (by rw [re_list]; exact ⟨q, vs, rfl, upd_same, rv.m sm, hlen⟩)⟩
  · cases h4
theorem ds_move {i j : Nat} {x y : Str} {px py : Pos} (hi : S.N[i]? = some x) (hv : Vis S.sc x) (hw : i ∈ w) (hj : S.N[j]? = some y) (hy : Loc S.sc y) (hf : S.fn y = true ∨ S.sc.names.lookup y = some .local) (hjw : j ∉ w) (hd : (x == ("__debug__" : Str)) = false := by decide) (hcd : (x == ("__classdict__" : Str)) = false := by decide) :
    DS G S w (.Assign [.Name y py] (.Name x px) pos) (sMove j i) := by
  refine ⟨fun _ => tAsg (tVar i) (gName j), fun X W hX _ => ps_asg (pe_var (by rw [hX.N]; exact hi) (by rw [hX.sc]; exact hv) hd hcd) (pg_name (by rw [hX.N]; exact hX.nd) (by rw [hX.N]; exact hj) (by rw [hX.sc]; exact hy) (by rw [hX.sc, hX.fn]; exact hf)) rfl rfl, fun W B F0 ρ o h F σ H R E pp => ?_⟩
  unfold sMove at h
  obtain ⟨l, h3, h4⟩ := bindS h
  have e3 := xVar_some h3
  obtain ⟨q, ob, s1, s2, s3, s4, s5⟩ := R.own i l hw e3
  split at h4
  · cases h4
    obtain ⟨vs, rfl, rv, hlen⟩ := s5
    obtain ⟨R', sm⟩ := R.tell hw e3 s1 s4
    refine ⟨.ref q, s1, pp _ _ H sm (R'.set hjw ?_)⟩
    rw [re_list]
    exact ⟨q, vs, rfl, upd_same, rv.m sm, hlen⟩
  · cases h4

/-! ### an expression that reads own lists, its value none -/
theorem evd_borrow {K : PySem.W.Frag} {w : List Nat} {B F0 F H : Hp} {ρ : Nv} {σ : L2.St} (R : Rel K B F0 w F ρ σ H) :
    ∃ Fp, Rel K H Fp [] Fp ρ σ H ∧ ∀ F2 H2, Grow Fp H F2 H2 → ∃ F3, Grow F H F3 H2 ∧ ∀ v d, noLst d = true → Re K F2 v d → Re K F3 v d := by
  classical
  let own : Addr → Prop := fun a => ∃ i d, i ∈ w ∧ ρ[i]? = some (some d) ∧ σ[i]? = some (some (.ref a))
  have ownF : ∀ a, own a → F a = none ∧ ∃ o, H a = some o ∧ ∀ xs, o ≠ .tup xs := fun a ⟨i, d, hi, e, s⟩ => by
    obtain ⟨p, o, h1, h2, h3, h4, h5⟩ := R.own i d hi e
    rw [s] at h1
    cases h1
    exact ⟨h3, o, h4, h5.noTup⟩
  let Fp : Hp := fun a => if own a then H a else F a
  have fp1 : ∀ a, own a → Fp a = H a := fun a h => if_pos h
  have fp2 : ∀ a, ¬ own a → Fp a = F a := fun a h => if_neg h
  have sFp : Same F Fp := fun a u ha => by
    rw [fp2 a fun h => by rw [(ownF a h).1] at ha; cases ha]; exact ha
  have lFp : Ld Fp H := fun a u ha => by
    by_cases h : own a
    · rw [fp1 a h] at ha; exact .inl ha
    · rw [fp2 a h] at ha; exact R.l a u ha
  refine ⟨Fp, ⟨.refl lFp, R.len, fun i d _ e => ?_, fun i d hi _ => (by cases hi), fun i j p hi => (by cases hi)⟩, fun F2 H2 g => ?_⟩
  · by_cases hi : i ∈ w
    · obtain ⟨p, o, h1, h2, h3, h4, h5⟩ := R.own i d hi e
      have hpo : Fp p = some o := by rw [fp1 p ⟨i, d, hi, e, h1⟩]; exact h4
      refine ⟨_, h1, ?_⟩
      cases d with
      | list ds =>
        obtain ⟨vs, rfl, rv, hl⟩ := h5
        rw [re_list]
        exact ⟨p, vs, rfl, hpo, rv.m sFp, hl⟩
      | dict es =>
        simp only [Re]
        rcases h5 with ⟨_, kvs, rfl, rv, hl⟩ | ⟨C, dx, v1, v2, v3, v4, rfl, hC, rv⟩
        · exact .inl ⟨p, kvs, rfl, hpo, ReKv.mono sFp es kvs rv, hl⟩
        · exact .inr (.inr (.inr ⟨p, C, dx, v1, v2, v3, v4, rfl, hpo, hC, ReIs.mono sFp es _ rv⟩))
      | _ => exact h5.elim
    · obtain ⟨v, h1, h2⟩ := R.val i d hi e
      exact ⟨v, h1, h2.m sFp⟩
  · let F3 : Hp := fun a => if own a then none else F2 a
    have f1 : ∀ a, own a → F3 a = none := fun a h => if_pos h
    have f2 : ∀ a, ¬ own a → F3 a = F2 a := fun a h => if_neg h
    refine ⟨F3, ⟨fun a u ha => ?_, g.h, fun a u ha => ?_, fun a o ha ht => ?_⟩, fun v d hd r => Re.thaw (fun a xs ha => ?_) d v hd r⟩
    · rw [f2 a fun h => by rw [(ownF a h).1] at ha; cases ha]
      exact g.f a u (sFp a u ha)
    · by_cases h : own a
      · rw [f1 a h] at ha; cases ha
      · rw [f2 a h] at ha; exact g.l a u ha
    · by_cases h : own a
      · rw [f1 a h, (ownF a h).1]
      · rw [f2 a h, g.n a o ha ht, fp2 a h]
    · rw [f2 a fun h => ?_]
      · exact ha
      · obtain ⟨_, o, ho, ht⟩ := ownF a h
        have q := g.n a o ho ht
        rw [fp1 a h, ho] at q
        rw [q] at ha
        cases ha
        exact ht xs rfl
def xNo (f : XE) : XE := fun ρ => (f ρ).bind fun d => if noLst d = true then some d else none
theorem de_no (h : DE G S [] e f) : DE G S w e (xNo f) := by
  obtain ⟨te, p, v⟩ := h
  refine ⟨te, p, fun B F0 ρ d h F σ H R Q q => ?_⟩
  unfold xNo at h
  obtain ⟨d', h1, h2⟩ := bindS h
  split at h2
  · cases h2
    rename_i hn
    obtain ⟨Fp, R', k⟩ := evd_borrow R
    refine v H Fp ρ _ h1 Fp σ H R' Q fun x F2 H2 g r => ?_
    obtain ⟨F3, g3, r3⟩ := k F2 H2 g
    exact q x F3 H2 g3 (r3 x _ hn r)
  · cases h2
theorem dt_no (h : DT G S [] e f) : DT G S w e f := by
  obtain ⟨te, p, v⟩ := h
  refine ⟨te, p, fun B F0 ρ d h F σ H R Q q => ?_⟩
  obtain ⟨Fp, R', k⟩ := evd_borrow R
  refine v H Fp ρ _ h Fp σ H R' Q fun F2 H2 g => ?_
  obtain ⟨F3, g3, _⟩ := k F2 H2 g
  exact q F3 H2 g3

/-! ### a def -/
def startN (n : Nat) (ds : List D) : Nv := ds.map some ++ List.replicate (n - ds.length) none
def outD : Option Out → Option D
  | some (.rt d) => some d
  | some (.nx _) => some .none
  | _ => none
def runD (n : Nat) (s : XS) (ds : List D) : Option D := outD (s (startN n ds))
theorem startN_get {n : Nat} {ds : List D} {i : Nat} {d : D} (h : (startN n ds)[i]? = some (some d)) : ds[i]? = some d := by
  unfold startN at h
  by_cases hi : i < ds.length
  · rw [List.getElem?_append_left (by rw [List.length_map]; exact hi), List.getElem?_map] at h
    cases e : ds[i]? with
    | none => rw [e] at h; cases h
    | some d' => rw [e] at h; cases h; rfl
  · rw [List.getElem?_append_right (by rw [List.length_map]; omega), List.getElem?_replicate] at h
    split at h <;> cases h
theorem start_get {N : List Str} {vs : List V} {i : Nat} {v : V} (h : vs[i]? = some v) : (L2.start N vs)[i]? = some (some v) := by
  unfold L2.start
  have hi : i < vs.length := (List.getElem?_eq_some_iff.mp h).1
  rw [List.getElem?_append_left (by rw [List.length_map]; exact hi), List.getElem?_map, h]
  rfl
theorem rel_start {K : PySem.W.Frag} {F H : Hp} {w : List Nat} {N : List Str} {vs : List V} {ds : List D} (l : Ld F H) (r : ReAll K F vs ds) (hw : ∀ i ∈ w, ds.length ≤ i) : Rel K H F w F (startN N.length ds) (L2.start N vs) H where
  g := .refl l
  len := by
    unfold startN L2.start
    rw [List.length_append, List.length_append, List.length_map, List.length_map, List.length_replicate, List.length_replicate, r.len]
  val := fun i d _ e => by
    obtain ⟨v, h1, h2⟩ := r.get (startN_get e)
    exact ⟨v, start_get h1, h2⟩
  own := fun i d hi e => by
    have h1 := (List.getElem?_eq_some_iff.mp (startN_get e)).1
    exact absurd (hw i hi) (by omega)
  sep := fun i j p hi _ _ ⟨d, e⟩ => by
    have h1 := (List.getElem?_eq_some_iff.mp (startN_get e)).1
    exact absurd (hw i hi) (by omega)
theorem fnok_of {x qual : Str} {st : Stmt} {fa : Addr} {fd : FuncData} {N ps : List Str} {k n : Nat} (F : Fun G.K x qual st fa fd) (Sc : FnScope N ps (defScope st)) (hn : ps.length = n) (w : List Nat) (hw : ∀ i ∈ w, n ≤ i)
    (body : DSs G (staF N (defScope st) k) w (defBody st) s) : FnOk G.P G.w G.K G.mg G.base CX0 (k + 1) fa fd ps (spD G.K n (fun ds => if ds.length = n then runD N.length s ds else none)) := by
  refine F.ok Sc (fun vs H Q E h => by rw [hn]; exact h.1) (fun cdv A outer s0 H vs Q E hr h => ?_)
  obtain ⟨ts, p, v⟩ := body
  obtain ⟨hl, F1, ds, d, l, r, hd, q⟩ := h
  have hl2 : ds.length = n := by rw [← r.len]; exact hl
  dsimp only at hd
  rw [if_pos hl2] at hd
  refine ⟨ts fun _ _ _ _ => False, p _ _ ⟨rfl, rfl, rfl, rfl, rfl, rfl, rfl, rfl, Sc.nd, fun _ => hr, fun _ => rfl, Sc.kind, PassesOwn.never, fun _ => ⟨rfl, rfl⟩, fun _ _ h => nomatch h⟩ takesN0, ?_⟩
  unfold runD at hd
  cases e : s (startN N.length ds) with
  | none => rw [e] at hd; cases hd
  | some o =>
    rw [e] at hd
    refine v _ H F1 _ o e F1 _ H (rel_start l r fun i hi => by rw [hl2]; exact hw i hi) _ ?_
    cases o with
    | rt d' =>
      cases hd
      exact fun x F' H' g r => q x F' H' g r
    | nx ρ' =>
      cases hd
      exact fun F' σ' H' _ R => q .non F' H' R.g (re_none.mpr rfl)
    | bk _ => cases hd
    | ct _ => cases hd
    | ex _ _ => cases hd
    | rs _ _ => cases hd
theorem kn_of {x qual : Str} {st : Stmt} {fa : Addr} {fd : FuncData} {N ps : List Str} {k n : Nat} (F : Fun G.K x qual st fa fd) (Sc : FnScope N ps (defScope st)) (hm : G.mg x = some (.ref fa)) (hb : Binds G.K fd ps []) (hn : ps.length = n) (w : List Nat) (hw : ∀ i ∈ w, n ≤ i)
    (body : DSs G (staF N (defScope st) k) w (defBody st) s) : Kn G (k + 1) x n (fun ds => if ds.length = n then runD N.length s ds else none) :=
  ⟨fa, fd, ps, fnok_of F Sc hn w hw body, hm, F.kp, hb⟩
theorem Kn.imp {x : Str} {k n : Nat} {Φ Ψ : List D → Option D} (h : Kn G k x n Φ) (e : ∀ ds d, Ψ ds = some d → Φ ds = some d) : Kn G k x n Ψ := by
  obtain ⟨f, fd, ps, h1, h2⟩ := h.ex
  exact ⟨f, fd, ps, h1.imp fun vs H Q E ⟨hl, F, ds, d, l, r, hd, q⟩ => ⟨hl, F, ds, d, l, r, e ds d hd, q⟩, h2⟩
theorem Kn.mono {x : Str} {k j n : Nat} {Φ : List D → Option D} (h : Kn G k x n Φ) (hj : k ≤ j) : Kn G j x n Φ := by
  obtain ⟨f, fd, ps, h1, h2⟩ := h.ex
  exact ⟨f, fd, ps, h1.mono hj, h2⟩
end

/-! DL6: the data layer: sorted of ints, of a set of ints. -/
def insI (x : Int) : List Int → List Int
  | [] => [x]
  | y :: ys => if x ≤ y then x :: y :: ys else y :: insI x ys
def sortI (ns : List Int) : List Int := ns.foldr insI []
def insU (x : Int) : List Int → List Int
  | [] => [x]
  | y :: ys => if x < y then x :: y :: ys else if x = y then y :: ys else y :: insU x ys
def sortU (ns : List Int) : List Int := ns.foldr insU []
theorem insI_perm (x : Int) : ∀ l, (insI x l).Perm (x :: l)
  | [] => .refl _
  | y :: ys => by
    unfold insI
    split
    · exact .refl _
    · exact ((insI_perm x ys).cons y).trans (.swap x y ys)
theorem sortI_perm : ∀ ns, (sortI ns).Perm ns
  | [] => .refl _
  | n :: ns => (insI_perm n (sortI ns)).trans ((sortI_perm ns).cons n)
theorem insI_sorted {x : Int} : ∀ {l : List Int}, l.Pairwise (· ≤ ·) → (insI x l).Pairwise (· ≤ ·)
  | [], _ => by unfold insI; exact List.pairwise_singleton _ _
  | y :: ys, h => by
    have h1 := List.pairwise_cons.mp h
    unfold insI
    split
    · rename_i hxy
      exact List.pairwise_cons.mpr ⟨fun z hz => (List.mem_cons.mp hz).elim (fun e => by rw [e]; exact hxy) fun hz => Int.le_trans hxy (h1.1 z hz), h⟩
    · rename_i hxy
      refine List.pairwise_cons.mpr ⟨fun z hz => ?_, insI_sorted h1.2⟩
      rcases List.mem_cons.mp ((insI_perm x ys).mem_iff.mp hz) with e | hz
      · rw [e]; omega
      · exact h1.1 z hz
theorem sortI_sorted : ∀ ns, (sortI ns).Pairwise (· ≤ ·)
  | [] => .nil
  | _ :: ns => insI_sorted (sortI_sorted ns)
theorem sorted_uniq : ∀ {l m : List Int}, l.Pairwise (· ≤ ·) → m.Pairwise (· ≤ ·) → l.Perm m → l = m
  | [], m, _, _, h => (List.Perm.eq_nil h.symm).symm
  | x :: l, [], _, _, h => absurd h.length_eq (by simp)
  | x :: l, y :: m, hl, hm, h => by
    have a := List.pairwise_cons.mp hl
    have b := List.pairwise_cons.mp hm
    have e : x = y := by
      have h1 : y ≤ x := by
        rcases List.mem_cons.mp (h.mem_iff.mp (List.mem_cons_self)) with e | hx
        · rw [e]; exact Int.le_refl _
        · exact b.1 x hx
      have h2 : x ≤ y := by
        rcases List.mem_cons.mp (h.mem_iff.mpr (List.mem_cons_self)) with e | hx
        · rw [e]; exact Int.le_refl _
        · exact a.1 y hx
      omega
    subst e
    rw [sorted_uniq a.2 b.2 h.cons_inv]
theorem insU_mem {x k : Int} : ∀ {l : List Int}, k ∈ insU x l ↔ k = x ∨ k ∈ l
  | [] => by simp [insU]
  | y :: ys => by
    unfold insU
    split
    · simp [List.mem_cons]
    · split
      · rename_i h; subst h; simp [List.mem_cons]
      · rw [List.mem_cons, insU_mem, List.mem_cons]
        exact ⟨fun h => h.elim (fun e => .inr (.inl e)) fun h => h.elim .inl fun h => .inr (.inr h), fun h => h.elim (fun e => .inr (.inl e)) fun h => h.elim .inl fun h => .inr (.inr h)⟩
theorem sortU_mem {k : Int} : ∀ {ns : List Int}, k ∈ sortU ns ↔ k ∈ ns
  | [] => Iff.rfl
  | n :: ns => by
    show k ∈ insU n (sortU ns) ↔ _
    rw [insU_mem, sortU_mem, List.mem_cons]
theorem insU_sorted {x : Int} : ∀ {l : List Int}, l.Pairwise (· < ·) → (insU x l).Pairwise (· < ·)
  | [], _ => by unfold insU; exact List.pairwise_singleton _ _
  | y :: ys, h => by
    have h1 := List.pairwise_cons.mp h
    unfold insU
    split
    · rename_i hxy
      exact List.pairwise_cons.mpr ⟨fun z hz => (List.mem_cons.mp hz).elim (fun e => by rw [e]; exact hxy) fun hz => Int.lt_trans hxy (h1.1 z hz), h⟩
    · split
      · exact h
      · refine List.pairwise_cons.mpr ⟨fun z hz => ?_, insU_sorted h1.2⟩
        rcases insU_mem.mp hz with e | hz
        · rw [e]; omega
        · exact h1.1 z hz
theorem sortU_sorted : ∀ ns, (sortU ns).Pairwise (· < ·)
  | [] => .nil
  | _ :: ns => insU_sorted (sortU_sorted ns)
theorem strict_uniq : ∀ {l m : List Int}, l.Pairwise (· < ·) → m.Pairwise (· < ·) → (∀ k, k ∈ l ↔ k ∈ m) → l = m
  | [], [], _, _, _ => rfl
  | [], y :: m, _, _, h => absurd ((h y).mpr List.mem_cons_self) (by simp)
  | x :: l, [], _, _, h => absurd ((h x).mp List.mem_cons_self) (by simp)
  | x :: l, y :: m, hl, hm, h => by
    have a := List.pairwise_cons.mp hl
    have b := List.pairwise_cons.mp hm
    have e : x = y := by
      have h1 : y ≤ x := by
        rcases List.mem_cons.mp ((h x).mp List.mem_cons_self) with e | hx
        · omega
        · have := b.1 x hx; omega
      have h2 : x ≤ y := by
        rcases List.mem_cons.mp ((h y).mpr List.mem_cons_self) with e | hx
        · omega
        · have := a.1 y hx; omega
      omega
    subst e
    rw [strict_uniq a.2 b.2 fun k => ?_]
    constructor
    · intro hk
      rcases List.mem_cons.mp ((h k).mp (List.mem_cons_of_mem _ hk)) with e | hk'
      · have := a.1 k hk; omega
      · exact hk'
    · intro hk
      rcases List.mem_cons.mp ((h k).mpr (List.mem_cons_of_mem _ hk)) with e | hk'
      · have := b.1 k hk; omega
      · exact hk'
theorem insU_len {x : Int} : ∀ {l : List Int}, (insU x l).length ≤ l.length + 1
  | [] => Nat.le_refl _
  | y :: ys => by
    unfold insU
    split
    · exact Nat.le_refl _
    · split
      · exact Nat.le_succ _
      · rw [List.length_cons, List.length_cons]
        have := insU_len (x := x) (l := ys)
        omega
theorem sortU_len : ∀ {ns : List Int}, (sortU ns).length ≤ ns.length
  | [] => Nat.le_refl _
  | n :: ns => by
    have h1 := insU_len (x := n) (l := sortU ns)
    have h2 := sortU_len (ns := ns)
    show (insU n (sortU ns)).length ≤ ns.length + 1
    omega
def dSorted : List D → Option D
  | [.list xs] => (intsOf xs).bind fun ns => some (.list ((sortI ns).map .int))
  | _ => none
def dSortSet : D → Option D
  | .tuple xs => (intsOf xs).bind fun ns => if ns.length < 64 then some (.list ((sortU ns).map .int)) else none
  | _ => none
section
variable {G : Wd} {S : Sta} {w : List Nat} {e a b c : Expr} {es : List Expr} {f fa fb fc : XE} {fs : List XE} {pos : Pos}
theorem cvd_sorted {K : PySem.W.Frag} : CvD K (rSortedI K) dSorted := fun F H vs ds z l r h Q q => by
  unfold dSorted at h
  split at h
  · obtain ⟨ns, e, h2⟩ := bindS h
    cases h2
    have e2 := ints_map e
    subst e2
    obtain ⟨v, rfl, hv⟩ := re_args1 r
    rw [re_list] at hv
    obtain ⟨p, ys, rfl, hp, rx, hl⟩ := hv
    have e3 := re_ints rx
    subst e3
    refine ⟨p, ns, rfl, SqL.of (l.lst hp), fun ns' p' perm srt hp' => ?_⟩
    have e4 : ns' = sortI ns := sorted_uniq srt (sortI_sorted ns) (perm.trans (sortI_perm ns).symm)
    subst e4
    obtain ⟨g, rr⟩ := Grow.lst (K := K) l hp' (re_ints_mk (K := K) (F := F) (sortI ns)) (by
      rw [List.length_map, (sortI_perm ns).length_eq]
      rw [List.length_map] at hl
      exact hl)
    exact q _ _ _ g rr
  · cases h
theorem de_sorted {p : Pos} (hm : G.mg "sorted" = none) (hg : S.sc.names.lookup ("sorted" : Str) = some .globalImplicit) (ha : DE G S w e f) (he : ∀ env : Env, starEach [e] env = (false, eval e env) :: starEach [] env := by intro _; rfl) : DE G S w (.Call (.Name "sorted" p) [e] [] pos) (xF dSorted [f]) :=
  de_callB (r := rSortedI G.K) (fun X hX => by rw [← hX.K]; exact cr_sortedI) cvd_sorted hm PyProof.Rows.boot_sorted hg (da_cons ha da_nil he) (he := he)
/-- set(t) of a tuple of ints -/
def rSetT (K : PySem.W.Frag) (w : World) : List V → Hp → VK → Prop := fun xs H Q => ∃ (p : Addr) (ns : List Int), xs = [V.ref p] ∧ SqT K H p (ns.map V.int) ∧ ns.length ≤ 1000 ∧ ∀ q c, c ≤ ns.length → H q = none → Q (.ref q) (upd H q (SetO w q (fun j => decide (j ∈ ns)) c))
theorem cr_setT {X : Cx} (hc : X.calm = true) : CallR X (.type "set") (rSetT X.K X.w) := by
  intro pins s σ H xs us Q I r h
  obtain ⟨p, ns, rfl, hs, hl, q⟩ := h
  obtain ⟨u, rfl, ru⟩ := vals1 r
  cases ru
  obtain ⟨its, rv, ht, hz⟩ := I.tuple hs
  refine call_set_tupI ns (I.ok.hd hc) ht rv.ints (Nat.lt_of_le_of_lt (Nat.succ_le_succ hl) (by decide)) fun h' tk c hS hc' k => ?_
  have hn : H s.heap.objs.size = none := I.hok.fresh (Nat.le_refl _)
  exact ⟨.ref _, upd H s.heap.objs.size (SetO X.w s.heap.objs.size (fun j => decide (j ∈ ns)) c), I.laid (t' := tk) k (Nat.le_refl _) (setO_new hS), rfl, q _ c hc' hn⟩
theorem de_sortedSet {p p2 pos2 : Pos} (hm : G.mg "sorted" = none) (hg : S.sc.names.lookup ("sorted" : Str) = some .globalImplicit) (hm2 : G.mg "set" = none) (hg2 : S.sc.names.lookup ("set" : Str) = some .globalImplicit) (ha : DE G S w e f)
    (he : ∀ env : Env, starEach [e] env = (false, eval e env) :: starEach [] env := by intro _; rfl) (hc : S.cm = true := by rfl) : DE G S w (.Call (.Name "sorted" p) [.Call (.Name "set" p2) [e] [] pos2] [] pos) (x1 dSortSet f) := by
  obtain ⟨te, pe, ve⟩ := ha
  refine ⟨tCB (rSortedSet G.w) (tCons (tCB (rSetT G.K G.w) (tCons te tNil)) tNil), fun X hX => ?_, fun B F0 ρ z h F σ H R Q q => ?_⟩
  · rw [← hX.K, ← hX.w]
    exact pe_callB (cr_sortedSet (hX.calm hc)) (by unfold Gl Env.kindOf; rw [hX.sc]; exact hg) (by rw [hX.mg]; exact hm) PyProof.Rows.boot_sorted
      (pa_cons (pe_callTy (cr_setT (hX.calm hc)) (by unfold Gl Env.kindOf; rw [hX.sc]; exact hg2) (by rw [hX.mg]; exact hm2) PyProof.Rows.boot_set (pa_cons (pe X hX) pa_nil (he _)) (by decide) (by decide) (he _) rfl) pa_nil rfl) (by decide) (by decide) rfl rfl
  · unfold x1 at h
    obtain ⟨d, h1, h2⟩ := bindS h
    unfold dSortSet at h2
    split at h2
    · obtain ⟨ns, e1, h3⟩ := bindS h2
      split at h3
      · cases h3
        rename_i hlt
        have e2 := ints_map e1
        subst e2
        refine ve B F0 ρ _ h1 F σ H R _ fun v F2 H2 g2 r2 => ?_
        have R2 := R.grow g2
        rw [re_tuple] at r2
        obtain ⟨a, ys, rfl, hp, rx, hl⟩ := r2
        have e3 := re_ints rx
        subst e3
        refine ⟨a, ns, rfl, SqT.of (R2.l.tup hp), by omega, fun qa c hcl hqa => ?_⟩
        refine ⟨qa, _, c, rfl, upd_same, by omega, fun ns' p' srt mem _ hp' => ?_⟩
        have g3 : Grow F2 H2 F2 (upd H2 qa (SetO G.w qa (fun j => decide (j ∈ ns)) c)) := .newH R2.l hqa
        have e4 : ns' = sortU ns := strict_uniq srt (sortU_sorted ns) fun k => by
          rw [mem k, sortU_mem]
          exact decide_eq_true_iff
        subst e4
        obtain ⟨g, rr⟩ := Grow.lst (K := G.K) g3.l hp' (re_ints_mk (K := G.K) (F := F2) (sortU ns)) (by
          rw [List.length_map]
          exact Nat.le_trans sortU_len (Nat.le_trans (Nat.le_of_lt hlt) (by decide)))
        exact q _ _ _ ((g2.trans g3).trans g) rr
      · cases h3
    · cases h2
theorem law_sp {K : PySem.W.Frag} {H : Hp} {a : Addr} {ns : List Int} {Φ : List D → Option D} (h : Φ [scr ns] = some (.bool true)) (hl : ns.length ≤ 63) (hS : SqL K H a (ns.map V.int)) : spD K 1 Φ [.ref a] H (fun v _ => v = .bl true) fun _ _ _ => False := by
  refine ⟨rfl, H, [scr ns], .bool true, .of (Same.refl H), re_cons.mpr ⟨?_, re_nil⟩, h, fun v F' H' _ r => re_bool.mp r⟩
  unfold scr
  simp only [Re]
  exact .inr (.inl ⟨a, ns, rfl, rfl, hS, Nat.le_trans hl (by decide)⟩)
end

/-! DLS: the data layer: sorted of any alike tuples. -/
def tupHead : D → Bool
  | .tuple (_ :: _) => true
  | _ => false
def sortOk (xs : List D) : Bool := xs.all (fun d => d.canLay0 && decide (d.depth ≤ 60)) && (xs.all (fun d => xs.all fun e => PySem.W.alike d e) && (xs.all tupHead && decide (xs.length ≤ big)))
def dSortD : List D → Option D
  | [.list xs] => if sortOk xs = true then some (.list (xs.mergeSort (PySem.W.dataLe false id))) else none
  | _ => none
def sortZip (ys : List V) (ds : List D) : List (V × D) := (ys.zip ds).mergeSort (PySem.W.dataLe false Prod.snd)
def rSortD (K : PySem.W.Frag) : List V → Hp → VK → Prop := fun vs H Q => ∃ (a : Addr) (ys : List V) (ds : List D), vs = [V.ref a] ∧ SqL K H a ys ∧ DpAll K H ys ds ∧ sortOk ds = true ∧ ∀ p, H p = none → Q (.ref p) (upd H p (.lst ((sortZip ys ds).map Prod.fst)))
theorem each_vals : ∀ {ys : List V} {its : List Value} {ds : List D}, Vals ys its → ds.length = ys.length → PySem.W.EachIs (fun u q => RelV q.1 u) its (ys.zip ds)
  | _, _, [], .nil, _ => .nil
  | _, _, _ :: _, .nil, h => by cases h
  | _, _, [], .cons _ _, h => by cases h
  | _, _, d :: ds, .cons r1 r2, h => .cons r1 (each_vals r2 (by simpa using h))
theorem vals_each : ∀ {out : List Value} {qs : List (V × D)}, PySem.W.EachIs (fun u q => RelV q.1 u) out qs → Vals (qs.map Prod.fst) out
  | _, _, .nil => .nil
  | _, _, .cons h t => .cons h (vals_each t)
theorem dpAll_len {K : PySem.W.Frag} {H : Hp} : ∀ {ys : List V} {ds : List D}, DpAll K H ys ds → ds.length = ys.length
  | _, _, .nil => rfl
  | _, _, .cons _ t => by rw [List.length_cons, List.length_cons, dpAll_len t]
theorem each_snd {R : Value → D → Prop} : ∀ {ys : List V} {its : List Value} {ds : List D}, ds.length = ys.length → PySem.W.EachIs R its ds → PySem.W.EachIs (fun u q => R u q.2) its (ys.zip ds)
  | [], _, [], _, .nil => .nil
  | [], _, _ :: _, h, _ => by cases h
  | _ :: _, _, [], h, _ => by cases h
  | y :: ys, _, d :: ds, h, .cons r1 r2 => .cons r1 (each_snd (by simpa using h) r2)
theorem zip_snd {ys : List V} {ds : List D} (h : ds.length = ys.length) : (ys.zip ds).map Prod.snd = ds := List.map_snd_zip (Nat.le_of_eq h)
theorem sortZip_snd {ys : List V} {ds : List D} (h : ds.length = ys.length) : (sortZip ys ds).map Prod.snd = ds.mergeSort (PySem.W.dataLe false id) := by
  unfold sortZip
  rw [List.map_mergeSort (r := PySem.W.dataLe false Prod.snd) (s := PySem.W.dataLe false id) (f := Prod.snd) (fun a _ b _ => rfl), zip_snd h]
theorem sortOk_1 {ds : List D} (h : sortOk ds = true) : ∀ d ∈ ds, d.canLay0 = true ∧ d.depth ≤ 60 := fun d hd => by
  unfold sortOk at h
  simp only [Bool.and_eq_true] at h
  have := List.all_eq_true.mp h.1 d hd
  simpa using this
theorem sortOk_2 {ds : List D} (h : sortOk ds = true) : ∀ d ∈ ds, ∀ e ∈ ds, PySem.W.alike d e = true := fun d hd e he => by
  unfold sortOk at h
  simp only [Bool.and_eq_true] at h
  exact List.all_eq_true.mp (List.all_eq_true.mp h.2.1 d hd) e he
theorem sortOk_3 {ds : List D} (h : sortOk ds = true) : ∀ d ∈ ds, ∃ x r, d = .tuple (x :: r) := fun d hd => by
  unfold sortOk at h
  simp only [Bool.and_eq_true] at h
  have := List.all_eq_true.mp h.2.2.1 d hd
  unfold tupHead at this
  split at this
  · exact ⟨_, _, rfl⟩
  · cases this
theorem sortOk_4 {ds : List D} (h : sortOk ds = true) : ds.length ≤ big := by
  unfold sortOk at h
  simp only [Bool.and_eq_true] at h
  exact of_decide_eq_true h.2.2.2
section
variable {X : Cx}
theorem cr_sortD (hu : X.A.units + 65 < cLine) : CallR X (.builtin "sorted") (rSortD X.K) := by
  intro pins s σ H vs us Q I r h
  obtain ⟨a, ys, ds, rfl, hs, hd, ok, q⟩ := h
  obtain ⟨its, rv, hl, hz⟩ := I.list hs
  rw [Vals.ref1 r]
  have hlen := dpAll_len hd
  obtain ⟨as, h4⟩ := Dp.readsAll I ds _ its hd rv
  have er : PySem.W.EachIs (fun v d => ∃ as, Reads s.heap v d as) its ds := PySem.W.readsAll_each (enc := id) (by rw [List.map_id]; exact h4)
  have hmap := zip_snd hlen
  refine PySem.W.sorted_data (R := fun u q => RelV q.1 u) (bs := ys.zip ds) (enc := Prod.snd) hl.isList (each_vals rv hlen) (each_snd hlen er) (by rw [hmap]; exact sortOk_2 ok) (by rw [hmap]; exact .inl (sortOk_3 ok))
    (by rw [List.length_zip]; exact Nat.le_trans (Nat.min_le_left _ _) hz) (fun b hb => ?_) fun out ho hout => ?_
  · have h1 := (sortOk_1 ok b.2 (by rw [← hmap]; exact List.mem_map_of_mem hb)).2
    omega
  · obtain ⟨ep, he'⟩ := PyProof.Rows.sortedAll_at s.heap its out.toArray
    have hzs : ((sortZip ys ds).map Prod.fst).length ≤ sizeLine := by
      unfold sortZip
      rw [List.length_map, List.length_mergeSort, List.length_zip]
      exact Nat.le_trans (Nat.min_le_left _ _) hz
    exact ⟨.ref _, upd H (s.heap.objs.size + 1) (.lst ((sortZip ys ds).map Prod.fst)), I.laid (t' := s.toks) (fun _ _ => PyProof.Rows.sortedAll_old) (Nat.le_succ _) ⟨hzs, out, ep, vals_each hout, he'⟩, rfl, q _ (I.hok.fresh (Nat.le_succ _))⟩
end
theorem reAll_zip {K : PySem.W.Frag} {F : Hp} : ∀ {ys : List V} {ds : List D}, ReAll K F ys ds → ∀ q ∈ ys.zip ds, Re K F q.1 q.2
  | [], _, _, q, hq => by simp at hq
  | _ :: _, [], r, _, _ => by simp only [ReAll] at r
  | y :: ys, d :: ds, r, q, hq => by
    rw [re_cons] at r
    rw [List.zip_cons_cons, List.mem_cons] at hq
    rcases hq with rfl | hq
    · exact r.1
    · exact reAll_zip r.2 q hq
theorem reAll_of {K : PySem.W.Frag} {F : Hp} : ∀ {qs : List (V × D)}, (∀ q ∈ qs, Re K F q.1 q.2) → ReAll K F (qs.map Prod.fst) (qs.map Prod.snd)
  | [], _ => re_nil
  | q :: qs, h => re_cons.mpr ⟨h q List.mem_cons_self, reAll_of fun p hp => h p (List.mem_cons_of_mem _ hp)⟩
theorem canLayAll_of {ds : List D} (h : ∀ d ∈ ds, d.canLay0 = true) : PyData.canLayAll0 ds = true := by
  induction ds with
  | nil => simp only [PyData.canLayAll0]
  | cons d ds ih =>
    simp only [PyData.canLayAll0]
    rw [h d List.mem_cons_self, ih fun e he => h e (List.mem_cons_of_mem _ he)]
    rfl
section
variable {G : Wd} {S : Sta} {w : List Nat} {e a b c : Expr} {es : List Expr} {f fa fb fc : XE} {fs : List XE} {pos : Pos}
theorem cvd_sortD {K : PySem.W.Frag} : CvD K (rSortD K) dSortD := fun F H vs ds z l r h Q q => by
  unfold dSortD at h
  split at h
  · split at h
    · cases h
      rename_i xs ok
      obtain ⟨v, rfl, hv⟩ := re_args1 r
      rw [re_list] at hv
      obtain ⟨p, ys, rfl, hp, rx, hl⟩ := hv
      have hlen : xs.length = ys.length := rx.len.symm
      refine ⟨p, ys, xs, rfl, SqL.of (l.lst hp), ReAll.dp l xs ys (canLayAll_of fun d hd => (sortOk_1 ok d hd).1) rx, ok, fun p' hp' => ?_⟩
      have h2 : ReAll K F ((sortZip ys xs).map Prod.fst) (xs.mergeSort (PySem.W.dataLe false id)) := by
        rw [← sortZip_snd hlen]
        exact reAll_of fun q hq => reAll_zip rx q ((List.mergeSort_perm _ _).mem_iff.mp hq)
      obtain ⟨g, rr⟩ := Grow.lst (K := K) l hp' h2 (by rw [List.length_mergeSort]; exact hl)
      exact q _ _ _ g rr
    · cases h
  · cases h
theorem de_sortD {p : Pos} (hm : G.mg "sorted" = none) (hg : S.sc.names.lookup ("sorted" : Str) = some .globalImplicit) (ha : DE G S w e f) (he : ∀ env : Env, starEach [e] env = (false, eval e env) :: starEach [] env := by intro _; rfl) (hc : S.cm = true := by rfl) : DE G S w (.Call (.Name "sorted" p) [e] [] pos) (xF dSortD [f]) :=
  de_callB (r := rSortD G.K) (fun X hX => by rw [← hX.K]; exact cr_sortD (room65 (hX.room hc))) cvd_sortD hm PyProof.Rows.boot_sorted hg (da_cons ha da_nil he) (he := he)
end

/-! DLX: the data layer: list.index, slices with a step. -/
section
open HT
variable {prog : Program} {w : World} {A : Around} {E : Value → Shared → Prop} {s : Shared}
theorem adjust_rev (n : Nat) : Builtin.Slice.sliceAdjust none none (-1) (n : Int) = ((n : Int) - 1, -1) := by
  unfold Builtin.Slice.sliceAdjust
  simp
theorem places_rev (n : Nat) : Builtin.Slice.slicePlaces ((n : Int) - 1) (-1) (-1) = n := by
  unfold Builtin.Slice.slicePlaces
  have h1 : ¬ ((-1 : Int) > 0) := by omega
  simp only [h1, if_false]
  split
  · have e : (-(-1) : Int) = 1 := by omega
    rw [e, Int.ediv_one]
    omega
  · omega
theorem sliceApplied_rev {sl : Addr} {vl vu vs : Value} {n : Nat} {Q : Int × Int × Nat → Shared → Prop} (hs : s.heap.IsSliceOf sl vl vu vs) (pl : IsPart vl none) (pu : IsPart vu none) (ps : IsPart vs (some (-1)))
    (h : Q ((n : Int) - 1, -1, n) s) : wpAny (model prog w) A (Builtin.Slice.sliceApplied (.ref sl) (pure (n : Int))) Q E s := by
  obtain ⟨os, hos, hcs, hds⟩ := id hs
  unfold Builtin.Slice.sliceApplied Builtin.Slice.sliceFields
  refine wpAny_bind (wpAny_bind (wpAny_field hos hds (x := vl) rfl (wpAny_bind (wpAny_field hos hds (x := vu) rfl (wpAny_bind (wpAny_field hos hds (x := vs) rfl (wpAny_pure ?_)))))))
  refine wpAny_bind (slicePart_ ps ?_)
  show wpAny _ _ (if ((-1 : Int) == 0) = true then _ else _) _ _ s
  rw [if_neg (by decide)]
  refine wpAny_bind (slicePart_ pl (wpAny_bind (slicePart_ pu (wpAny_bind (wpAny_pure ?_)))))
  show wpAny _ _ (match Builtin.Slice.sliceAdjust none none (-1) (n : Int) with | (lo, hi) => pure (lo, (-1 : Int), Builtin.Slice.slicePlaces lo hi (-1))) _ _ s
  rw [adjust_rev n]
  show wpAny _ _ (pure ((n : Int) - 1, (-1 : Int), Builtin.Slice.slicePlaces ((n : Int) - 1) (-1) (-1))) _ _ s
  rw [places_rev]
  exact wpAny_pure h
theorem pick_rev (xs : Array Value) : ((List.range xs.size).filterMap fun (m : Nat) => xs[(((xs.size : Int) - 1) + (m : Int) * (-1)).toNat]?).toArray = xs.toList.reverse.toArray := by
  congr 1
  refine List.ext_getElem? fun i => ?_
  have e : (List.range xs.size).filterMap (fun (m : Nat) => xs[(((xs.size : Int) - 1) + (m : Int) * (-1)).toNat]?) = (List.range xs.size).map fun m => (xs.toList.reverse)[m]?.getD Value.none := by
    have hf : ∀ l : List Nat, (∀ m ∈ l, m < xs.size) → l.filterMap (fun (m : Nat) => xs[(((xs.size : Int) - 1) + (m : Int) * (-1)).toNat]?) = l.map fun m => (xs.toList.reverse)[m]?.getD Value.none := by
      intro l
      induction l with
      | nil => intro _; rfl
      | cons m l ih =>
        intro h
        have hm := h m List.mem_cons_self
        have hj : (((xs.size : Int) - 1) + (m : Int) * (-1)).toNat = xs.size - 1 - m := by omega
        have hlt : xs.size - 1 - m < xs.size := by omega
        have h2 : xs[(((xs.size : Int) - 1) + (m : Int) * (-1)).toNat]? = some ((xs.toList.reverse)[m]?.getD Value.none) := by
          rw [hj, List.getElem?_reverse (by simpa using hm)]
          simp [hlt]
        rw [List.filterMap_cons, h2, List.map_cons, ih fun k hk => h k (List.mem_cons_of_mem _ hk)]
    exact hf _ fun m hm => List.mem_range.mp hm
  rw [e, List.getElem?_map]
  by_cases hi : i < xs.size
  · rw [List.getElem?_range hi]
    have : i < xs.toList.reverse.length := by simpa using hi
    rw [Option.map_some, List.getElem?_eq_getElem this]
    rfl
  · rw [List.getElem?_eq_none (by simpa using hi), List.getElem?_eq_none (by simpa using hi)]
    rfl
theorem getItem_tuple_rev {t sl : Addr} {items : Array Value} {vl vu vs : Value} {Q : Value → Shared → Prop} (ht : IsTup s.heap t items) (hs : s.heap.IsSliceOf sl vl vu vs) (pl : IsPart vl none) (pu : IsPart vu none) (ps : IsPart vs (some (-1)))
    (h : Q (.ref s.heap.objs.size) { s with heap := s.heap.push { cls := .type "tuple", data := .seq items.toList.reverse.toArray } })
    (hsz : items.size ≤ sizeLine) : wpAny (model prog w) A (getItem (.ref t) (.ref sl)) Q E s := by
  have htake : sizeOk (.seq items.toList.reverse.toArray) := by
    show items.toList.reverse.toArray.size ≤ sizeLine
    rw [List.size_toArray, List.length_reverse, Array.length_toList]
    exact hsz
  obtain ⟨os, hos, hcs, hds⟩ := id hs
  have hTs : s.TypeIs (.ref sl) "slice" := ⟨os, hos, hcs⟩
  unfold getItem
  try with_reducible refine wpAny_holding ?_
  first | refine wpAny_bind (wpAny_pure ?_) | skip
  refine wpAny_bind (wpAny_sequenceKey ht.typeIs (by decide) ?_)
  refine wpAny_bind (wpAny_callSpecial?_slot (name := Str.ofString "__getitem__") ht.typeIs PyProof.Rows.slot_tuple_getitem
    (wpAny_call_entry PyProof.Rows.slot_tuple_getitem ht.typeIs entry_tuple_getitem ?_ (args_tuple_getitem _ _)))
  show wpAny _ _ (Builtin.Tuple.tupleItemsOf (.ref t) >>= _) _ _ s
  refine wpAny_bind (tupleItemsOf_ ht ?_)
  refine wpAny_bind (wpAny_typeOf hTs ?_)
  rw [if_pos (by decide)]
  refine wpAny_bind (sliceApplied_rev hs pl pu ps ?_)
  have hno : ¬ ((((items.size : Int) - 1) == 0 && (-1 : Int) == 1 && items.size == items.size) = true) := by
    intro q
    rw [Bool.and_eq_true, Bool.and_eq_true] at q
    exact absurd q.1.2 (by decide)
  show wpAny _ _ (if (((items.size : Int) - 1) == 0 && (-1 : Int) == 1 && items.size == items.size) = true then _ else _) _ _ s
  rw [if_neg hno, pick_rev]
  first
    | exact wpAny_bind (m := Builtin.Tuple.tupleExact _) (wpAny_newObj_type (wpAny_pure ⟨_, rfl, wpAny_pure h⟩) htake)
    | exact wpAny_bind (m := Builtin.Tuple.tupleExact _) (wpAny_newObj_type (wpAny_bind (wpAny_pure (wpAny_pure ⟨_, rfl, wpAny_pure h⟩))) htake)
    | exact wpAny_bind (wpAny_bind (m := Builtin.Tuple.tupleExact _) (wpAny_newObj_type (wpAny_pure (wpAny_pure ⟨_, rfl, wpAny_pure h⟩)) htake))
    | exact wpAny_bind (wpAny_bind (m := Builtin.Tuple.tupleExact _) (wpAny_newObj_type (wpAny_pure ⟨_, rfl, wpAny_pure h⟩) htake))
end
/-! ### list.index -/
def dIndex : D → D → Option D
  | .list xs, d => if (SeqAt.shaped (.list xs) && SeqAt.shaped d) = true then (xs.findIdx? fun z => PyData.eqv z d).map fun j => .int (j : Nat) else none
  | _, _ => none
section
variable {G : Wd} {S : Sta} {w : List Nat} {e a b c : Expr} {es : List Expr} {f fa fb fc : XE} {fs : List XE} {pos : Pos}
theorem de_index {apos cpos : Pos} (ha : DE G S w a fa) (hb : DE G S w b fb) (hbase : ∀ env : Env, attributeBase a "index" env (eval a env) = eval a env := by intro _; rfl)
    (hfew : ∀ env : Env, ((backTo cpos (starEach [b] env)).all (fun x => !x.1) && (backToKw cpos (keywordEach [] env)).all (fun x => x.1.isSome) && decide (([b] : List Expr).length + ([] : List Keyword).length + (if ([] : List Keyword).isEmpty then 0 else 1) < 30)) = true := by intro _; rfl)
    (hline : (apos.endLine == cpos.line) = true := by rfl) (hs : ∀ env : Env, starEach [b] env = (false, eval b env) :: starEach [] env := by intro _; rfl) (hc : S.cm = true := by rfl) : DE G S w (.Call (.Attribute a "index" apos) [b] [] cpos) (x2 dIndex fa fb) := by
  obtain ⟨ta, pa, va⟩ := ha
  obtain ⟨tb, pb, vb⟩ := hb
  refine ⟨tBM G.K "list" (rIndexD G.K) ta (tCons tb tNil), fun X hX => ?_, fun B F0 ρ z h F σ H R Q q => ?_⟩
  · rw [← hX.K]
    exact pe_bm PySem.F.plainAttrs_list PySem.F.slot_list_index PySem.F.type_list_index (mt_indexD (room65 (hX.room hc))) (pa X hX) (pa_cons (pb X hX) pa_nil (hs _)) (hbase _) (hfew _) hline (hs _) rfl
  · unfold x2 at h
    obtain ⟨d, h1, h2⟩ := bindS h
    obtain ⟨d2, h3, h4⟩ := bindS h2
    unfold dIndex at h4
    split at h4
    · rename_i xs
      split at h4
      · rename_i hsh
        rw [Bool.and_eq_true] at hsh
        cases hf : xs.findIdx? fun z => PyData.eqv z d2 with
        | none => rw [hf] at h4; cases h4
        | some j =>
          rw [hf] at h4
          cases h4
          obtain ⟨hj, hj2, hj3⟩ := List.findIdx?_eq_some_iff_getElem.mp hf
          refine va B F0 ρ _ h1 F σ H R _ fun x F2 H2 g2 r2 => ?_
          have R2 := R.grow g2
          have r2' := r2
          rw [re_list] at r2'
          obtain ⟨p, ys, rfl, hp, rx, hl⟩ := r2'
          refine ⟨.inl ⟨rfl, ys, SqL.of (R2.l.lst hp)⟩, vb B F0 ρ _ h3 F2 σ H2 R2 _ fun y F3 H3 g3 r3 => ?_⟩
          have R3 := R2.grow g3
          refine ⟨p, y, d2, xs, j, xs[j], rfl, rfl, Re.dp R3.l (.list xs) (.ref p) (SeqAt.canLay_of_shaped hsh.1) (r2.m g3.f), Re.dp R3.l d2 y (SeqAt.canLay_of_shaped hsh.2) r3, hsh.1, hsh.2, List.getElem?_eq_getElem hj, hj2, fun m z' hm hz => ?_, ?_⟩
          · have hml : m < xs.length := Nat.lt_trans hm hj
            rw [List.getElem?_eq_getElem hml] at hz
            cases hz
            have := hj3 m hm
            simpa using this
          · exact q _ F3 H3 (g2.trans g3) (re_int.mpr rfl)
      · cases h4
    · cases h4

/-! ### slices with a step -/
def pickL {α : Type} (xs : List α) (lo hi st : Option Int) : List α := (sliceRange (sliceBounds lo hi st xs.length).1 (sliceBounds lo hi st xs.length).2.1 (sliceBounds lo hi st xs.length).2.2).filterMap (xs[·]?)
theorem vals_pickN {xs : List V} {us : List Value} (r : Vals xs us) : ∀ js : List Nat, Vals (js.filterMap (xs[·]?)) (js.filterMap (us[·]?))
  | [] => .nil
  | j :: js => by
    rw [List.filterMap_cons, List.filterMap_cons]
    cases e : xs[j]? with
    | none =>
      have : us[j]? = none := List.getElem?_eq_none (by rw [← r.length]; exact List.getElem?_eq_none_iff.mp e)
      rw [this]
      exact vals_pickN r js
    | some x =>
      obtain ⟨u, h1, h2⟩ := Vals.get r e
      rw [h1]
      exact .cons h2 (vals_pickN r js)
theorem vals_pick {xs : List V} {us : List Value} (r : Vals xs us) (lo hi st : Option Int) : Vals (pickL xs lo hi st) (slicePick us.toArray lo hi st).toList := by
  have h := vals_pickN r (sliceRange (sliceBounds lo hi st xs.length).1 (sliceBounds lo hi st xs.length).2.1 (sliceBounds lo hi st xs.length).2.2)
  unfold pickL slicePick
  rw [List.size_toArray, ← r.length]
  simpa using h
theorem re_pickN {K : PySem.W.Frag} {F : Hp} {xs : List V} {ds : List D} (r : ReAll K F xs ds) : ∀ js : List Nat, ReAll K F (js.filterMap (xs[·]?)) (js.filterMap (ds[·]?))
  | [] => re_nil
  | j :: js => by
    rw [List.filterMap_cons, List.filterMap_cons]
    cases e : xs[j]? with
    | none =>
      have : ds[j]? = none := List.getElem?_eq_none (by rw [← r.len]; exact List.getElem?_eq_none_iff.mp e)
      rw [this]
      exact re_pickN r js
    | some x =>
      obtain ⟨u, h1, h2⟩ := r.getV e
      rw [h1]
      exact re_cons.mpr ⟨h2, re_pickN r js⟩
theorem re_pick {K : PySem.W.Frag} {F : Hp} {xs : List V} {ds : List D} (r : ReAll K F xs ds) (lo hi st : Option Int) : ReAll K F (pickL xs lo hi st) (pickL ds lo hi st) := by
  unfold pickL
  rw [r.len]
  exact re_pickN r _
theorem pickL_len {xs : List V} (lo hi st : Option Int) : (pickL xs lo hi st).length ≤ xs.length := by
  have h := slicePick_size_le (xs.map fun _ => Value.none).toArray lo hi st
  have e : (slicePick (xs.map fun _ => Value.none).toArray lo hi st).size = (pickL xs lo hi st).length := by
    unfold slicePick pickL
    simp only [List.size_toArray, List.length_map]
    have hfun : (fun j => (xs.map fun _ => Value.none).toArray[j]?) = fun j : Nat => (xs[j]?).map fun _ => Value.none := by funext j; simp
    rw [hfun, ← List.map_filterMap, List.length_map]
  rw [e] at h
  simpa using h
theorem pickL_mem {α : Type} {xs : List α} {lo hi st : Option Int} {x : α} (h : x ∈ pickL xs lo hi st) : x ∈ xs := by
  unfold pickL at h
  obtain ⟨j, _, e⟩ := List.mem_filterMap.mp h
  exact List.mem_of_getElem? e
def tStep (K : PySem.W.Frag) (te : TE) (tl : TO) (st : Int) : TE := fun σ H Q => te σ H fun x H1 => ∃ a xs, x = .ref a ∧ SqL K H1 a xs ∧ tl σ H1 fun o H2 => SqL K H2 a xs ∧ ∀ p, H2 p = none → Q (.ref p) (upd H2 p (.lst (pickL xs o none (some st))))
theorem pe_step {X : Cx} {e : Expr} {lo : Option Expr} {te : TE} {tl : TO} {k : Nat} {st : Int} {p2 p3 pos : Pos} (he : PE X e te) (hl : PO X lo tl) (h0 : st ≠ 0) : PE X (.Subscript e (.Slice lo none (some (.Constant (.int st) k p2)) p3) pos) (tStep X.K te tl st) := by
  refine ⟨fun pins s σ H Q I h => ?_⟩
  refine Subscript_ (thn (he.run pins s σ H _ I h) fun v s1 ⟨x, H1, I1, r1, q1⟩ => ?_)
  obtain ⟨a, xs, ex, hx, q⟩ := q1
  subst ex
  cases r1
  have hst : PO X (some (.Constant (.int st) k p2)) (tPart (tC (.int st))) := po_some pe_int
  refine wpAny_Slice (thn (hl.run pins s1 σ H1 _ I1 q) fun vl s2 ⟨l, H2, I2, pl, hx2, q2⟩ => ?_)
  refine thn (po_none.run pins s2 σ H2 (fun o H3 => o = none ∧ H3 = H2) I2 ⟨rfl, rfl⟩) fun vu s3 ⟨u, H3, I3, pu, eu, e3⟩ => ?_
  subst eu e3
  refine thn (hst.run pins s3 σ H3 (fun o H4 => o = some st ∧ H4 = H3) I3 ⟨st, rfl, rfl, rfl⟩) fun vs s4 ⟨o, H4, I4, ps, eo, e4⟩ => ?_
  subst eo e4
  have I5 : Inv X pins σ H4 { s4 with heap := s4.heap.push { cls := .type "slice", data := .fields #[vl, vu, vs] } } := I4.kept (t' := s4.toks) fun b ob q => Heap.get?_push_of_some _ q
  obtain ⟨its, r, ht, hz⟩ := I5.list hx2
  have hlen := r.length
  show wpAny (model X.prog X.w) X.A (subscriptTail e (.Slice lo none (some (.Constant (.int st) k p2)) p3) (.ref a) (.ref s4.heap.objs.size)) (EP X pins σ Q) X.xe { s4 with heap := s4.heap.push { cls := .type "slice", data := .fields #[vl, vu, vs] } }
  refine tail_any (ops := [.ref a, .ref s4.heap.objs.size]) ht.isList.typeIs (PySem.slot_list_getitem.lookup) ?_ (by with_unfolding_all rfl)
  refine wpAny_getItem_list_slice ht.isList (Heap.IsSliceOf.new _ vl vu vs) pl pu ps (by simpa using h0) ?_ (by rw [List.size_toArray]; omega)
  refine ⟨.ref _, _, I5.laid (t' := s4.toks) (o := .lst (pickL xs l none (some st))) (fun b ob q => Heap.get?_push_of_some _ q) (Nat.le_refl _) ?_, rfl, q2 _ (I5.hok.fresh (Nat.le_refl _))⟩
  exact ⟨Nat.le_trans (pickL_len _ _ _) hz, _, 0, vals_pick r _ _ _, by
    rw [Array.toArray_toList]
    exact Heap.get?_push_size _ rfl⟩
def dStep (st : Nat) : D → D → Option D
  | .list xs, .int i => some (.list (pickL xs (some i) none (some (st : Int))))
  | _, _ => none
theorem pickL_len' {α : Type} {xs : List α} (lo hi st : Option Int) : (pickL xs lo hi st).length ≤ xs.length := by
  have h := pickL_len (xs := xs.map fun _ => V.non) lo hi st
  have e : (pickL (xs.map fun _ => V.non) lo hi st).length = (pickL xs lo hi st).length := by
    unfold pickL
    simp only [List.length_map]
    have hfun : (fun j : Nat => (xs.map fun _ => V.non)[j]?) = fun j : Nat => (xs[j]?).map fun _ => V.non := by funext j; simp
    rw [hfun, ← List.map_filterMap, List.length_map]
  rw [e] at h
  simpa using h
theorem de_step {st k : Nat} {p2 p3 : Pos} (ha : DE G S w a fa) (hb : DE G S w b fb) (h0 : st ≠ 0 := by decide) : DE G S w (.Subscript a (.Slice (some b) none (some (.Constant (.int (st : Int)) k p2)) p3) pos) (x2 (dStep st) fa fb) := by
  obtain ⟨ta, pa, va⟩ := ha
  obtain ⟨tb, pb, vb⟩ := hb
  refine ⟨tStep G.K ta (tPart tb) (st : Int), fun X hX => by rw [← hX.K]; exact pe_step (pa X hX) (po_some (pb X hX)) (by omega), fun B F0 ρ z h F σ H R Q q => ?_⟩
  unfold x2 at h
  obtain ⟨d, h1, h2⟩ := bindS h
  obtain ⟨d2, h3, h4⟩ := bindS h2
  unfold dStep at h4
  split at h4
  · cases h4
    rename_i xs i
    refine va B F0 ρ _ h1 F σ H R _ fun x F2 H2 g2 r2 => ?_
    have R2 := R.grow g2
    rw [re_list] at r2
    obtain ⟨p, ys, rfl, hp, rx, hl⟩ := r2
    refine ⟨p, ys, rfl, SqL.of (R2.l.lst hp), vb B F0 ρ _ h3 F2 σ H2 R2 _ fun y F3 H3 g3 r3 => ⟨i, re_int.mp r3, SqL.of ((R2.grow g3).l.lst (g3.f _ _ hp)), fun p' hp' => ?_⟩⟩
    obtain ⟨g, rr⟩ := Grow.lst (K := G.K) (R2.grow g3).l hp' (re_pick (rx.m g3.f) (some i) none (some (st : Int))) (Nat.le_trans (pickL_len' _ _ _) hl)
    exact q _ _ _ ((g2.trans g3).trans g) rr
  · cases h4

/-! ### [::-1] -/
def dRev : D → Option D
  | .list xs => some (.list xs.reverse)
  | .tuple xs => some (.tuple xs.reverse)
  | _ => none
def tRev (K : PySem.W.Frag) (te : TE) : TE := fun σ H Q => te σ H fun x H1 => ∃ a xs, x = .ref a ∧ ((SqL K H1 a xs ∧ ∀ p, H1 p = none → Q (.ref p) (upd H1 p (.lst xs.reverse))) ∨ (SqT K H1 a xs ∧ ∀ p, H1 p = none → Q (.ref p) (upd H1 p (.tup xs.reverse))))
theorem pe_rev {X : Cx} {e : Expr} {te : TE} {k : Nat} {p1 p2 p3 pos : Pos} (he : PE X e te) : PE X (.Subscript e (.Slice none none (some (.UnaryOp .USub (.Constant (.int 1) k p1) p2)) p3) pos) (tRev X.K te) := by
  refine ⟨fun pins s σ H Q I h => ?_⟩
  refine Subscript_ (thn (he.run pins s σ H _ I h) fun v s1 ⟨x, H1, I1, r1, q1⟩ => ?_)
  obtain ⟨a, xs, ex, hq⟩ := q1
  subst ex
  cases r1
  have hst : PO X (some (.UnaryOp .USub (.Constant (.int 1) k p1) p2)) (tPart (tUn (rU fun i => .int (-i)) (tC (.int 1)))) := po_some (pe_un un_neg pe_int)
  refine wpAny_Slice (thn (po_none.run pins s1 σ H1 (fun o H2 => o = none ∧ H2 = H1) I1 ⟨rfl, rfl⟩) fun vl s2 ⟨l, H2, I2, pl, el, e2⟩ => ?_)
  subst el e2
  refine thn (po_none.run pins s2 σ H2 (fun o H3 => o = none ∧ H3 = H2) I2 ⟨rfl, rfl⟩) fun vu s3 ⟨u, H3, I3, pu, eu, e3⟩ => ?_
  subst eu e3
  refine thn (hst.run pins s3 σ H3 (fun o H4 => o = some (-1) ∧ H4 = H3) I3 ⟨1, rfl, -1, rfl, rfl, rfl⟩) fun vs s4 ⟨o, H4, I4, ps, eo, e4⟩ => ?_
  subst eo e4
  have I5 : Inv X pins σ H4 { s4 with heap := s4.heap.push { cls := .type "slice", data := .fields #[vl, vu, vs] } } := I4.kept (t' := s4.toks) fun b ob q => Heap.get?_push_of_some _ q
  show wpAny (model X.prog X.w) X.A (subscriptTail e (.Slice none none (some (.UnaryOp .USub (.Constant (.int 1) k p1) p2)) p3) (.ref a) (.ref s4.heap.objs.size)) (EP X pins σ Q) X.xe { s4 with heap := s4.heap.push { cls := .type "slice", data := .fields #[vl, vu, vs] } }
  rcases hq with ⟨hx, q⟩ | ⟨hx, q⟩
  · obtain ⟨its, r, ht, hz⟩ := I5.list hx
    have hlen := r.length
    refine tail_any (ops := [.ref a, .ref s4.heap.objs.size]) ht.isList.typeIs (PySem.slot_list_getitem.lookup) ?_ (by with_unfolding_all rfl)
    refine wpAny_getItem_list_slice ht.isList (Heap.IsSliceOf.new _ vl vu vs) pl pu ps (by decide) ?_ (by rw [List.size_toArray]; omega)
    rw [PySem.W.krv_pick]
    refine ⟨.ref _, _, I5.laid (t' := s4.toks) (o := .lst xs.reverse) (fun b ob q => Heap.get?_push_of_some _ q) (Nat.le_refl _) ?_, rfl, q _ (I5.hok.fresh (Nat.le_refl _))⟩
    exact ⟨by rw [List.length_reverse]; exact hz, _, 0, r.reverse, Heap.get?_push_size _ rfl⟩
  · obtain ⟨its, r, ht, hz⟩ := I5.tuple hx
    have hlen := r.length
    refine tail_any (ops := [.ref a, .ref s4.heap.objs.size]) ht.typeIs (PyProof.Rows.slot_tuple_getitem.lookup) ?_ (by with_unfolding_all rfl)
    refine getItem_tuple_rev ht (Heap.IsSliceOf.new _ vl vu vs) pl pu ps ?_ (by rw [List.size_toArray]; omega)
    refine ⟨.ref _, _, I5.laid (t' := s4.toks) (o := .tup xs.reverse) (fun b ob q => Heap.get?_push_of_some _ q) (Nat.le_refl _) ?_, rfl, q _ (I5.hok.fresh (Nat.le_refl _))⟩
    exact ⟨by rw [List.length_reverse]; exact hz, _, r.reverse, _, Heap.get?_push_size _ rfl, rfl, 0, rfl⟩
theorem reAll_rev {K : PySem.W.Frag} {F : Hp} {vs : List V} {ds : List D} (h : ReAll K F vs ds) : ReAll K F vs.reverse ds.reverse := h.rev
theorem de_rev {k : Nat} {p1 p2 p3 : Pos} (ha : DE G S w a fa) : DE G S w (.Subscript a (.Slice none none (some (.UnaryOp .USub (.Constant (.int 1) k p1) p2)) p3) pos) (x1 dRev fa) := by
  obtain ⟨ta, pa, va⟩ := ha
  refine ⟨tRev G.K ta, fun X hX => by rw [← hX.K]; exact pe_rev (pa X hX), fun B F0 ρ z h F σ H R Q q => ?_⟩
  unfold x1 at h
  obtain ⟨d, h1, h2⟩ := bindS h
  unfold dRev at h2
  split at h2
  · cases h2
    refine va B F0 ρ _ h1 F σ H R _ fun x F2 H2 g2 r2 => ?_
    have R2 := R.grow g2
    rw [re_list] at r2
    obtain ⟨p, ys, rfl, hp, rx, hl⟩ := r2
    refine ⟨p, ys, rfl, .inl ⟨SqL.of (R2.l.lst hp), fun p' hp' => ?_⟩⟩
    obtain ⟨g, rr⟩ := Grow.lst (K := G.K) R2.l hp' rx.rev (by rw [List.length_reverse]; exact hl)
    exact q _ _ _ (g2.trans g) rr
  · cases h2
    refine va B F0 ρ _ h1 F σ H R _ fun x F2 H2 g2 r2 => ?_
    have R2 := R.grow g2
    rw [re_tuple] at r2
    obtain ⟨p, ys, rfl, hp, rx, hl⟩ := r2
    refine ⟨p, ys, rfl, .inr ⟨SqT.of (R2.l.tup hp), fun p' hp' => ?_⟩⟩
    obtain ⟨g, rr⟩ := Grow.tup (K := G.K) R2.l hp' rx.rev (by rw [List.length_reverse]; exact hl)
    exact q _ _ _ (g2.trans g) rr
  · cases h2
end

/-! DLD: the data layer: dicts by tuples. -/
def keyD : D → Option Key
  | .int i => some (.inl i)
  | .str s => some (.inr s)
  | _ => none
def keysAll : List D → Option (List Key)
  | [] => some []
  | d :: ds => (keyD d).bind fun k => (keysAll ds).bind fun ks => some (k :: ks)
def keysD : D → Option (List Key)
  | .tuple ds => keysAll ds
  | _ => none
theorem keyD_kD (k : Key) : keyD (kD k) = some k := by cases k <;> rfl
theorem keysAll_map : ∀ k : List Key, keysAll (k.map kD) = some k
  | [] => rfl
  | k :: ks => by simp only [List.map_cons, keysAll, keyD_kD, Option.bind_some, keysAll_map ks]
theorem keysD_tup (k : List Key) : keysD (.tuple (k.map kD)) = some k := keysAll_map k
theorem keyD_inv {d : D} {k : Key} (h : keyD d = some k) : d = kD k := by
  unfold keyD at h
  split at h <;> cases h <;> rfl
theorem keysAll_inv : ∀ {ds : List D} {k : List Key}, keysAll ds = some k → ds = k.map kD
  | [], k, h => by unfold keysAll at h; cases h; rfl
  | d :: ds, k, h => by
    unfold keysAll at h
    obtain ⟨k1, h1, h2⟩ := bindS h
    obtain ⟨ks, h3, h4⟩ := bindS h2
    cases h4
    rw [keyD_inv h1, keysAll_inv h3]
    rfl
theorem keysD_inv {d : D} {k : List Key} (h : keysD d = some k) : d = .tuple (k.map kD) := by
  unfold keysD at h
  split at h
  · rw [keysAll_inv h]
  · cases h
def getE : List (D × D) → List Key → Option D
  | [], _ => none
  | p :: r, k => if keysD p.1 = some k then some p.2 else getE r k
theorem re_noI {K : PySem.W.Frag} {F : Hp} {ks : List Key} : ∀ {vs : List V} {es : List (D × D)}, ReIs K F vs es → getE es ks = none
  | _, [], _ => rfl
  | [], _ :: _, h => by simp only [ReIs] at h
  | v :: vs, (kd, d) :: es, h => by
    simp only [ReIs] at h
    unfold getE
    rw [h.1.1, if_neg (by simp [keysD]), re_noI h.2]
def putE (es : List (D × D)) (k : List Key) (d : D) : List (D × D) :=
  if (getE es k).isSome = true then es.map (fun p => if keysD p.1 = some k then (p.1, d) else p) else es ++ [(.tuple (k.map kD), d)]
def dGet : D → D → Option D
  | .dict es, k => (keysD k).bind fun ks => getE es ks
  | _, _ => none
def putD (k v : D) : D → Option D
  | .dict es => if es.length < big ∧ isIns es = false then (keysD k).bind fun ks => some (.dict (putE es ks v)) else none
  | _ => none
def keyOk : D → Bool
  | .tuple ds => decide (ds.length ≤ big)
  | _ => false
def dKeys : D → Option (List D)
  | .dict es => if (es.all fun p => keyOk p.1) = true then some (es.map Prod.fst) else none
  | _ => none
section
variable {K : PySem.W.Frag} {F : Hp}
theorem re_val : ∀ {kvs : List (List Key × V)} {es : List (D × D)} (k : List Key), ReKv K F kvs es → (∀ d, getE es k = some d → ∃ v, valV kvs k = some v ∧ Re K F v d) ∧ (getE es k = none → valV kvs k = none)
  | [], [], k, _ => ⟨fun d h => by (unfold getE at h; cases h), fun _ => rfl⟩
  | [], _ :: _, _, h => by simp only [ReKv] at h
  | _ :: _, [], _, h => by simp only [ReKv] at h
  | (k', v) :: kvs, (kd, d') :: es, k, h => by
    simp only [ReKv] at h
    obtain ⟨⟨rfl, hv⟩, hr⟩ := h
    have ih := re_val (kvs := kvs) (es := es) k hr
    unfold getE
    simp only [keysD_tup, Option.some.injEq]
    by_cases e : k' = k
    · rw [if_pos e, valV_pos e]
      exact ⟨fun d hd => by cases hd; exact ⟨v, rfl, hv⟩, fun hd => by cases hd⟩
    · rw [if_neg e, valV_neg e]
      exact ih
theorem re_map : ∀ {kvs : List (List Key × V)} {es : List (D × D)} {k : List Key} {v : V} {d : D}, Re K F v d → ReKv K F kvs es → ReKv K F (kvs.map fun kv => if kv.1 = k then (kv.1, v) else kv) (es.map fun p => if keysD p.1 = some k then (p.1, d) else p)
  | [], [], _, _, _, _, _ => by simp only [List.map_nil, ReKv]
  | [], _ :: _, _, _, _, _, h => by simp only [ReKv] at h
  | _ :: _, [], _, _, _, _, h => by simp only [ReKv] at h
  | (k', v') :: kvs, (kd, d') :: es, k, v, d, r, h => by
    simp only [ReKv] at h
    obtain ⟨⟨rfl, hv⟩, hr⟩ := h
    simp only [List.map_cons, keysD_tup, Option.some.injEq]
    by_cases e : k' = k
    · rw [if_pos e, if_pos e]
      simp only [ReKv]
      exact ⟨⟨trivial, r⟩, re_map r hr⟩
    · rw [if_neg e, if_neg e]
      simp only [ReKv]
      exact ⟨⟨trivial, hv⟩, re_map r hr⟩
theorem re_snoc : ∀ {kvs : List (List Key × V)} {es : List (D × D)} {k : List Key} {v : V} {d : D}, Re K F v d → ReKv K F kvs es → ReKv K F (kvs ++ [(k, v)]) (es ++ [(.tuple (k.map kD), d)])
  | [], [], _, _, _, r, _ => by simp only [List.nil_append, ReKv]; exact ⟨⟨trivial, r⟩, trivial⟩
  | [], _ :: _, _, _, _, _, h => by simp only [ReKv] at h
  | _ :: _, [], _, _, _, _, h => by simp only [ReKv] at h
  | (k', v') :: kvs, (kd, d') :: es, k, v, d, r, h => by
    simp only [ReKv] at h
    simp only [List.cons_append, ReKv]
    exact ⟨h.1, re_snoc r h.2⟩
theorem re_put {kvs : List (List Key × V)} {es : List (D × D)} {k : List Key} {v : V} {d : D} (r : Re K F v d) (h : ReKv K F kvs es) : ReKv K F (putK kvs k v) (putE es k d) := by
  have hv := re_val k h
  unfold putE
  cases e : getE es k with
  | none =>
    rw [if_neg (by simp), putK_new v (hv.2 e)]
    exact re_snoc r h
  | some d' =>
    obtain ⟨v', h1, _⟩ := hv.1 d' e
    unfold putK
    rw [valV_any, h1]
    simp only [Option.isSome_some, if_true]
    exact re_map r h
theorem kv_len : ∀ {kvs : List (List Key × V)} {es : List (D × D)}, ReKv K F kvs es → kvs.length = es.length
  | [], [], _ => rfl
  | [], _ :: _, h => by simp only [ReKv] at h
  | _ :: _, [], h => by simp only [ReKv] at h
  | (k', v') :: kvs, (kd, d') :: es, h => by
    simp only [ReKv] at h
    rw [List.length_cons, List.length_cons, kv_len h.2]
theorem kv_get : ∀ {kvs : List (List Key × V)} {es : List (D × D)} {j : Nat} {p : D × D}, ReKv K F kvs es → es[j]? = some p → ∃ k v, kvs[j]? = some (k, v) ∧ p.1 = .tuple (k.map kD)
  | [], [], _, _, _, e => by simp at e
  | [], _ :: _, _, _, h, _ => by simp only [ReKv] at h
  | _ :: _, [], _, _, h, _ => by simp only [ReKv] at h
  | (k', v') :: kvs, (kd, d') :: es, 0, p, h, e => by
    simp only [ReKv] at h
    have e : (kd, d') = p := by simpa using e
    subst e
    exact ⟨k', v', rfl, h.1.1⟩
  | (k', v') :: kvs, (kd, d') :: es, j + 1, p, h, e => by
    simp only [ReKv] at h
    obtain ⟨k, v, h1, h2⟩ := kv_get (j := j) h.2 (by simpa using e)
    exact ⟨k, v, by simpa using h1, h2⟩
theorem re_noT {k : List Key} : ∀ {kvs : List (Key × V)} {es : List (D × D)}, ReKi K F kvs es → getE es k = none
  | [], [], _ => rfl
  | [], _ :: _, h => by simp only [ReKi] at h
  | _ :: _, [], h => by simp only [ReKi] at h
  | (k', v) :: kvs, (kd, d') :: es, h => by
    simp only [ReKi] at h
    obtain ⟨⟨rfl, _⟩, hr⟩ := h
    unfold getE
    rw [if_neg (by cases k' <;> simp [kD, keysD]), re_noT hr]
theorem re_keysV : ∀ {vs : List V} {k : List Key}, ReAll K F vs (k.map kD) → vs = k.map kV
  | [], [], _ => rfl
  | [], _ :: _, h => by simp only [List.map_cons, ReAll] at h
  | _ :: _, [], h => by simp only [List.map_nil, ReAll] at h
  | v :: vs, k :: ks, h => by
    rw [List.map_cons, re_cons] at h
    rw [List.map_cons, re_keysV h.2]
    congr 1
    cases k with
    | inl i => exact re_int.mp h.1
    | inr s => exact re_str.mp h.1
theorem re_keys_mk : ∀ k : List Key, ReAll K F (k.map kV) (k.map kD)
  | [] => re_nil
  | k :: ks => by
    rw [List.map_cons, List.map_cons]
    refine re_cons.mpr ⟨?_, re_keys_mk ks⟩
    cases k with
    | inl i => exact re_int.mpr rfl
    | inr s => exact re_str.mpr rfl
theorem putE_len (es : List (D × D)) (k : List Key) (d : D) : (putE es k d).length ≤ es.length + 1 := by
  unfold putE
  split
  · rw [List.length_map]; exact Nat.le_succ _
  · rw [List.length_append]; exact Nat.le_refl _
end
/-- F hears of a tuple that stands there -/
theorem Grow.know {F H : Hp} {q : Addr} {xs : List V} (l : Ld F H) (h : H q = some (.tup xs)) : Grow F H (upd F q (.tup xs)) H := by
  have hq : ∀ u, F q = some u → u = .tup xs := fun u hu => by
    rcases l q u hu with h1 | ⟨kvs, o, _, h1⟩
    · rw [h] at h1; cases h1; rfl
    · rw [h] at h1; cases h1
  refine ⟨fun a u ha => ?_, Same.refl H, fun a u ha => ?_, fun a o ha ht => ?_⟩
  · by_cases e : a = q
    · subst e; rw [upd_same, hq u ha]
    · rw [upd_ne e]; exact ha
  · by_cases e : a = q
    · subst e; rw [upd_same] at ha; cases ha; exact .inl h
    · rw [upd_ne e] at ha; exact l a u ha
  · rw [upd_ne]
    rintro rfl
    rw [h] at ha
    cases ha
    exact ht xs rfl
section
variable {G : Wd} {S : Sta} {w : List Nat} {e a b c : Expr} {es : List Expr} {f fa fb fc : XE} {fs : List XE} {pos : Pos} {st : Stmt} {sts : List Stmt} {s t u : XS}
/-! ### a new one -/
def sDNew (i : Nat) : XS := fun ρ => some (.nx (ρ.set i (some (.dict []))))
theorem ds_dnew {i : Nat} {x : Str} {px lp : Pos} (hi : S.N[i]? = some x) (hx : Loc S.sc x) (hf : S.fn x = true ∨ S.sc.names.lookup x = some .local) (hw : i ∈ w) : DS G S w (.Assign [.Name x px] (.Dict [] [] lp) pos) (sDNew i) := by
  refine ⟨fun _ => tAsg tDNewT (gName i), fun X W hX _ => ps_asg pe_dnewT (pg_name (by rw [hX.N]; exact hX.nd) (by rw [hX.N]; exact hi) (by rw [hX.sc]; exact hx) (by rw [hX.sc, hX.fn]; exact hf)) rfl rfl, fun W B F0 ρ o h F σ H R E pp => ?_⟩
  unfold sDNew at h
  cases h
  exact fun p hp => pp F _ _ (Same.refl _) (R.own_new hw hp (.inl ⟨rfl, [], rfl, by simp only [ReKv], Nat.zero_le _⟩))
/-! ### an entry stored -/
def sDPut (i : Nat) (fk fv : XE) : XS := fun ρ => (fv ρ).bind fun v => (fk ρ).bind fun k => (xVar i ρ).bind fun d => (putD k v d).bind fun d' => some (.nx (ρ.set i (some d')))
theorem isIns_put {es : List (D × D)} {k : List Key} {d : D} (h : isIns es = false) : isIns (putE es k d) = false := by
  unfold putE
  cases es with
  | nil =>
    split
    · rfl
    · rfl
  | cons p es =>
    obtain ⟨kd, v⟩ := p
    split
    · rw [List.map_cons]
      split
      · cases kd <;> first | rfl | cases h
      · cases kd <;> first | rfl | cases h
    · cases kd <;> first | rfl | cases h
theorem ds_dput {i : Nat} {x : Str} {px sp : Pos} {k v : Expr} {fk fv : XE} (hi : S.N[i]? = some x) (hv : Vis S.sc x) (hw : i ∈ w) (hk : DE G S w k fk) (hval : DE G S w v fv) (hd : (x == ("__debug__" : Str)) = false := by decide) (hcd : (x == ("__classdict__" : Str)) = false := by decide)
    (hs : ∀ env : Env, swapsWith v (some (.Subscript (.Name x px) k sp)) pos.line env = pure false := by intro _; rfl) (hc : S.cm = true := by rfl) : DS G S w (.Assign [.Subscript (.Name x px) k sp] v pos) (sDPut i fk fv) := by
  obtain ⟨tk, pk, vk⟩ := hk
  obtain ⟨tv, pv, vv⟩ := hval
  refine ⟨fun _ => L2.sDPut (tVar i) tk tv, fun X W hX _ => ps_dput (by have := room65 (hX.room hc); omega) (pe_var (by rw [hX.N]; exact hi) (by rw [hX.sc]; exact hv) hd hcd) (pk X hX) (pv X hX) (hs _), fun W B F0 ρ o h F σ H R E pp => ?_⟩
  unfold sDPut at h
  obtain ⟨dv, h1, h2⟩ := bindS h
  obtain ⟨dk, h3, h4⟩ := bindS h2
  obtain ⟨dd, h5, h6⟩ := bindS h4
  obtain ⟨d', h7, h8⟩ := bindS h6
  cases h8
  have e3 := xVar_some h5
  unfold putD at h7
  split at h7
  · split at h7
    · rename_i es hlt0
      obtain ⟨hlt, hni⟩ := hlt0
      obtain ⟨ks, h9, h10⟩ := bindS h7
      cases h10
      have hkd := keysD_inv h9
      subst hkd
      refine vv B F0 ρ dv h1 F σ H R _ fun v F2 H2 g2 r2 => ?_
      have R2 := R.grow g2
      obtain ⟨q, ob, s1, s2, s3, s4, s5⟩ := R2.own i _ hw e3
      refine ⟨.ref q, s1, vk B F0 ρ _ h3 F2 σ H2 R2 _ fun y F3 H3 g3 r3 => ?_⟩
      have R3 := R2.grow g3
      obtain ⟨q', ob', t1, t2, t3, t4, t5⟩ := R3.own i _ hw e3
      rw [s1] at t1
      cases t1
      obtain ⟨_, kvs, rfl, rk, hlen⟩ : isIns es = false ∧ ∃ kvs, ob' = .dT kvs ∧ ReKv G.K F3 kvs es ∧ es.length ≤ big := by
        rcases t5 with z | ⟨_, _, _, _, _, _, _, _, z⟩
        · exact z
        · rw [isIns_of z] at hni; cases hni
      rw [re_tuple] at r3
      obtain ⟨b, xs, rfl, hb, rx, _⟩ := r3
      have hxs := re_keysV rx
      subst hxs
      refine ⟨q, _, rfl, DPut.t t4 (R3.l.tup hb) (by rw [kv_len rk]; exact big_lt (Nat.le_of_lt hlt)), ?_⟩
      refine pp F3 _ _ (g2.trans g3).f (R3.own_set hw t2 t3 (.inl ⟨isIns_put hni, putK kvs ks v, rfl, re_put (r2.m g3.f) rk, Nat.le_trans (putE_len _ _ _) hlt⟩) (fun _ => s1) fun j hj hn ⟨dj, ej⟩ sj => ?_)
      exact R3.sep j i q hj hw hn ⟨dj, ej⟩ ⟨_, e3⟩ sj s1
    · cases h7
  · cases h7
/-! ### an entry read -/
theorem de_dget (ha : DE G S w a fa) (hb : DE G S w b fb) (hs : NoSl b := by exact fun _ _ => rfl) (hc : S.cm = true := by rfl) : DE G S w (.Subscript a b pos) (x2 dGet fa fb) := by
  obtain ⟨ta, pa, va⟩ := ha
  obtain ⟨tb, pb, vb⟩ := hb
  refine ⟨tDGet ta tb, fun X hX => pe_dget (by have := room65 (hX.room hc); omega) (pa X hX) (pb X hX) hs, fun B F0 ρ z h F σ H R Q q => ?_⟩
  unfold x2 at h
  obtain ⟨d, h1, h2⟩ := bindS h
  obtain ⟨d2, h3, h4⟩ := bindS h2
  unfold dGet at h4
  split at h4
  · obtain ⟨ks, h9, h10⟩ := bindS h4
    have hkd := keysD_inv h9
    subst hkd
    refine va B F0 ρ _ h1 F σ H R _ fun x F2 H2 g2 r2 => ?_
    have R2 := R.grow g2
    refine vb B F0 ρ _ h3 F2 σ H2 R2 _ fun y F3 H3 g3 r3 => ?_
    have R3 := R2.grow g3
    have r2' := r2.m g3.f
    simp only [Re] at r2'
    rcases r2' with ⟨p, kvs, rfl, hp, rk, _⟩ | ⟨p, ns, rfl, rfl, _, _⟩ | ⟨p, kvs, rfl, hp, rk, _⟩ | ⟨p, C, dx, v1, v2, v3, v4, rfl, hp, _, rk⟩
    · obtain ⟨v, hv1, hv2⟩ := (re_val ks rk).1 z h10
      rw [re_tuple] at r3
      obtain ⟨b', xs, rfl, hb', rx, _⟩ := r3
      have hxs := re_keysV rx
      subst hxs
      refine ⟨p, v, rfl, .inr ⟨kvs, ks, b', ?_, rfl, R3.l.tup hb', hv1.symm⟩, q v F3 H3 (g2.trans g3) hv2⟩
      rcases R3.l p _ hp with hH | ⟨kvs', o', e1, e2⟩
      · exact .inl hH
      · exact .inr ⟨o', e2⟩
    · unfold getE at h10
      rw [if_neg (by simp [keysD])] at h10
      unfold getE at h10
      cases h10
    · rw [re_noT rk] at h10
      cases h10
    · rw [re_noI rk] at h10
      cases h10
  · cases h4
/-! ### an own list or dict becomes everyone's -/
theorem Rel.tell1 {K : PySem.W.Frag} {B F0 F H : Hp} {ρ : Nv} {σ : L2.St} {i : Nat} (R : Rel K B F0 w F ρ σ H) (hi : i ∈ w) : ∃ F', Same F F' ∧ Rel K B F0 (w.filter fun j => decide (j ≠ i)) F' ρ σ H := by
  have hw : ∀ j, j ∈ (w.filter fun j => decide (j ≠ i)) ↔ j ∈ w ∧ j ≠ i := fun j => by rw [List.mem_filter]; simp
  by_cases hd : ∃ d, ρ[i]? = some (some d)
  · obtain ⟨d, e⟩ := hd
    obtain ⟨q, o, h1, h2, h3, h4, h5⟩ := R.own i d hi e
    have sm : Same F (upd F q o) := same_new h3
    refine ⟨upd F q o, sm, ⟨⟨R.g.f.trans sm, R.g.h, fun a u ha => ?_, fun a o' ha ht => ?_⟩, R.len, fun j d' hj e' => ?_, fun j d' hj e' => ?_, fun j k r hj hk => R.sep j k r ((hw j).mp hj).1 ((hw k).mp hk).1⟩⟩
    · by_cases z : a = q
      · subst z; rw [upd_same] at ha; cases ha; exact .inl h4
      · rw [upd_ne z] at ha; exact R.g.l a u ha
    · rw [upd_ne (ne_of_none ha h2)]; exact R.g.n a o' ha ht
    · by_cases z : j = i
      · subst z
        rw [e] at e'
        cases e'
        refine ⟨.ref q, h1, ?_⟩
        cases d with
        | list ds =>
          obtain ⟨vs, rfl, rv, hl⟩ := h5
          rw [re_list]
          exact ⟨q, vs, rfl, upd_same, rv.m sm, hl⟩
        | dict es =>
          simp only [Re]
          rcases h5 with ⟨_, kvs, rfl, rv, hl⟩ | ⟨C, dx, v1, v2, v3, v4, rfl, hC, rv⟩
          · exact .inl ⟨q, kvs, rfl, upd_same, ReKv.mono sm es kvs rv, hl⟩
          · exact .inr (.inr (.inr ⟨q, C, dx, v1, v2, v3, v4, rfl, upd_same, hC, ReIs.mono sm es _ rv⟩))
        | _ => exact h5.elim
      · obtain ⟨v, v1, v2⟩ := R.val j d' (fun hjw => hj ((hw j).mpr ⟨hjw, z⟩)) e'
        exact ⟨v, v1, v2.m sm⟩
    · obtain ⟨hj1, hj2⟩ := (hw j).mp hj
      obtain ⟨q', o', k1, k2, k3, k4, k5⟩ := R.own j d' hj1 e'
      refine ⟨q', o', k1, k2, ?_, k4, k5.mono sm⟩
      rw [upd_ne]
      · exact k3
      · rintro rfl
        exact R.sep j i _ hj1 hi hj2 ⟨d', e'⟩ ⟨d, e⟩ k1 h1
  · refine ⟨F, Same.refl F, ⟨R.g, R.len, fun j d' hj e' => ?_, fun j d' hj e' => R.own j d' ((hw j).mp hj).1 e', fun j k r hj hk => R.sep j k r ((hw j).mp hj).1 ((hw k).mp hk).1⟩⟩
    by_cases z : j = i
    · subst z; exact absurd ⟨d', e'⟩ hd
    · exact R.val j d' (fun hjw => hj ((hw j).mpr ⟨hjw, z⟩)) e'
def onlyRet : Out → Option Out
  | .rt d => some (.rt d)
  | _ => none
def sTell (s : XS) : XS := fun ρ => (s ρ).bind onlyRet
theorem dss_tell (i : Nat) (hi : i ∈ w) {w' : List Nat} (h : DSs G S w' sts s) (hw : (w.filter fun j => decide (j ≠ i)) = w' := by rfl) : DSs G S w sts (sTell s) := by
  subst hw
  obtain ⟨ts, p, v⟩ := h
  refine ⟨ts, p, fun W B F0 ρ o h F σ H R E pp => ?_⟩
  unfold sTell at h
  obtain ⟨o1, h1, h2⟩ := bindS h
  obtain ⟨F', sm, R'⟩ := R.tell1 hi
  refine v W B F0 ρ o1 h1 F' σ H R' E ?_
  cases o1 with
  | rt d => cases h2; exact pp
  | ex c _ => cases h2
  | rs _ _ => cases h2
  | nx _ => cases h2
  | bk _ => cases h2
  | ct _ => cases h2
/-! ### for k in d -/
def noEx : Out → Option Out
  | .ex _ _ => none
  | .rs _ _ => none
  | o => some o
def sForD (i : Nat) (tt : Tgt) (s : XS) : XS := fun ρ => (xVar i ρ).bind fun d => (dKeys d).bind fun items => (forGo tt s items ρ).bind noEx
theorem forD_in {g : TG} {tb : TS} {tt : Tgt} {idx : List Nat} {W : WX} {B F0 F Hl : Hp} {ρ : Nv} {σ : L2.St} {i : Nat} {d : Addr} {od : Obj} {kvs : List (List Key × V)} {des : List (D × D)} {o : Out} {E : Ends}
    (rk : ReKv G.K F kvs des) (hB : B d = some (.frz od (.dT kvs))) (hs : σ[i]? = some (some (.ref d))) (hko : (des.all fun p => keyOk p.1) = true) (R : Rel G.K B F0 w F ρ σ Hl)
    (vg : GvD G.K w idx g tt) (vb : SvD G w W tb s) (h : forGo tt s (des.map Prod.fst) ρ = some o) (pp : Post G B F0 w F E W o) : tFor (iKeys (tVar i)) g tb E σ Hl := by
  have hlen : (des.map Prod.fst).length = kvs.length := by rw [List.length_map, kv_len rk]
  refine ⟨.ref d, hs, d, od, rfl, .inr ⟨kvs, R.g.h _ _ hB, ?_⟩⟩
  generalize hitems : des.map Prod.fst = items at h hlen
  refine ⟨fun j m σ' H' => m = items.length - j ∧ j ≤ items.length ∧ ∃ F' ρ', Same F F' ∧ Rel G.K B F0 w F' ρ' σ' H' ∧ forGo tt s (items.drop j) ρ' = some o,
    ⟨items.length, by simp, Nat.zero_le _, F, ρ, Same.refl _, R, by rw [List.drop_zero]; exact h⟩, ?_⟩
  rintro j m σ' H' ⟨rfl, hile, F', ρ', e', R', hgo⟩
  by_cases hlt : j < items.length
  · refine .inr ⟨⟨R'.g.h _ _ hB, by omega⟩, fun σ'' H'' => ∃ F' ρ', Same F F' ∧ Rel G.K B F0 w F' ρ' σ'' H'' ∧ forGo tt s (items.drop (j + 1)) ρ' = some o,
      fun σ'' H'' hN => ⟨items.length - (j + 1), by omega, rfl, hlt, hN⟩, fun x H3 hy => ?_⟩
    obtain ⟨rfl, k, v, q, hk1, rfl, hq⟩ := hy
    have hd : items[j]? = some items[j] := List.getElem?_eq_getElem hlt
    have hdes : ∃ p, des[j]? = some p ∧ p.1 = items[j] := by
      have hjl : j < des.length := by rw [← hitems, List.length_map] at hlt; exact hlt
      refine ⟨des[j], List.getElem?_eq_getElem hjl, ?_⟩
      have h1 : (des.map Prod.fst)[j]? = some des[j].1 := by rw [List.getElem?_map, List.getElem?_eq_getElem hjl]; rfl
      rw [hitems, hd] at h1
      exact (Option.some.inj h1).symm
    obtain ⟨p, hp1, hp2⟩ := hdes
    obtain ⟨k', v', hk2, hk3⟩ := kv_get rk hp1
    rw [hk1] at hk2
    cases hk2
    have hkl : (k.map kD).length ≤ big := by
      have := List.all_eq_true.mp hko p (List.mem_of_getElem? hp1)
      rw [hk3] at this
      exact of_decide_eq_true this
    have g3 := Grow.know R'.l hq
    have r3 : Re G.K (upd F' q (.tup (k.map kV))) (.ref q) items[j] := by
      rw [← hp2, hk3, re_tuple]
      exact ⟨q, _, rfl, upd_same, re_keys_mk k, hkl⟩
    have hcons : items.drop j = items[j] :: items.drop (j + 1) := List.drop_eq_getElem_cons hlt
    rw [hcons] at hgo
    unfold forGo at hgo
    obtain ⟨ρ1, e1, hgo⟩ := bindS hgo
    obtain ⟨o1, e2, hgo⟩ := bindS hgo
    refine vg B F0 ρ' _ ρ1 e1 _ σ' H3 (.ref q) (R'.grow g3) r3 _ fun σ2 R3 _ => ?_
    refine vb B F0 ρ1 o1 e2 _ σ2 H3 R3 _ ?_
    have e3 : Same F (upd F' q (.tup (k.map kV))) := e'.trans g3.f
    cases o1 with
    | nx ρ2 => exact fun F4 σ4 H4 e4 R4 => ⟨F4, ρ2, e3.trans e4, R4, hgo⟩
    | ct ρ2 => exact fun F4 σ4 H4 e4 R4 => ⟨F4, ρ2, e3.trans e4, R4, hgo⟩
    | bk ρ2 => cases hgo; exact fun F4 σ4 H4 e4 R4 => pp F4 σ4 H4 (e3.trans e4) R4
    | rt d => cases hgo; exact pp
    | ex c ρ2 => cases hgo; exact fun F4 σ4 H4 e4 R4 => pp F4 σ4 H4 (e3.trans e4) R4
    | rs d ρ2 => cases hgo
  · have e : j = items.length := by omega
    subst e
    rw [List.drop_length] at hgo
    unfold forGo at hgo
    cases hgo
    exact .inl ⟨⟨R'.g.h _ _ hB, by omega⟩, pp F' σ' H' e' R'⟩
theorem ds_forD {i : Nat} {x : Str} {px : Pos} {tg : Expr} {body : List Stmt} {tt : Tgt} {idx : List Nat} (hi : S.N[i]? = some x) (hv : Vis S.sc x) (hw : i ∉ w) (hg : DG G S w idx tg tt) (hb : DSs G S w body s) (hd : (x == ("__debug__" : Str)) = false := by decide) (hcd : (x == ("__classdict__" : Str)) = false := by decide)
    (hs : ∀ (env : Env) y, foldedSetIterable (.Name x px) env y = pure y := by intro _ _; rfl) (hc : S.cm = true := by rfl) : DS G S w (.For tg (.Name x px) body [] pos) (sForD i tt s) := by
  classical
  obtain ⟨g, pg, vg⟩ := hg
  obtain ⟨tb, pb, vb⟩ := hb
  refine ⟨fun W => fun E σ H => tLock (tFor (iKeys (tVar i)) g (tb W)) E σ H ∨ tFor (iKeys (tVar i)) g (tb W) E σ H, fun X W hX tk => ?_, fun W B F0 ρ o h F σ H R E pp => ?_⟩
  · have h1 := ps_for (pos := pos) hX.po (hX.calm hc) (pi_keys (tg := tg) (pe_var (pos := px) (by rw [hX.N]; exact hi) (by rw [hX.sc]; exact hv) hd hcd)) (pg X hX) (pb X W hX tk) (hs _)
    exact ⟨fun pins s σ H D I z => z.elim ((ps_lock h1).run pins s σ H D I) (h1.run pins s σ H D I)⟩
  · unfold sForD at h
    obtain ⟨dd, h1, h2⟩ := bindS h
    obtain ⟨items, h3, h4⟩ := bindS h2
    obtain ⟨o1, h5, h6⟩ := bindS h4
    have ho1 : o1 = o ∧ (∀ c ρ', o ≠ .ex c ρ') ∧ ∀ d ρ', o ≠ .rs d ρ' := by
      cases o1 <;> unfold noEx at h6 <;> cases h6 <;> exact ⟨rfl, (fun c _ z => nomatch z), fun d _ z => nomatch z⟩
    obtain ⟨rfl, hnex, hnrs⟩ := ho1
    have e3 := xVar_some h1
    obtain ⟨v, hv1, hv2⟩ := R.val i dd hw e3
    unfold dKeys at h3
    split at h3
    · split at h3
      · rename_i des hko
        cases h3
        simp only [Re] at hv2
        rcases hv2 with ⟨d, kvs, rfl, hF, rk, _⟩ | ⟨d, ns, rfl, rfl, _, _⟩ | ⟨d, kvs, rfl, hF, rk, hne⟩ | ⟨d, C, dx, v1, v2, v3, v4, rfl, hF, _, rk⟩
        · -- the heap in which the loop runs, and the way back
          have main : ∀ (Hl : Hp) (un : Hp → Hp) (od : Obj) (E' : Ends), (∀ b, b ≠ d → Hl b = H b) → Hl d = some (.frz od (.dT kvs)) → (∀ H4 b, b ≠ d → un H4 b = H4 b) → (∀ H4, H4 d = Hl d → un H4 d = H d) →
              (∀ σ' H', H' d = Hl d → E.nx σ' (un H') → E'.nx σ' H') → (∀ σ' H', H' d = Hl d → E.bk σ' (un H') → E'.bk σ' H') → (∀ σ' H', H' d = Hl d → E.ct σ' (un H') → E'.ct σ' H') → (∀ v H', H' d = Hl d → E.rt v (un H') → E'.rt v H') →
              tFor (iKeys (tVar i)) g (tb W) E' σ Hl := by
            intro Hl un od E' hl1 hl2 hu1 hu2 en eb ec er
            let own : Addr → Prop := fun b => ∃ j dj, j ∈ w ∧ ρ[j]? = some (some dj) ∧ σ[j]? = some (some (.ref b))
            have ownF : ∀ b, own b → F b = none ∧ B b = none := fun b ⟨j, dj, hj, ej, sj⟩ => by
              obtain ⟨p, o', k1, k2, k3, _, _⟩ := R.own j dj hj ej
              rw [sj] at k1
              cases k1
              exact ⟨k3, k2⟩
            let B' : Hp := fun b => if own b then none else Hl b
            have b1 : ∀ b, own b → B' b = none := fun b h => if_pos h
            have b2 : ∀ b, ¬ own b → B' b = Hl b := fun b h => if_neg h
            have hdo : ¬ own d := fun h => by rw [(ownF d h).1] at hF; cases hF
            have RL : Rel G.K B' F w F ρ σ Hl := by
              refine ⟨⟨Same.refl F, fun b ob hb => ?_, fun b ub hb => ?_, fun _ _ _ _ => rfl⟩, R.len, R.val, fun j dj hj ej => ?_, R.sep⟩
              · by_cases z : own b
                · rw [b1 b z] at hb; cases hb
                · rw [b2 b z] at hb; exact hb
              · by_cases z : b = d
                · subst z
                  rw [hF] at hb
                  cases hb
                  exact .inr ⟨kvs, od, rfl, hl2⟩
                · rw [hl1 b z]; exact R.l b ub hb
              · obtain ⟨p, o', k1, k2, k3, k4, k5⟩ := R.own j dj hj ej
                refine ⟨p, o', k1, b1 p ⟨j, dj, hj, ej, k1⟩, k3, ?_, k5⟩
                rw [hl1 p (fun z => by rw [z] at k3; rw [k3] at hF; cases hF)]
                exact k4
            have hBd : B' d = some (.frz od (.dT kvs)) := by rw [b2 d hdo]; exact hl2
            have back : ∀ F4 H4, Grow F B' F4 H4 → Grow F0 B F4 (un H4) ∧ H4 d = Hl d := fun F4 H4 g4 => by
              have h4d : H4 d = Hl d := by rw [g4.h _ _ hBd, hl2]
              have hund := hu2 H4 h4d
              refine ⟨⟨R.g.f.trans g4.f, fun b ob hb => ?_, fun b ub hb => ?_, fun b ob hb ht => ?_⟩, h4d⟩
              · have hH := R.g.h b ob hb
                by_cases z : b = d
                · subst z; rw [hund]; exact hH
                · rw [hu1 H4 b z]
                  refine g4.h b ob ?_
                  rw [b2 b (fun q => by rw [(ownF b q).2] at hb; cases hb), hl1 b z]
                  exact hH
              · by_cases z : b = d
                · subst z
                  have : ub = .dT kvs := by
                    have := g4.f _ _ hF
                    rw [this] at hb
                    cases hb
                    rfl
                  subst this
                  have := R.l b _ hF
                  rw [hund]
                  exact this
                · rw [hu1 H4 b z]; exact g4.l b ub hb
              · by_cases z : b = d
                · subst z
                  rw [g4.n b _ hBd (fun xs q => by cases q)]
                  exact R.g.n b ob hb ht
                · have hno : ¬ own b := fun q => by rw [(ownF b q).2] at hb; cases hb
                  rw [g4.n b ob (by rw [b2 b hno, hl1 b z]; exact R.g.h b ob hb) ht]
                  exact R.g.n b ob hb ht
            have backR : ∀ F4 ρ4 σ4 H4, Rel G.K B' F w F4 ρ4 σ4 H4 → Rel G.K B F0 w F4 ρ4 σ4 (un H4) ∧ H4 d = Hl d := fun F4 ρ4 σ4 H4 R4 => by
              obtain ⟨g5, h5⟩ := back F4 H4 R4.g
              refine ⟨⟨g5, R4.len, R4.val, fun j dj hj ej => ?_, R4.sep⟩, h5⟩
              obtain ⟨p, o', k1, k2, k3, k4, k5⟩ := R4.own j dj hj ej
              have hpd : p ≠ d := fun z => by
                rw [z, R4.g.f _ _ hF] at k3
                cases k3
              refine ⟨p, o', k1, ?_, k3, by rw [hu1 H4 p hpd]; exact k4, k5⟩
              cases hBp : B p with
              | none => rfl
              | some ob =>
                have hno : ¬ own p := fun q => by rw [(ownF p q).2] at hBp; cases hBp
                rw [b2 p hno, hl1 p hpd, R.g.h p ob hBp] at k2
                cases k2
            refine forD_in (o := o1) rk hBd hv1 hko RL vg (vb W) h5 ?_
            cases o1 with
            | nx ρ2 => exact fun F4 σ4 H4 e4 R4 => let ⟨R5, h5⟩ := backR F4 ρ2 σ4 H4 R4; en σ4 H4 h5 (pp F4 σ4 _ e4 R5)
            | bk ρ2 => exact fun F4 σ4 H4 e4 R4 => let ⟨R5, h5⟩ := backR F4 ρ2 σ4 H4 R4; eb σ4 H4 h5 (pp F4 σ4 _ e4 R5)
            | ct ρ2 => exact fun F4 σ4 H4 e4 R4 => let ⟨R5, h5⟩ := backR F4 ρ2 σ4 H4 R4; ec σ4 H4 h5 (pp F4 σ4 _ e4 R5)
            | rt dr => exact fun v F4 H4 g4 r4 => let ⟨g5, h5⟩ := back F4 H4 g4; er v H4 h5 (pp v F4 _ g5 r4)
            | ex c ρ' => exact absurd rfl (hnex c ρ')
            | rs d ρ' => exact absurd rfl (hnrs d ρ')
          rcases R.l d _ hF with hH | ⟨kvs', o', e1, hH⟩
          · refine .inl ⟨d, .dT kvs, hH, trivial, fun od => ?_⟩
            refine main (upd H d (.frz od (.dT kvs))) (fun H4 => upd H4 d (.dT kvs)) od _ (fun b hb => upd_ne hb) upd_same (fun H4 b hb => upd_ne hb) (fun H4 _ => by rw [upd_same, hH]) ?_ ?_ ?_ ?_
            · exact fun σ' H' hd' hE => ⟨by rw [hd', upd_same], hE⟩
            · exact fun σ' H' hd' hE => ⟨by rw [hd', upd_same], hE⟩
            · exact fun σ' H' hd' hE => ⟨by rw [hd', upd_same], hE⟩
            · exact fun v H' hd' hE => ⟨by rw [hd', upd_same], hE⟩
          · cases e1
            exact .inr (main H id o' E (fun _ _ => rfl) hH (fun _ _ _ => rfl) (fun H4 h4 => h4) (fun _ _ _ h => h) (fun _ _ _ h => h) (fun _ _ _ h => h) (fun _ _ _ h => h))
        · simp [keyOk] at hko
        · cases des with
          | nil => exact absurd rfl hne
          | cons p des =>
            cases kvs with
            | nil => simp only [ReKi] at rk
            | cons kv r =>
              obtain ⟨k, v⟩ := kv
              obtain ⟨kd, dd⟩ := p
              simp only [ReKi] at rk
              rw [List.all_cons, Bool.and_eq_true, rk.1.1] at hko
              cases k <;> simp [kD, keyOk] at hko
        · cases des with
          | nil => simp only [ReIs] at rk
          | cons p des =>
            obtain ⟨kd, dd⟩ := p
            simp only [ReIs] at rk
            rw [List.all_cons, Bool.and_eq_true, rk.1.1] at hko
            simp [keyOk] at hko
      · cases h3
    · cases h3
end

/-! DLF: the data layer: a walk over an own list that only stores a flag. -/
section
variable {G : Wd} {S : Sta} {w : List Nat} {e a b c : Expr} {es : List Expr} {f fa fb fc fe : XE} {fs : List XE} {pos : Pos} {st : Stmt} {sts : List Stmt} {s t u : XS}
theorem ds_forOwn {i j k : Nat} {x y z : Str} {px py pz ap ip : Pos} (hi : S.N[i]? = some x) (hv : Vis S.sc x) (hw : i ∈ w) (hj : S.N[j]? = some y) (hjl : Loc S.sc y) (hjf : S.fn y = true ∨ S.sc.names.lookup y = some .local) (hjw : j ∉ w)
    (hk : S.N[k]? = some z) (hkl : Loc S.sc z) (hkf : S.fn z = true ∨ S.sc.names.lookup z = some .local) (hkw : k ∉ w) (hc : DT G S w c fc) (he : DE G S w e fe) (hd : (x == ("__debug__" : Str)) = false := by decide) (hcd : (x == ("__classdict__" : Str)) = false := by decide)
    (hs : ∀ (env : Env) v, foldedSetIterable (.Name x px) env v = pure v := by intro _ _; rfl) (hss : ∀ env : Env, swapsWithSole [.Name z pz] e ap.line env = pure false := by intro _; rfl) (hsw : ∀ env : Env, swappedStores [.Name z pz] e env = pure none := by intro _; rfl)
    (h1 : ∀ env : Env, (assignEach [.Name z pz] env).map (·.2) = [assign (.Name z pz) env] := by intro _; rfl) (hcm : S.cm = true := by rfl) :
    DS G S w (.For (.Name y py) (.Name x px) [.If c [.Assign [.Name z pz] e ap] [] ip] [] pos) (sFor (sSq (xVar i)) (tN j) (sIf fc (sAsg (tN k) fe) sNext)) := by
  obtain ⟨tc, pc, vc⟩ := hc
  obtain ⟨te, pe, ve⟩ := he
  have hij : j ≠ i := fun q => hjw (q ▸ hw)
  have hik : k ≠ i := fun q => hkw (q ▸ hw)
  refine ⟨fun W => tFor (iList G.K (tVar i)) (gName j) (tIfS tc (tAsg te (gName k)) tNext), fun X W hX tk => ?_, fun W B F0 ρ o h F σ H R E pp => ?_⟩
  · refine ps_for hX.po (hX.calm hcm) (by rw [← hX.K]; exact pi_list (pe_var (by rw [hX.N]; exact hi) (by rw [hX.sc]; exact hv) hd hcd)) (pg_name (by rw [hX.N]; exact hX.nd) (by rw [hX.N]; exact hj) (by rw [hX.sc]; exact hjl) (by rw [hX.sc, hX.fn]; exact hjf))
      (pss_one (ps_if (pc X hX) (pss_one (ps_asg (pe X hX) (pg_name (by rw [hX.N]; exact hX.nd) (by rw [hX.N]; exact hk) (by rw [hX.sc]; exact hkl) (by rw [hX.sc, hX.fn]; exact hkf)) (hss _) (hsw _) (h1 _))) pss_nil)) (hs _)
  · unfold sFor sSq at h
    obtain ⟨items, h2, h3⟩ := bindS h
    obtain ⟨dl, h4, h5⟩ := bindS h2
    have e3 := xVar_some h4
    obtain ⟨p, ob, s1, s2, s3, s4, s5⟩ := R.own i dl hw e3
    cases dl with
    | list ds =>
      unfold dItems at h5
      obtain rfl : ds = items := Option.some.inj h5
      obtain ⟨vs, rfl, rv, hlen⟩ := s5
      refine ⟨.ref p, s1, p, rfl, ⟨vs, SqL.of s4⟩, ?_⟩
      refine ⟨fun q m σ' H' => m = ds.length - q ∧ q ≤ ds.length ∧ ∃ F' ρ', Same F F' ∧ Rel G.K B F0 w F' ρ' σ' H' ∧ ρ'[i]? = some (some (.list ds)) ∧ σ'[i]? = some (some (.ref p)) ∧ forGo (tN j) (sIf fc (sAsg (tN k) fe) sNext) (ds.drop q) ρ' = some o,
        ⟨ds.length, by simp, Nat.zero_le _, F, ρ, Same.refl _, R, e3, s1, by rw [List.drop_zero]; exact h3⟩, ?_⟩
      rintro q m σ' H' ⟨rfl, hile, F', ρ', e', R', hρ, hσ, hgo⟩
      obtain ⟨p', ob', t1, t2, t3, t4, t5⟩ := R'.own i _ hw hρ
      rw [hσ] at t1
      cases t1
      obtain ⟨vs', rfl, rv', _⟩ := t5
      by_cases hlt : q < ds.length
      · obtain ⟨v, hv1, hv2⟩ := rv'.get (List.getElem?_eq_getElem hlt)
        refine .inr ⟨⟨vs', v, SqL.of t4, hv1⟩, fun σ'' H'' => ∃ F' ρ', Same F F' ∧ Rel G.K B F0 w F' ρ' σ'' H'' ∧ ρ'[i]? = some (some (.list ds)) ∧ σ''[i]? = some (some (.ref p)) ∧ forGo (tN j) (sIf fc (sAsg (tN k) fe) sNext) (ds.drop (q + 1)) ρ' = some o,
          fun σ'' H'' hN => ⟨ds.length - (q + 1), by omega, rfl, hlt, hN⟩, fun x' H3 hy => ?_⟩
        obtain ⟨rfl, y2⟩ := hy
        have y3 := y2 vs' (SqL.of t4)
        rw [hv1] at y3
        cases y3
        have hcons : ds.drop q = ds[q] :: ds.drop (q + 1) := List.drop_eq_getElem_cons hlt
        rw [hcons] at hgo
        unfold forGo at hgo
        obtain ⟨ρ1, e1, hgo⟩ := bindS hgo
        obtain ⟨o1, e2, hgo⟩ := bindS hgo
        unfold tN at e1
        cases e1
        have R3 := R'.set hjw hv2
        have hρ3 : (ρ'.set j (some ds[q]))[i]? = some (some (.list ds)) := by rw [List.getElem?_set_ne hij]; exact hρ
        have hσ3 : (σ'.set j (some v))[i]? = some (some (.ref p)) := by rw [List.getElem?_set_ne hij]; exact hσ
        show tIfS tc (tAsg te (gName k)) tNext _ (σ'.set j (some v)) _
        unfold sIf at e2
        obtain ⟨dc, c1, c2⟩ := bindS e2
        unfold xIf at c2
        split at c2
        · refine vc B F0 _ true c1 F' _ _ R3 _ fun F4 H4 g4 => iteT ?_
          unfold sAsg at c2
          obtain ⟨de, c3, c4⟩ := bindS c2
          obtain ⟨ρ2, c5, c6⟩ := bindS c4
          unfold tN at c5
          cases c5
          cases c6
          refine ve B F0 _ de c3 F4 _ H4 (R3.grow g4) _ fun u F5 H5 g5 r5 => ?_
          refine ⟨F5, _, e'.trans (g4.trans g5).f, ((R3.grow g4).grow g5).set hkw r5, ?_, ?_, hgo⟩
          · rw [List.getElem?_set_ne hik]; exact hρ3
          · rw [List.getElem?_set_ne hik]; exact hσ3
        · refine vc B F0 _ false c1 F' _ _ R3 _ fun F4 H4 g4 => iteF ?_
          unfold sNext at c2
          cases c2
          exact ⟨F4, _, e'.trans g4.f, R3.grow g4, hρ3, hσ3, hgo⟩
        · cases c2
      · have e : q = ds.length := by omega
        subst e
        rw [List.drop_length] at hgo
        unfold forGo at hgo
        cases hgo
        exact .inl ⟨⟨vs', SqL.of t4, by rw [rv'.len]; exact Nat.le_refl _⟩, pp F' σ' H' e' R'⟩
    | tuple ds => exact s5.elim
    | _ => unfold dItems at h5; cases h5
/-- of what is never to answer -/
theorem kn_zero {x : Str} {fa : Addr} {fd : FuncData} {ps : List Str} {n k : Nat} (hm : G.mg x = some (.ref fa)) (hk : PySem.W.keepIn G.K (.ref fa) = true) (hb : Binds G.K fd ps []) : Kn G k x n (fun _ => none) :=
  ⟨fa, fd, ps, ⟨fun vs H Q E ⟨_, _, _, _, _, _, h, _⟩ => (by cases h), fun A outer s H args us vs Q E _ _ _ _ ⟨_, _, _, _, _, _, h, _⟩ => (by cases h)⟩, hm, hk, hb⟩
theorem de_globI {x : Str} {i : Int} {ps : Pos} (hm : ∃ t, G.mg x = some (Value.int i t)) (hg : S.sc.names.lookup x = some .globalImplicit) (hd : (x == ("__debug__" : Str)) = false := by decide) : DE G S w (.Name x ps) (xC (.int i)) := by
  obtain ⟨t, h⟩ := hm
  exact de_glob (v := .int i) h ⟨t, rfl⟩ (fun _ => re_int.mpr rfl) hg hd
theorem de_globS {x : Str} {i : Str} {ps : Pos} (hm : ∃ t, G.mg x = some (Value.str i t)) (hg : S.sc.names.lookup x = some .globalImplicit) (hd : (x == ("__debug__" : Str)) = false := by decide) : DE G S w (.Name x ps) (xC (.str i)) := by
  obtain ⟨t, h⟩ := hm
  exact de_glob (v := .str i) h ⟨t, rfl⟩ (fun _ => re_str.mpr rfl) hg hd
end

/-! DLG: the data layer: a dict of growing lists, by ints. -/
def getK : List (D × D) → Key → Option D
  | [], _ => none
  | p :: r, k => if keyD p.1 = some k then some p.2 else getK r k
def dGetI : D → D → Option D
  | .dict es, k => (keyD k).bind fun ks => if es.isEmpty then none else if (es.all fun p => (keyD p.1).isSome) = true then getK es ks else none
  | _, _ => none
def dGetOr : D → D → D → Option D
  | .dict es, k, z => (keyD k).bind fun ks => if es.isEmpty then none else if (es.all fun p => (keyD p.1).isSome) = true then some ((getK es ks).getD z) else none
  | _, _, _ => none
section
variable {K : PySem.W.Frag} {F : Hp}
theorem rei_val : ∀ {kvs : List (Key × V)} {es : List (D × D)} (k : Key), ReKi K F kvs es → (∀ d, getK es k = some d → ∃ v, valV kvs k = some v ∧ Re K F v d) ∧ (getK es k = none → valV kvs k = none)
  | [], [], k, _ => ⟨fun d h => by (unfold getK at h; cases h), fun _ => rfl⟩
  | [], _ :: _, _, h => by simp only [ReKi] at h
  | _ :: _, [], _, h => by simp only [ReKi] at h
  | (k', v) :: kvs, (kd, d') :: es, k, h => by
    simp only [ReKi] at h
    obtain ⟨⟨rfl, hv⟩, hr⟩ := h
    have ih := rei_val (kvs := kvs) (es := es) k hr
    unfold getK
    simp only [keyD_kD, Option.some.injEq]
    by_cases e : k' = k
    · rw [if_pos e, valV_pos e]
      exact ⟨fun d hd => by cases hd; exact ⟨v, rfl, hv⟩, fun hd => by cases hd⟩
    · rw [if_neg e, valV_neg e]
      exact ih
/-- a dict with int keys is not of the other kinds -/
theorem rei_of {v : V} {es : List (D × D)} (h : Re K F v (.dict es)) (h1 : es.isEmpty = false) (h2 : (es.all fun p => (keyD p.1).isSome) = true) : ∃ a kvs, v = .ref a ∧ F a = some (.dK kvs) ∧ ReKi K F kvs es := by
  simp only [Re] at h
  rcases h with ⟨a, kvs, rfl, hp, rk, _⟩ | ⟨a, ns, rfl, rfl, _, _⟩ | ⟨a, kvs, rfl, hp, rk, _⟩ | ⟨a, C, dx, v1, v2, v3, v4, rfl, hp, _, rk⟩
  · cases es with
    | nil => cases h1
    | cons p es =>
      cases kvs with
      | nil => simp only [ReKv] at rk
      | cons kv r =>
        obtain ⟨k, v⟩ := kv
        obtain ⟨kd, dd⟩ := p
        simp only [ReKv] at rk
        rw [List.all_cons, Bool.and_eq_true, rk.1.1] at h2
        simp [keyD] at h2
  · simp [keyD] at h2
  · exact ⟨a, kvs, rfl, hp, rk⟩
  · cases es with
    | nil => simp only [ReIs] at rk
    | cons p es =>
      obtain ⟨kd, dd⟩ := p
      simp only [ReIs] at rk
      rw [List.all_cons, Bool.and_eq_true, rk.1.1] at h2
      simp [keyD] at h2
theorem keyV {v : V} {d : D} {k : Key} (h : Re K F v d) (e : keyD d = some k) : v = kV k := by
  rw [keyD_inv e] at h
  cases k with
  | inl i => exact re_int.mp h
  | inr s => exact re_str.mp h
end
section
variable {G : Wd} {S : Sta} {w : List Nat} {e a b c : Expr} {es : List Expr} {f fa fb fc : XE} {fs : List XE} {pos : Pos} {st : Stmt} {sts : List Stmt} {s t u : XS}
theorem Ld.dK {F H : Hp} (l : Ld F H) {a : Addr} {kvs : List (Key × V)} (h : F a = some (.dK kvs)) : H a = some (.dK kvs) := by
  rcases l a _ h with h1 | ⟨_, _, e, _⟩
  · exact h1
  · cases e
theorem de_igetI (ha : DE G S w a fa) (hb : DE G S w b fb) (hs : NoSl b := by exact fun _ _ => rfl) (hc : S.cm = true := by rfl) : DE G S w (.Subscript a b pos) (x2 dGetI fa fb) := by
  obtain ⟨ta, pa, va⟩ := ha
  obtain ⟨tb, pb, vb⟩ := hb
  refine ⟨tDGet ta tb, fun X hX => pe_dget (by have := room65 (hX.room hc); omega) (pa X hX) (pb X hX) hs, fun B F0 ρ z h F σ H R Q q => ?_⟩
  unfold x2 at h
  obtain ⟨d, h1, h2⟩ := bindS h
  obtain ⟨d2, h3, h4⟩ := bindS h2
  unfold dGetI at h4
  split at h4
  · rename_i es
    obtain ⟨k, h9, h10⟩ := bindS h4
    cases he : es.isEmpty with
    | true => rw [he, if_pos rfl] at h10; cases h10
    | false =>
      rw [he, if_neg (by decide)] at h10
      split at h10
      · rename_i hall
        refine va B F0 ρ _ h1 F σ H R _ fun x F2 H2 g2 r2 => ?_
        have R2 := R.grow g2
        refine vb B F0 ρ _ h3 F2 σ H2 R2 _ fun y F3 H3 g3 r3 => ?_
        have R3 := R2.grow g3
        obtain ⟨p, kvs, rfl, hp, rk⟩ := rei_of (r2.m g3.f) he hall
        obtain ⟨v, hv1, hv2⟩ := (rei_val k rk).1 z h10
        have hy := keyV r3 h9
        subst hy
        refine ⟨p, v, rfl, ?_, q v F3 H3 (g2.trans g3) hv2⟩
        have := DGet.k (k := k) (R3.l.dK hp)
        rw [hv1] at this
        exact this
      · cases h10
  · cases h4
def xGetOr (fa fb fc : XE) : XE := fun ρ => (fa ρ).bind fun d => (fb ρ).bind fun k => (fc ρ).bind fun z => dGetOr d k z
theorem de_igetD {apos cpos : Pos} (ha : DE G S w a fa) (hb : DE G S w b fb) (hcz : DE G S w c fc) (hm : ∀ X : Cx, M2 X a "get" apos b c cpos := by exact fun _ => ⟨rfl, rfl, rfl, rfl⟩) (hc : S.cm = true := by rfl) : DE G S w (.Call (.Attribute a "get" apos) [b, c] [] cpos) (xGetOr fa fb fc) := by
  obtain ⟨ta, pa, va⟩ := ha
  obtain ⟨tb, pb, vb⟩ := hb
  obtain ⟨tc, pc, vc⟩ := hcz
  refine ⟨tDGet2 ta tb tc, fun X hX => pe_dget2 (by have := room65 (hX.room hc); omega) (pa X hX) (pb X hX) (pc X hX) (hm X), fun B F0 ρ z h F σ H R Q q => ?_⟩
  unfold xGetOr at h
  obtain ⟨d, h1, h2⟩ := bindS h
  obtain ⟨d2, h3, h4⟩ := bindS h2
  obtain ⟨d3, h5, h6⟩ := bindS h4
  unfold dGetOr at h6
  split at h6
  · rename_i es
    obtain ⟨k, h9, h10⟩ := bindS h6
    cases he : es.isEmpty with
    | true => rw [he, if_pos rfl] at h10; cases h10
    | false =>
      rw [he, if_neg (by decide)] at h10
      split at h10
      · rename_i hall
        cases h10
        refine va B F0 ρ _ h1 F σ H R _ fun x F2 H2 g2 r2 => ?_
        have R2 := R.grow g2
        obtain ⟨p0, kvs0, e0, hp0, rk0⟩ := rei_of r2 he hall
        refine ⟨p0, e0, .inl ⟨kvs0, .inl (R2.l.dK hp0)⟩, vb B F0 ρ _ h3 F2 σ H2 R2 _ fun y F3 H3 g3 r3 => ?_⟩
        have R3 := R2.grow g3
        refine vc B F0 ρ _ h5 F3 σ H3 R3 _ fun z F4 H4 g4 r4 => ?_
        have R4 := R3.grow g4
        have hp4 := (g3.trans g4).f _ _ hp0
        have rk4 : ReKi G.K F4 kvs0 es := ReKi.mono (g3.trans g4).f es kvs0 rk0
        have hy := keyV r3 h9
        subst hy
        have hg := DGet.k (k := k) (R4.l.dK hp4)
        have hv := rei_val k rk4
        cases hk : getK es k with
        | none =>
          rw [hv.2 hk] at hg
          rw [hk] at q
          exact ⟨none, hg, q z F4 H4 ((g2.trans g3).trans g4) r4⟩
        | some dv =>
          obtain ⟨v, hv1, hv2⟩ := hv.1 dv hk
          rw [hv1] at hg
          rw [hk] at q
          exact ⟨some v, hg, q v F4 H4 ((g2.trans g3).trans g4) hv2⟩
      · cases h10
  · cases h6
/-! ### the group -/
def addG : List (Int × List D) → Int → D → List (Int × List D)
  | [], i, d => [(i, [d])]
  | (k, ds) :: r, i, d => if k = i then (k, ds ++ [d]) :: r else (k, ds) :: addG r i d
def grpAll : List D → List (Int × List D) → Option (List (Int × List D))
  | [], es => some es
  | .tuple [.int i, d] :: r, es => grpAll r (addG es i d)
  | _ :: _, _ => none
abbrev Gs := List (Int × (Addr × List V))
def Rg (K : PySem.W.Frag) (F : Hp) : Gs → List (Int × List D) → Prop
  | [], [] => True
  | g :: gs, e :: es => (g.1 = e.1 ∧ ReAll K F g.2.2 e.2) ∧ Rg K F gs es
  | [], _ :: _ => False
  | _ :: _, [] => False
theorem Rg.mono {K : PySem.W.Frag} {F F' : Hp} (e : Same F F') : ∀ {gs : Gs} {es : List (Int × List D)}, Rg K F gs es → Rg K F' gs es
  | [], [], _ => trivial
  | [], _ :: _, h => h.elim
  | _ :: _, [], h => h.elim
  | g :: gs, x :: es, h => ⟨⟨h.1.1, h.1.2.m e⟩, Rg.mono e h.2⟩
abbrev gk (gs : Gs) : List (Key × V) := gs.map fun g => (.inl g.1, .ref g.2.1)
theorem grp_step {K : PySem.W.Frag} {F : Hp} {i : Int} {u : V} {dd : D} (r : Re K F u dd) : ∀ {gs : Gs} {es : List (Int × List D)}, Rg K F gs es →
    (∃ g gs1 gs2, gs = gs1 ++ g :: gs2 ∧ valV (gk gs) (.inl i) = some (.ref g.2.1) ∧ Rg K F (gs1 ++ (g.1, g.2.1, g.2.2 ++ [u]) :: gs2) (addG es i dd)) ∨
    (valV (gk gs) (.inl i) = none ∧ ∀ a, Rg K F (gs ++ [(i, a, [u])]) (addG es i dd))
  | [], [], _ => .inr ⟨rfl, fun a => ⟨⟨rfl, re_cons.mpr ⟨r, re_nil⟩⟩, trivial⟩⟩
  | [], _ :: _, h => h.elim
  | _ :: _, [], h => h.elim
  | g :: gs, (k, ds) :: es, h => by
    obtain ⟨⟨hk, hr⟩, ht⟩ := h
    have hk : g.1 = k := hk
    unfold addG
    by_cases e : k = i
    · rw [if_pos e]
      refine .inl ⟨g, [], gs, rfl, ?_, ⟨hk, hr.app (re_cons.mpr ⟨r, re_nil⟩)⟩, ht⟩
      rw [gk, List.map_cons]
      exact valV_pos (by rw [hk, e])
    · rw [if_neg e]
      have hne : ¬ (Sum.inl g.1 : Key) = .inl i := fun q => e (by rw [← hk]; exact Sum.inl.inj q)
      rcases grp_step (i := i) r ht with ⟨g', gs1, gs2, e1, e2, e3⟩ | ⟨e1, e2⟩
      · refine .inl ⟨g', g :: gs1, gs2, by rw [e1]; rfl, ?_, ⟨hk, hr⟩, e3⟩
        rw [gk, List.map_cons, valV_neg hne]
        exact e2
      · refine .inr ⟨?_, fun a => ⟨⟨hk, hr⟩, e2 a⟩⟩
        rw [gk, List.map_cons, valV_neg hne]
        exact e1
structure GI (K : PySem.W.Frag) (B F H : Hp) (d : Addr) (gs : Gs) (es : List (Int × List D)) (n : Nat) : Prop where
  dd : H d = some (.dK (gk gs))
  dF : F d = none
  dB : B d = none
  it : ∀ g ∈ gs, H g.2.1 = some (.lst g.2.2) ∧ F g.2.1 = none ∧ B g.2.1 = none ∧ g.2.1 ≠ d ∧ g.2.2.length ≤ n
  nd : (gs.map fun g => g.2.1).Nodup
  rel : Rg K F gs es
  len : gs.length ≤ n
def esD (es : List (Int × List D)) : List (D × D) := es.map fun e => (.int e.1, .list e.2)
theorem Rg.reKi {K : PySem.W.Frag} {F : Hp} : ∀ {gs : Gs} {es : List (Int × List D)}, Rg K F gs es → (∀ g ∈ gs, F g.2.1 = some (.lst g.2.2) ∧ g.2.2.length ≤ big) → ReKi K F (gk gs) (esD es)
  | [], [], _, _ => by simp only [gk, esD, List.map_nil, ReKi]
  | [], _ :: _, h, _ => h.elim
  | _ :: _, [], h, _ => h.elim
  | g :: gs, e :: es, h, hF => by
    obtain ⟨h1, h2⟩ := hF g List.mem_cons_self
    have ih := Rg.reKi (gs := gs) (es := es) h.2 fun x hx => hF x (List.mem_cons_of_mem _ hx)
    simp only [gk, esD, List.map_cons, ReKi] at ih ⊢
    refine ⟨⟨by rw [h.1.1]; rfl, ?_⟩, ih⟩
    rw [re_list]
    exact ⟨g.2.1, g.2.2, rfl, h1, h.1.2, by rw [← h.1.2.len]; exact h2⟩
/-- a place that F does not hear of is written, no own slot being set -/
theorem Rel.wr {K : PySem.W.Frag} {B F0 F H : Hp} {ρ : Nv} {σ : L2.St} (R : Rel K B F0 w F ρ σ H) (hw : ∀ i ∈ w, ∀ d, ρ[i]? ≠ some (some d)) {p : Addr} {o : HO} (hB : B p = none) (hF : F p = none) : Rel K B F0 w F ρ σ (upd H p o) where
  g := ⟨R.g.f, fun a u ha => by rw [upd_ne (ne_of_none ha hB)]; exact R.g.h a u ha, fun a u ha => by rw [upd_ne (ne_of_none ha hF)]; exact R.g.l a u ha, R.g.n⟩
  len := R.len
  val := R.val
  own := fun i d hi e => absurd e (hw i hi d)
  sep := fun i j p hi _ _ ⟨d, e⟩ => absurd e (hw i hi d)
def unset (w : List Nat) (ρ : Nv) : Bool := w.all fun q => match ρ[q]? with
  | some (some _) => false
  | _ => true
theorem unset_iff {w : List Nat} {ρ : Nv} (h : unset w ρ = true) : ∀ i ∈ w, ∀ d, ρ[i]? ≠ some (some d) := fun i hi d e => by
  have := List.all_eq_true.mp h i hi
  rw [e] at this
  cases this
def sGroup (w : List Nat) (i j k p : Nat) : XS := fun ρ => (xVar p ρ).bind fun d => match d with
  | .tuple items => (grpAll items []).bind fun es => (forGo (tT [j, k]) sNext items (ρ.set i none)).bind fun o => match o with
    | .nx ρ1 => if unset w ρ = true ∧ items.length ≤ 10000 ∧ i < ρ.length ∧ j < ρ.length ∧ k < ρ.length then some (.nx (ρ1.set i (if es.isEmpty then none else some (.dict (esD es))))) else none
    | _ => none
  | _ => none
theorem GI.app {K : PySem.W.Frag} {B F H : Hp} {d p : Addr} {gs1 gs2 : Gs} {g : Int × (Addr × List V)} {es es' : List (Int × List D)} {n : Nat} {u : V} (I : GI K B F H d (gs1 ++ g :: gs2) es n) (hp : H p = none) (r : Rg K F (gs1 ++ (g.1, g.2.1, g.2.2 ++ [u]) :: gs2) es') :
    GI K B F (upd (upd H p (.lst [])) g.2.1 (.lst (g.2.2 ++ [u]))) d (gs1 ++ (g.1, g.2.1, g.2.2 ++ [u]) :: gs2) es' (n + 1) := by
  have hg : g ∈ gs1 ++ g :: gs2 := List.mem_append_right _ List.mem_cons_self
  obtain ⟨k1, k2, k3, k4, k5⟩ := I.it g hg
  have hgp : g.2.1 ≠ p := ne_of_none k1 hp
  have hdp : d ≠ p := ne_of_none I.dd hp
  have hnd := I.nd
  rw [List.map_append, List.map_cons] at hnd
  have hother : ∀ x, x ∈ gs1 ∨ x ∈ gs2 → x.2.1 ≠ g.2.1 := fun x hx e => by
    rw [List.nodup_append] at hnd
    obtain ⟨_, n2, n3⟩ := hnd
    rw [List.nodup_cons] at n2
    rcases hx with hx | hx
    · exact n3 x.2.1 (List.mem_map.mpr ⟨x, hx, rfl⟩) g.2.1 List.mem_cons_self e
    · exact n2.1 (List.mem_map.mpr ⟨x, hx, e⟩)
  have hit : ∀ x, x ∈ gs1 ∨ x ∈ gs2 → (upd (upd H p (.lst [])) g.2.1 (.lst (g.2.2 ++ [u]))) x.2.1 = some (.lst x.2.2) ∧ F x.2.1 = none ∧ B x.2.1 = none ∧ x.2.1 ≠ d ∧ x.2.2.length ≤ n + 1 := fun x hx => by
    have hxm : x ∈ gs1 ++ g :: gs2 := by
      rcases hx with hx | hx
      · exact List.mem_append_left _ hx
      · exact List.mem_append_right _ (List.mem_cons_of_mem _ hx)
    obtain ⟨j1, j2, j3, j4, j5⟩ := I.it x hxm
    refine ⟨?_, j2, j3, j4, Nat.le_succ_of_le j5⟩
    rw [upd_ne (hother x hx), upd_ne (ne_of_none j1 hp)]
    exact j1
  refine ⟨?_, I.dF, I.dB, fun x hx => ?_, ?_, r, ?_⟩
  · rw [upd_ne (Ne.symm k4), upd_ne hdp, I.dd]
    congr 2
    simp [gk]
  · rcases List.mem_append.mp hx with hx | hx
    · exact hit x (.inl hx)
    · rcases List.mem_cons.mp hx with rfl | hx
      · exact ⟨upd_same, k2, k3, k4, by rw [List.length_append]; exact Nat.succ_le_succ k5⟩
      · exact hit x (.inr hx)
  · rw [List.map_append, List.map_cons]
    exact hnd
  · have := I.len
    rw [List.length_append, List.length_cons] at this ⊢
    omega
theorem GI.new {K : PySem.W.Frag} {B F H : Hp} {d p : Addr} {gs : Gs} {es es' : List (Int × List D)} {n : Nat} {i : Int} {u : V} (I : GI K B F H d gs es n) (hp : H p = none) (hF : F p = none) (hB : B p = none) (hn : valV (gk gs) (.inl i) = none) (r : Rg K F (gs ++ [(i, p, [u])]) es') :
    GI K B F (upd (upd (upd H p (.lst [])) d (.dK (putK (gk gs) (.inl i) (.ref p)))) p (.lst ([] ++ [u]))) d (gs ++ [(i, p, [u])]) es' (n + 1) := by
  have hdp : d ≠ p := ne_of_none I.dd hp
  refine ⟨?_, I.dF, I.dB, fun x hx => ?_, ?_, r, ?_⟩
  · rw [upd_ne hdp, upd_same, putK_new _ hn]
    simp [gk]
  · rcases List.mem_append.mp hx with hx | hx
    · obtain ⟨j1, j2, j3, j4, j5⟩ := I.it x hx
      have hxp : x.2.1 ≠ p := ne_of_none j1 hp
      refine ⟨?_, j2, j3, j4, Nat.le_succ_of_le j5⟩
      rw [upd_ne hxp, upd_ne j4, upd_ne hxp]
      exact j1
    · rw [List.mem_singleton.mp hx]
      exact ⟨upd_same, hF, hB, Ne.symm hdp, Nat.le_add_left _ _⟩
  · rw [List.map_append, List.nodup_append]
    refine ⟨I.nd, List.pairwise_singleton _ _, fun x hx y hy e => ?_⟩
    rw [List.map_cons, List.map_nil, List.mem_singleton] at hy
    obtain ⟨g, hg, rfl⟩ := List.mem_map.mp hx
    have := (I.it g hg).1
    rw [e, hy, hp] at this
    cases this
  · rw [List.length_append]
    exact Nat.succ_le_succ I.len
/-- what was grouped becomes everyone's -/
theorem GI.tell {K : PySem.W.Frag} {B F0 F H : Hp} {d : Addr} {gs : Gs} {es : List (Int × List D)} {n : Nat} {ρ : Nv} {σ : L2.St} {i : Nat} (I : GI K B F H d gs es n) (hn : n ≤ big) (R : Rel K B F0 w F ρ σ H) (hw : ∀ i ∈ w, ∀ d, ρ[i]? ≠ some (some d)) (hi : i ∉ w) (hσ : σ[i]? = some (some (.ref d))) :
    ∃ F', Same F F' ∧ Rel K B F0 w F' (ρ.set i (if es.isEmpty then none else some (.dict (esD es)))) σ H := by
  classical
  let nw : Addr → Prop := fun a => a = d ∨ ∃ g ∈ gs, a = g.2.1
  have nwF : ∀ a, nw a → F a = none ∧ B a = none ∧ ∃ o, H a = some o ∧ ∀ xs, o ≠ .tup xs := fun a h => by
    rcases h with rfl | ⟨g, hg, rfl⟩
    · exact ⟨I.dF, I.dB, _, I.dd, fun xs q => by cases q⟩
    · obtain ⟨j1, j2, j3, _⟩ := I.it g hg
      exact ⟨j2, j3, _, j1, fun xs q => by cases q⟩
  let F' : Hp := fun a => if nw a then H a else F a
  have f1 : ∀ a, nw a → F' a = H a := fun a h => if_pos h
  have f2 : ∀ a, ¬ nw a → F' a = F a := fun a h => if_neg h
  have sm : Same F F' := fun a u ha => by
    rw [f2 a fun h => by rw [(nwF a h).1] at ha; cases ha]; exact ha
  have hd : F' d = some (.dK (gk gs)) := by rw [f1 d (.inl rfl)]; exact I.dd
  have hre : es.isEmpty = false → Re K F' (.ref d) (.dict (esD es)) := fun he => by
    simp only [Re]
    refine .inr (.inr (.inl ⟨d, _, rfl, hd, (I.rel.mono sm).reKi fun g hg => ?_, ?_⟩))
    · obtain ⟨j1, _, _, _, j5⟩ := I.it g hg
      rw [f1 g.2.1 (.inr ⟨g, hg, rfl⟩)]
      exact ⟨j1, Nat.le_trans j5 hn⟩
    · cases es with
      | nil => cases he
      | cons e es => simp [esD]
  refine ⟨F', sm, ⟨⟨R.g.f.trans sm, R.g.h, fun a u ha => ?_, fun a o ha ht => ?_⟩, by rw [List.length_set]; exact R.len, fun j dj hj ej => ?_, fun j dj hj ej => ?_, fun j k r hj hk hne ⟨d1, e1⟩ => ?_⟩⟩
  · by_cases h : nw a
    · rw [f1 a h] at ha; exact .inl ha
    · rw [f2 a h] at ha; exact R.g.l a u ha
  · rw [f2 a fun h => by rw [(nwF a h).2.1] at ha; cases ha]
    exact R.g.n a o ha ht
  · by_cases e : i = j
    · subst e
      have hl : i < ρ.length := by
        have := (List.getElem?_eq_some_iff.mp ej).1
        rwa [List.length_set] at this
      rw [List.getElem?_set_self hl] at ej
      cases he : es.isEmpty with
      | true => rw [he] at ej; cases ej
      | false =>
        rw [he] at ej
        cases ej
        exact ⟨.ref d, hσ, hre he⟩
    · rw [List.getElem?_set_ne e] at ej
      obtain ⟨v, h1, h2⟩ := R.val j dj hj ej
      exact ⟨v, h1, h2.m sm⟩
  · have e : i ≠ j := fun q => hi (q ▸ hj)
    rw [List.getElem?_set_ne e] at ej
    exact absurd ej (hw j hj dj)
  · have e : i ≠ j := fun q => hi (q ▸ hj)
    rw [List.getElem?_set_ne e] at e1
    exact absurd e1 (hw j hj d1)
theorem Rel.hide {K : PySem.W.Frag} {B F0 F H : Hp} {ρ : Nv} {σ : L2.St} {i : Nat} (R : Rel K B F0 w F ρ σ H) (hi : i ∉ w) (x : Option V) : Rel K B F0 w F (ρ.set i none) (σ.set i x) H := by
  have hset : ∀ (j : Nat) (d' : D), (ρ.set i none)[j]? = some (some d') → i ≠ j ∧ ρ[j]? = some (some d') := fun j d' e' => by
    by_cases h : i = j
    · subst h
      have hl : i < ρ.length := by
        have := (List.getElem?_eq_some_iff.mp e').1
        rwa [List.length_set] at this
      rw [List.getElem?_set_self hl] at e'
      cases e'
    · rw [List.getElem?_set_ne h] at e'
      exact ⟨h, e'⟩
  refine ⟨R.g, by rw [List.length_set, List.length_set]; exact R.len, fun j d' hj e => ?_, fun j d' hj e => ?_, fun j k q hj hk hn ⟨d1, e1⟩ ⟨d2, e2⟩ => ?_⟩
  · obtain ⟨h1, h2⟩ := hset j d' e
    rw [List.getElem?_set_ne h1]
    exact R.val j d' hj h2
  · obtain ⟨h1, h2⟩ := hset j d' e
    rw [List.getElem?_set_ne h1]
    exact R.own j d' hj h2
  · obtain ⟨h1, h2⟩ := hset j d1 e1
    obtain ⟨h3, h4⟩ := hset k d2 e2
    rw [List.getElem?_set_ne h1, List.getElem?_set_ne h3]
    exact R.sep j k q hj hk hn ⟨d1, h2⟩ ⟨d2, h4⟩
theorem dss_group {i j k p : Nat} {x y z pn : Str} {px dp ap py pz tp pp px2 apos2 py2 lp cpos2 apos pz2 cpos ep fp : Pos} {kk : Nat}
    (hi : S.N[i]? = some x) (hil : Loc S.sc x) (hiv : Vis S.sc x) (hif : S.fn x = true ∨ S.sc.names.lookup x = some .local) (hiw : i ∉ w)
    (hj : S.N[j]? = some y) (hjl : Loc S.sc y) (hjv : Vis S.sc y) (hjf : S.fn y = true ∨ S.sc.names.lookup y = some .local) (hjw : j ∉ w)
    (hk : S.N[k]? = some z) (hkl : Loc S.sc z) (hkv : Vis S.sc z) (hkf : S.fn z = true ∨ S.sc.names.lookup z = some .local) (hkw : k ∉ w)
    (hp : S.N[p]? = some pn) (hpv : Vis S.sc pn) (hpw : p ∉ w) (hne : i ≠ j ∧ i ≠ k ∧ j ≠ k ∧ i ≠ p) (rest : DSs G S w sts s)
    (hdx : ∀ n ∈ [x, y, z, pn], (n == ("__debug__" : Str)) = false ∧ (n == ("__classdict__" : Str)) = false := by decide)
    (hs : ∀ (env : Env) v, foldedSetIterable (.Name pn pp) env v = pure v := by intro _ _; rfl)
    (hm2 : ∀ X : Cx, M2 X (.Name x px2) "setdefault" apos2 (.Name y py2) (.List [] lp) cpos2 := by exact fun _ => ⟨rfl, rfl, rfl, rfl⟩)
    (hbase : ∀ env : Env, attributeBase (.Call (.Attribute (.Name x px2) "setdefault" apos2) [.Name y py2, .List [] lp] [] cpos2) "append" env (eval (.Call (.Attribute (.Name x px2) "setdefault" apos2) [.Name y py2, .List [] lp] [] cpos2) env) = eval (.Call (.Attribute (.Name x px2) "setdefault" apos2) [.Name y py2, .List [] lp] [] cpos2) env := by intro _; rfl)
    (hfew : ∀ env : Env, ((backTo cpos (starEach [.Name z pz2] env)).all (fun x => !x.1) && (backToKw cpos (keywordEach [] env)).all (fun x => x.1.isSome) && decide (([Expr.Name z pz2] : List Expr).length + ([] : List Keyword).length + (if ([] : List Keyword).isEmpty then 0 else 1) < 30)) = true := by intro _; rfl)
    (hline : (apos.endLine == cpos.line) = true := by rfl) (hst : ∀ env : Env, starEach [.Name z pz2] env = (false, eval (.Name z pz2) env) :: starEach [] env := by intro _; rfl)
    (hn2 : ∀ env : Env, (assignEach [.Name y py, .Name z pz] env).length = 2 := by intro _; rfl) (hst2 : ∀ env : Env, (assignEach [.Name y py, .Name z pz] env).findIdx? (·.1) = none := by intro _; rfl) (hc : S.cm = true := by rfl) :
    DSs G S w (.Assign [.Name x px] (.Dict [] [] dp) ap :: .For (.Tuple [.Name y py, .Name z pz] kk tp) (.Name pn pp) [.Expr (.Call (.Attribute (.Call (.Attribute (.Name x px2) "setdefault" apos2) [.Name y py2, .List [] lp] [] cpos2) "append" apos) [.Name z pz2] [] cpos) ep] [] fp :: sts) (sSeq (sGroup w i j k p) s) := by
  obtain ⟨tu, pu, vu⟩ := rest
  obtain ⟨hij, hik, hjk, hip⟩ := hne
  have hX1 := hdx x (by simp)
  have hY1 := hdx y (by simp)
  have hZ1 := hdx z (by simp)
  have hP1 := hdx pn (by simp)
  refine ⟨fun W => tSeq (tAsg tDNewK (gName i)) (tSeq (tFor (iTup G.K (tVar p)) (gTup G.K 2 (gCons (gName j) (gCons (gName k) gNil))) (tDrop (tBM G.K "list" rAppend (tDSetd (tVar i) (tVar j) (tLst tNil)) (tCons (tVar k) tNil)))) (tu W)), fun X W hX tk => ?_, fun W B F0 ρ o h F σ H R E pp => ?_⟩
  · have gi : PG X (.Name x px) (gName i) := pg_name (by rw [hX.N]; exact hX.nd) (by rw [hX.N]; exact hi) (by rw [hX.sc]; exact hil) (by rw [hX.sc, hX.fn]; exact hif)
    have gj : PG X (.Name y py) (gName j) := pg_name (by rw [hX.N]; exact hX.nd) (by rw [hX.N]; exact hj) (by rw [hX.sc]; exact hjl) (by rw [hX.sc, hX.fn]; exact hjf)
    have gk' : PG X (.Name z pz) (gName k) := pg_name (by rw [hX.N]; exact hX.nd) (by rw [hX.N]; exact hk) (by rw [hX.sc]; exact hkl) (by rw [hX.sc, hX.fn]; exact hkf)
    have vi : PE X (.Name x px2) (tVar i) := pe_var (by rw [hX.N]; exact hi) (by rw [hX.sc]; exact hiv) hX1.1 hX1.2
    have vj : PE X (.Name y py2) (tVar j) := pe_var (by rw [hX.N]; exact hj) (by rw [hX.sc]; exact hjv) hY1.1 hY1.2
    have vk : PE X (.Name z pz2) (tVar k) := pe_var (by rw [hX.N]; exact hk) (by rw [hX.sc]; exact hkv) hZ1.1 hZ1.2
    have vp : PE X (.Name pn pp) (tVar p) := pe_var (by rw [hX.N]; exact hp) (by rw [hX.sc]; exact hpv) hP1.1 hP1.2
    rw [← hX.K]
    refine pss_cons (ps_asg pe_dnewK gi rfl rfl) (pss_cons (ps_for hX.po (hX.calm hc) (pi_tup vp) (pg_tup (hX.calm hc) (pgs_cons gj (pgs_cons gk' pgs_nil)) (hn2 _) (hst2 _)) (pss_one (ps_expr ?_ rfl)) (hs _)) (pu X W hX tk))
    exact pe_bm PySem.F.plainAttrs_list PySem.F.slot_list_append PySem.F.type_list_append mt_append (pe_dsetd vi vj (pe_lst pa_nil) (hm2 X)) (pa_cons vk pa_nil (hst _)) (hbase _) (hfew _) hline (hst _) rfl
  · unfold sSeq sGroup at h
    obtain ⟨o1, h1, hrest⟩ := bindS h
    obtain ⟨dp', e1, h2⟩ := bindS h1
    have e3 := xVar_some e1
    split at h2
    · rename_i items
      obtain ⟨es, hgrp, h3⟩ := bindS h2
      obtain ⟨o2, hfor, h4⟩ := bindS h3
      split at h4
      · rename_i ρ1
        split at h4
        · cases h4
          rename_i hun
          obtain ⟨hun, hil2, hli⟩ := hun
          have hwu := unset_iff hun
          obtain ⟨vp, hσp, rp⟩ := R.val p _ hpw e3
          rw [re_tuple] at rp
          obtain ⟨a, vs, rfl, ha, rv, _⟩ := rp
          have hlenS : i < σ.length ∨ ¬ i < σ.length := Nat.lt_or_ge i σ.length |>.imp id Nat.not_lt.mpr
          intro dd hdd
          have hBd : B dd = none := R.g.h.free hdd
          have hFd : F dd = none := R.l.none hdd
          have hpS : p < σ.length := (List.getElem?_eq_some_iff.mp hσp).1
          have R1 : Rel G.K B F0 w F (ρ.set i none) (σ.set i (some (.ref dd))) (upd H dd (.dK [])) := by
            refine (R.hide hiw (some (.ref dd))).wr (fun q hq d e => ?_) hBd hFd
            have : i ≠ q := fun z => hiw (z ▸ hq)
            rw [List.getElem?_set_ne this] at e
            exact hwu q hq d e
          show tSeq _ _ E (σ.set i (some (.ref dd))) (upd H dd (.dK []))
          refine ⟨.ref a, by rw [List.getElem?_set_ne hip]; exact hσp, a, rfl, ⟨vs, SqT.of ?_⟩, ?_⟩
          · rw [upd_ne (fun z => by rw [z, hFd] at ha; cases ha)]
            exact R.l.tup ha
          have hst0 : (∃ hi2 : i < σ.length, (σ.set i (some (.ref dd)))[i]? = some (some (.ref dd))) ∨ ¬ i < σ.length := by
            rcases hlenS with h | h
            · exact .inl ⟨h, List.getElem?_set_self h⟩
            · exact .inr h
          refine ⟨fun q m σ' H' => m = items.length - q ∧ q ≤ items.length ∧ ∃ ρ' gs es', Rel G.K B F0 w F ρ' σ' H' ∧ (∀ r ∈ w, ∀ d, ρ'[r]? ≠ some (some d)) ∧ (i < σ'.length → σ'[i]? = some (some (.ref dd))) ∧ GI G.K B F H' dd gs es' q ∧ grpAll (items.drop q) es' = some es ∧ forGo (tT [j, k]) sNext (items.drop q) ρ' = some (.nx ρ1) ∧ (i < σ'.length ∧ j < σ'.length ∧ k < σ'.length),
            ⟨items.length, by simp, Nat.zero_le _, ρ.set i none, [], [], R1, fun r hr d e => ?_, fun hl => ?_, ⟨upd_same, hFd, hBd, (fun g hg => by cases hg), List.nodup_nil, trivial, Nat.le_refl _⟩, by rw [List.drop_zero]; exact hgrp, by rw [List.drop_zero]; exact hfor, ?_⟩, ?_⟩
          · have : i ≠ r := fun z => hiw (z ▸ hr)
            rw [List.getElem?_set_ne this] at e
            exact hwu r hr d e
          · rw [List.length_set] at hl
            exact List.getElem?_set_self hl
          · rw [List.length_set, ← R.len]; exact hli
          rintro q m σ' H' ⟨rfl, hqle, ρ', gs, es', R', hw', hσi, gi, hgr, hgo, hll⟩
          by_cases hlt : q < items.length
          · obtain ⟨v, hv1, hv2⟩ := rv.get (List.getElem?_eq_getElem hlt)
            have hat : H' a = some (.tup vs) := R'.l.tup ha
            refine .inr ⟨⟨vs, v, SqT.of hat, hv1⟩, fun σ'' H'' => ∃ ρ' gs es', Rel G.K B F0 w F ρ' σ'' H'' ∧ (∀ r ∈ w, ∀ d, ρ'[r]? ≠ some (some d)) ∧ (i < σ''.length → σ''[i]? = some (some (.ref dd))) ∧ GI G.K B F H'' dd gs es' (q + 1) ∧ grpAll (items.drop (q + 1)) es' = some es ∧ forGo (tT [j, k]) sNext (items.drop (q + 1)) ρ' = some (.nx ρ1) ∧ (i < σ''.length ∧ j < σ''.length ∧ k < σ''.length),
              fun σ'' H'' hN => ⟨items.length - (q + 1), by omega, rfl, hlt, hN⟩, fun x' H3 hy => ?_⟩
            obtain ⟨rfl, y2⟩ := hy
            have y3 := y2 vs (SqT.of hat)
            rw [hv1] at y3
            cases y3
            have hcons : items.drop q = items[q] :: items.drop (q + 1) := List.drop_eq_getElem_cons hlt
            rw [hcons] at hgr hgo
            generalize items[q] = it at hv2 hgr hgo
            unfold grpAll at hgr
            split at hgr
            · rename_i heq; cases heq
            · rename_i n dv r' heq
              cases heq
              rw [re_tuple] at hv2
              obtain ⟨b, xs, rfl, hb, rx, _⟩ := hv2
              obtain ⟨v1, u, rfl, r1, ru⟩ := re_args2 rx
              have r1 := re_int.mp r1
              subst r1
              unfold forGo at hgo
              obtain ⟨ρ2, t1, hgo⟩ := bindS hgo
              have t1 : setAll [j, k] [PyData.int n, dv] ρ' = ρ2 := by
                unfold tT at t1
                simp only [List.length_cons, List.length_nil, if_true] at t1
                exact Option.some.inj t1
              have hρ2 : ρ2 = (ρ'.set j (some (.int n))).set k (some dv) := by rw [← t1]; rfl
              unfold sNext at hgo
              simp only [Option.bind_some, forNx] at hgo
              have R2 : Rel G.K B F0 w F ρ2 ((σ'.set j (some (.int n))).set k (some u)) H3 := by
                rw [hρ2]
                exact (R'.set hjw (re_int.mpr rfl)).set hkw ru
              have hw2 : ∀ r ∈ w, ∀ d, ρ2[r]? ≠ some (some d) := fun r hr d e => by
                rw [hρ2, List.getElem?_set_ne (show k ≠ r from fun z => hkw (z ▸ hr)), List.getElem?_set_ne (show j ≠ r from fun z => hjw (z ▸ hr))] at e
                exact hw' r hr d e
              have hlen2 : ((σ'.set j (some (.int n))).set k (some u)).length = σ'.length := by rw [List.length_set, List.length_set]
              have si : ((σ'.set j (some (.int n))).set k (some u))[i]? = some (some (.ref dd)) := by
                rw [List.getElem?_set_ne (Ne.symm hik), List.getElem?_set_ne (Ne.symm hij)]
                exact hσi hll.1
              have sj : ((σ'.set j (some (.int n))).set k (some u))[j]? = some (some (.int n)) := by
                rw [List.getElem?_set_ne (Ne.symm hjk), List.getElem?_set_self hll.2.1]
              have sk : ((σ'.set j (some (.int n))).set k (some u))[k]? = some (some u) := by
                rw [List.getElem?_set_self (by rw [List.length_set]; exact hll.2.2)]
              refine ⟨b, [.int n, u], rfl, SqT.of (R'.l.tup hb), rfl, .int n, [u], rfl, u, [], rfl, rfl, ?_⟩
              refine ⟨.ref dd, si, dd, rfl, .inl ⟨gk gs, .inl gi.dd⟩, .int n, sj, Nat.zero_le _, fun pl hpl => ?_⟩
              have hBp : B pl = none := R'.g.h.free hpl
              have hFp : F pl = none := R'.l.none hpl
              have hdp : dd ≠ pl := ne_of_none gi.dd hpl
              have hql : q ≤ 10000 := by omega
              have hsz : (10001 : Nat) ≤ sizeLine := by decide
              have hgl := gi.len
              refine ⟨gk gs, .inl n, by rw [upd_ne hdp]; exact gi.dd, rfl, by rw [gk, List.length_map]; omega, fun v hv => ?_, fun hv => ?_⟩
              · rcases grp_step (i := n) ru gi.rel with ⟨g, gs1, gs2, e5, e6, e7⟩ | ⟨e6, _⟩
                · rw [e6] at hv
                  cases hv
                  subst e5
                  obtain ⟨k1, k2, k3, k4, k5⟩ := gi.it g (List.mem_append_right _ List.mem_cons_self)
                  have hgp : g.2.1 ≠ pl := ne_of_none k1 hpl
                  have hat2 : (upd H3 pl (.lst [])) g.2.1 = some (.lst g.2.2) := by rw [upd_ne hgp]; exact k1
                  refine ⟨.inl ⟨rfl, g.2.2, SqL.of hat2⟩, u, sk, g.2.1, g.2.2, u, rfl, rfl, hat2, by omega, ?_⟩
                  exact ⟨ρ2, _, _, (R2.wr hw2 hBp hFp).wr hw2 k3 k2, hw2, fun _ => si, gi.app hpl e7, hgr, hgo, by rw [hlen2]; exact hll⟩
                · rw [e6] at hv; cases hv
              · rcases grp_step (i := n) ru gi.rel with ⟨g, gs1, gs2, e5, e6, e7⟩ | ⟨e6, e7⟩
                · rw [e6] at hv; cases hv
                · have hp3 : (upd (upd H3 pl (.lst [])) dd (.dK (putK (gk gs) (.inl n) (.ref pl)))) pl = some (.lst []) := by rw [upd_ne (Ne.symm hdp), upd_same]
                  refine ⟨.inl ⟨rfl, [], SqL.of hp3⟩, u, sk, pl, [], u, rfl, rfl, hp3, by show 0 < sizeLine; omega, ?_⟩
                  exact ⟨ρ2, _, _, ((R2.wr hw2 hBp hFp).wr hw2 gi.dB gi.dF).wr hw2 hBp hFp, hw2, fun _ => si, gi.new hpl hFp hBp hv (e7 pl), hgr, hgo, by rw [hlen2]; exact hll⟩
            · cases hgr
          · have e : q = items.length := by omega
            subst e
            rw [List.drop_length] at hgr hgo
            unfold grpAll at hgr
            unfold forGo at hgo
            cases hgr
            cases hgo
            refine .inl ⟨⟨vs, SqT.of (R'.l.tup ha), by rw [rv.len]; exact Nat.le_refl _⟩, ?_⟩
            obtain ⟨F', sm, R3⟩ := gi.tell (Nat.le_trans hil2 (by decide)) R' hw' hiw (hσi hll.1)
            exact vu W B F0 _ o hrest F' σ' H' R3 E (pp.mono sm)
        · cases h4
      · cases h4
    · cases h2
end

/-! DLT: the data layer: errors: raise, defs that raise, try. -/

/-! ### contracts of defs that may raise -/
inductive Rx where
  | ok (d : D) | ex (c : Str)
def RxP (G : Wd) (F H : Hp) (Q : VK) (E : XK) : Rx → Prop
  | .ok d => ∀ v F' H', Grow F H F' H' → Re G.K F' v d → Q v H'
  | .ex c => ∀ F' H', Grow F H F' H' → E (cv G c) none H'
def spX (G : Wd) (n : Nat) (Φ : List D → Option Rx) : Sp := fun vs H Q E => vs.length = n ∧ ∃ F ds r, Ld F H ∧ ReAll G.K F vs ds ∧ Φ ds = some r ∧ RxP G F H Q E r
structure KnX (G : Wd) (k : Nat) (x : Str) (n : Nat) (Φ : List D → Option Rx) : Prop where
  ex : ∃ (f : Addr) (fd : FuncData) (ps : List Str), FnOk G.P G.w G.K G.mg G.base (L2N.CX G.P G.w) k f fd ps (spX G n Φ) ∧ G.mg x = some (.ref f) ∧ PySem.W.keepIn G.K (.ref f) = true ∧ Binds G.K fd ps []
abbrev XX := Nv → Option Rx
def EvX (G : Wd) (w : List Nat) (W : WX) (te : TE) (f : XX) : Prop := ∀ B F0 ρ r, f ρ = some r → ∀ F σ H, Rel G.K B F0 w F ρ σ H → ∀ Q : VK, RxP G F H Q (fun c d H' => W c d σ H') r → te σ H Q
def DX (G : Wd) (S : Sta) (w : List Nat) (e : Expr) (f : XX) : Prop := ∃ te : WX → TE, (∀ X W, In G S X → L2N.Takes X W → PE X e (te W)) ∧ ∀ W, EvX G w W (te W) f
def xXF (Φ : List D → Option Rx) (fs : List XE) : XX := fun ρ => (xArgs fs ρ).bind Φ
def xOk (f : XE) : XX := fun ρ => (f ρ).bind fun d => some (.ok d)
/-- what the error class c (by its name) is known for -/
structure ErrC (G : Wd) (c : Str) : Prop where
  ex : ∃ C, G.mg c = some (.ref C) ∧ PySem.W.excIn G.K C [.type "ValueError", .type "Exception", .type "BaseException", .type "object"] "ValueError.__new__" = true ∧ PySem.W.keepIn G.K (.ref C) = true ∧
    PySem.W.subIn G.K (.ref C) (.type "BaseException") = some true ∧ PySem.W.typeIn G.K (.ref C) = some (.type "type") ∧ PySem.W.exmOne G.K (.ref C) (.ref C) = some true
theorem ErrC.cv {G : Wd} {c : Str} {C : Addr} (h : G.mg c = some (.ref C)) : cv G c = .ref C := by
  unfold DL.cv; rw [h]; rfl
section
variable {G : Wd} {S : Sta} {w : List Nat} {e a b : Expr} {es : List Expr} {f fa fb : XE} {fs : List XE} {pos : Pos} {st : Stmt} {sts : List Stmt} {s t u : XS} {g : XX}
theorem dx_of (h : DE G S w e f) : DX G S w e (xOk f) := by
  obtain ⟨te, p, v⟩ := h
  refine ⟨fun _ => te, fun X W hX _ => p X hX, fun W B F0 ρ r h F σ H R Q q => ?_⟩
  unfold xOk at h
  obtain ⟨d, h1, h2⟩ := bindS h
  cases h2
  exact v B F0 ρ d h1 F σ H R Q q
theorem dx_call {x : Str} {p : Pos} {k n : Nat} {Φ : List D → Option Rx} (h : KnX G k x n Φ) (hk : k ≤ S.k) (hg : S.sc.names.lookup x = some .globalImplicit) (ha : DA G S w (e :: es) fs) (hn : fs.length = n := by rfl) (hdb : (x == ("__debug__" : Str)) = false := by decide)
    (he : ∀ env : Env, starEach (e :: es) env = (false, eval e env) :: starEach es env := by intro _; rfl) (hpl : ∀ env : Env, (backTo pos (starEach es env)).any (·.1) = false := by intro _; rfl) (hc : S.cm = true := by rfl) : DX G S w (.Call (.Name x p) (e :: es) [] pos) (xXF Φ fs) := by
  obtain ⟨f, fd, ps, hF, hm, hkp, hb⟩ := h.ex
  obtain ⟨ta, pa, va⟩ := ha
  refine ⟨fun W => tCallS (spX G n Φ) (WE W) ta, fun X W hX tk => ?_, fun W B F0 ρ r h F σ H R Q q => ?_⟩
  · have hF' : FnOk X.prog X.w X.K X.mg X.base (L2N.CX X.prog X.w) k f fd ps (spX G n Φ) := by rw [hX.p, hX.w, hX.K, hX.mg, hX.base]; exact hF
    exact pe_callS hF' ((hX.room hc).mono hk) (by unfold Gl Env.kindOf; rw [hX.sc]; exact hg) (by rw [hX.mg]; exact hm) (by rw [hX.K]; exact hkp) (by rw [hX.K]; exact hb) (fun σ => L2N.passAt tk σ) (pa X hX) hdb (he _) (hpl _)
  · unfold xXF at h
    obtain ⟨ds, h1, h2⟩ := bindS h
    refine va B F0 ρ ds h1 F σ H R _ fun vs F2 H2 g2 r2 => ?_
    refine ⟨by rw [r2.len, xArgs_len h1]; exact hn, F2, ds, r, (R.grow g2).l, r2, h2, ?_⟩
    cases r with
    | ok d => exact fun v F' H' g r => q v F' H' (g2.trans g) r
    | ex c => exact fun F' H' g => q F' H' (g2.trans g)

/-! ### statements -/
def sRetX (f : XX) : XS := fun ρ => (f ρ).bind fun r => match r with
  | .ok d => some (.rt d)
  | .ex c => some (.ex c ρ)
def sAsgX (t : Tgt) (f : XX) : XS := fun ρ => (f ρ).bind fun r => match r with
  | .ok d => (t ρ d).bind fun ρ' => some (.nx ρ')
  | .ex c => some (.ex c ρ)
def sExpX (f : XX) : XS := fun ρ => (f ρ).bind fun r => match r with
  | .ok _ => some (.nx ρ)
  | .ex c => some (.ex c ρ)
def sRaise (c : Str) : XS := fun ρ => some (.ex c ρ)
theorem ds_retX (h : DX G S w e g) : DS G S w (.Return (some e) pos) (sRetX g) := by
  obtain ⟨te, p, v⟩ := h
  refine ⟨fun W => tRet (te W), fun X W hX tk => ps_ret (p X W hX tk), fun W B F0 ρ o h F σ H R E pp => ?_⟩
  unfold sRetX at h
  obtain ⟨r, h1, h2⟩ := bindS h
  refine v W B F0 ρ r h1 F σ H R _ ?_
  cases r with
  | ok d => cases h2; exact fun x F2 H2 g r => pp x F2 H2 (R.g.trans g) r
  | ex c => cases h2; exact fun F2 H2 g => pp F2 σ H2 g.f (R.grow g)
theorem ds_asgX {tg : Expr} {idx : List Nat} {tt : Tgt} (h : DX G S w e g) (hg : DG G S w idx tg tt) (hs : ∀ env : Env, swapsWithSole [tg] e pos.line env = pure false := by intro _; rfl) (hw : ∀ env : Env, swappedStores [tg] e env = pure none := by intro _; rfl)
    (h1 : ∀ env : Env, (assignEach [tg] env).map (·.2) = [assign tg env] := by intro _; rfl) : DS G S w (.Assign [tg] e pos) (sAsgX tt g) := by
  obtain ⟨te, p, v⟩ := h
  obtain ⟨gg, pg, vg⟩ := hg
  refine ⟨fun W => tAsg (te W) gg, fun X W hX tk => ps_asg (p X W hX tk) (pg X hX) (hs _) (hw _) (h1 _), fun W B F0 ρ o h F σ H R E pp => ?_⟩
  unfold sAsgX at h
  obtain ⟨r, h1, h2⟩ := bindS h
  refine v W B F0 ρ r h1 F σ H R _ ?_
  cases r with
  | ok d =>
    obtain ⟨ρ', h3, h4⟩ := bindS h2
    cases h4
    exact fun x F2 H2 g2 r => vg B F0 ρ d ρ' h3 F2 σ H2 x (R.grow g2) r _ fun σ' R' _ => pp F2 σ' H2 g2.f R'
  | ex c => cases h2; exact fun F2 H2 g => pp F2 σ H2 g.f (R.grow g)
theorem ds_expX (h : DX G S w e g) (hs : ∀ env : Env, swapsWith e none pos.line env = pure false := by intro _; rfl) : DS G S w (.Expr e pos) (sExpX g) := by
  obtain ⟨te, p, v⟩ := h
  refine ⟨fun W => tDrop (te W), fun X W hX tk => ps_expr (p X W hX tk) (hs _), fun W B F0 ρ o h F σ H R E pp => ?_⟩
  unfold sExpX at h
  obtain ⟨r, h1, h2⟩ := bindS h
  refine v W B F0 ρ r h1 F σ H R _ ?_
  cases r with
  | ok d => cases h2; exact fun x F2 H2 g2 r => pp F2 σ H2 g2.f (R.grow g2)
  | ex c => cases h2; exact fun F2 H2 g => pp F2 σ H2 g.f (R.grow g)
theorem ds_raise {c m : Str} {j : Nat} {p p2 pos' : Pos} (hC : ErrC G c) (hg : S.sc.names.lookup c = some .globalImplicit) (hdb : (c == ("__debug__" : Str)) = false := by decide) (hc : S.cm = true := by rfl) :
    DS G S w (.Raise (some (.Call (.Name c p) [.Constant (.str m) j p2] [] pos)) none pos') (sRaise c) := by
  obtain ⟨C, h1, h2, h3, h4, h5, h6⟩ := hC.ex
  refine ⟨fun W => fun _ σ H => W (.ref C) none σ H, fun X W hX tk => ?_, fun W B F0 ρ o h F σ H R E pp => ?_⟩
  · rw [← hX.K] at h2 h3 h4 h5
    exact L2N.ps_raise (hX.calm hc) tk (L2N.pmk_own PySem.F.excBase_ValueError h2 (by rw [hX.mg]; exact h1) h3 (raises_own h4 h5) (by unfold Gl Env.kindOf; rw [hX.sc]; exact hg) hdb)
  · unfold sRaise at h
    cases h
    have z := pp F σ H (Same.refl _) R
    rw [ErrC.cv h1] at z
    exact z
/-- a statement that is never to be reached -/
theorem ds_never (st : Stmt) : DS G S w st (fun _ => none) := ⟨fun _ _ _ _ => False, fun X W _ _ => ⟨fun _ _ _ _ _ _ z => z.elim⟩, fun W B F0 ρ o h => by cases h⟩

/-! ### a def that may raise -/
def outX : Out → Option Rx
  | .rt d => some (.ok d)
  | .nx _ => some (.ok .none)
  | .ex c _ => some (.ex c)
  | _ => none
def runX (n : Nat) (s : XS) (ds : List D) : Option Rx := (s (startN n ds)).bind outX
theorem knx_of {x qual : Str} {st : Stmt} {fa : Addr} {fd : FuncData} {N ps : List Str} {k n : Nat} (F : Fun G.K x qual st fa fd) (Sc : FnScope N ps (defScope st)) (hm : G.mg x = some (.ref fa)) (hb : Binds G.K fd ps []) (hn : ps.length = n) (w : List Nat) (hw : ∀ i ∈ w, n ≤ i)
    (body : DSs G (staF N (defScope st) k) w (defBody st) s) : KnX G (k + 1) x n (fun ds => if ds.length = n then runX N.length s ds else none) := by
  refine ⟨fa, fd, ps, ?_, hm, F.kp, hb⟩
  obtain ⟨oc, od, kV, doc, pm, an, cdv, ct, osl, rfl, lk, hcd⟩ := F.ex
  refine fn_of lk hcd Sc (fun vs H Q E h => by rw [hn]; exact h.1) fun A outer s0 H vs Q E hr h => ?_
  obtain ⟨ts, p, v⟩ := body
  obtain ⟨hl, F1, ds, r, l, re, hd, q⟩ := h
  have hl2 : ds.length = n := by rw [← re.len]; exact hl
  dsimp only at hd
  rw [if_pos hl2] at hd
  refine ⟨ts fun c d _ H => E c d H, p _ _ ⟨rfl, rfl, rfl, rfl, rfl, rfl, rfl, rfl, Sc.nd, fun _ => hr, fun _ => rfl, Sc.kind, passes_of rfl, fun _ => ⟨rfl, rfl⟩, fun _ _ h => nomatch h⟩ (L2N.takes_of rfl rfl rfl rfl), ?_⟩
  unfold runX at hd
  obtain ⟨o, e, hd⟩ := bindS hd
  refine v _ H F1 _ o e F1 _ H (rel_start l re fun i hi => by rw [hl2]; exact hw i hi) _ ?_
  cases o with
  | rt d' =>
    cases hd
    exact fun x F' H' g r => q x F' H' g r
  | nx ρ' =>
    cases hd
    exact fun F' σ' H' _ R => q .non F' H' R.g (re_none.mpr rfl)
  | ex c ρ' =>
    cases hd
    exact fun F' σ' H' _ R => q F' H' R.g
  | bk _ => cases hd
  | ct _ => cases hd
  | rs _ _ => cases hd
end

/-! ### an except suite -/
theorem Rel.forget {K : PySem.W.Frag} {B F0 F H : Hp} {w : List Nat} {ρ : Nv} {σ : L2.St} (R : Rel K B F0 w F ρ σ H) {j : Nat} (hj : j ∉ w) (x : Option V) : Rel K B F0 w F (ρ.set j none) (σ.set j x) H where
  g := R.g
  len := by rw [List.length_set, List.length_set]; exact R.len
  val := fun i d' hi e => by
    by_cases h : j = i
    · subst h
      have hl : j < ρ.length := by
        have := (List.getElem?_eq_some_iff.mp e).1
        rwa [List.length_set] at this
      rw [List.getElem?_set_self hl] at e
      cases e
    · rw [List.getElem?_set_ne h] at e ⊢
      exact R.val i d' hi e
  own := fun i d' hi e => by
    have h : j ≠ i := fun z => hj (z ▸ hi)
    rw [List.getElem?_set_ne h] at e ⊢
    exact R.own i d' hi e
  sep := fun i k p hi hk hn => by
    have h1 : j ≠ i := fun z => hj (z ▸ hi)
    have h2 : j ≠ k := fun z => hj (z ▸ hk)
    rw [List.getElem?_set_ne h1, List.getElem?_set_ne h2, List.getElem?_set_ne h1, List.getElem?_set_ne h2]
    exact R.sep i k p hi hk hn
/-- slot i holds the error, at a -/
abbrev Holds (i : Nat) (a : Addr) (σ : L2.St) : Prop := σ[i]? = some (some (.ref a))
def EvH (K : PySem.W.Frag) (w : List Nat) (i : Nat) (a : Addr) (te : TE) (f : XE) : Prop := ∀ B F0 ρ d, f ρ = some d → ∀ F σ H, Rel K B F0 w F ρ σ H → Holds i a σ → ∀ Q : VK, (∀ v F2 H2, Grow F H F2 H2 → Re K F2 v d → Q v H2) → te σ H Q
def AvH (K : PySem.W.Frag) (w : List Nat) (i : Nat) (a : Addr) (ta : TA) (fs : List XE) : Prop := ∀ B F0 ρ ds, xArgs fs ρ = some ds → ∀ F σ H, Rel K B F0 w F ρ σ H → Holds i a σ → ∀ Q : List V → Hp → Prop, (∀ vs F2 H2, Grow F H F2 H2 → ReAll K F2 vs ds → Q vs H2) → ta σ H Q
/-- an expression of a suite that holds an error of the class c in slot i -/
def DH (G : Wd) (S : Sta) (w : List Nat) (i : Nat) (c : Str) (e : Expr) (f : XE) : Prop := ∀ a, ∃ te, (∀ X, In G (S.hot c a) X → PE X e te) ∧ EvH G.K w i a te f
def DHA (G : Wd) (S : Sta) (w : List Nat) (i : Nat) (c : Str) (es : List Expr) (fs : List XE) : Prop := ∀ a, ∃ ta, (∀ X, In G (S.hot c a) X → PA X es ta) ∧ AvH G.K w i a ta fs
section
variable {G : Wd} {S : Sta} {w : List Nat} {i : Nat} {c : Str} {e a b : Expr} {es rest : List Expr} {f fa fb : XE} {fs : List XE} {pos : Pos} {st : Stmt} {sts : List Stmt} {s t u : XS}
theorem dh_of (h : ∀ a, DE G (S.hot c a) w e f) : DH G S w i c e f := fun a => by
  obtain ⟨te, p, v⟩ := h a
  exact ⟨te, p, fun B F0 ρ d h F σ H R _ Q q => v B F0 ρ d h F σ H R Q q⟩
theorem dha_nil : DHA G S w i c [] [] := fun a => ⟨tNil, fun X _ => pa_nil, fun B F0 ρ ds h F σ H R _ Q q => by
  unfold xArgs at h; cases h
  exact q [] F H (.refl R.l) re_nil⟩
theorem dha_cons (ha : DH G S w i c e f) (hr : DHA G S w i c es fs) (hs : ∀ env : Env, starEach (e :: es) env = (false, eval e env) :: starEach es env := by intro _; rfl) : DHA G S w i c (e :: es) (f :: fs) := fun a => by
  obtain ⟨te, p, v⟩ := ha a
  obtain ⟨ta, pa, va⟩ := hr a
  refine ⟨tCons te ta, fun X hX => pa_cons (p X hX) (pa X hX) (hs _), fun B F0 ρ ds h F σ H R hi Q q => ?_⟩
  obtain ⟨d, es', h1, h2, rfl⟩ := xArgs_cons h
  refine v B F0 ρ d h1 F σ H R hi _ fun x F2 H2 g r => ?_
  refine va B F0 ρ es' h2 F2 σ H2 (R.grow g) hi _ fun xs F3 H3 g3 r3 => ?_
  exact q _ F3 H3 (g.trans g3) (re_cons.mpr ⟨r.m g3.f, r3⟩)
theorem dh_lst (h : DHA G S w i c es fs) (hl : fs.length ≤ 1000 := by decide) : DH G S w i c (.List es pos) (xLst fs) := fun a => by
  obtain ⟨ta, pa, va⟩ := h a
  refine ⟨tLst ta, fun X hX => pe_lst (pa X hX), fun B F0 ρ z h F σ H R hi Q q => ?_⟩
  unfold xLst at h
  obtain ⟨ds, h1, h2⟩ := bindS h
  cases h2
  have hz : ds.length ≤ big := by rw [xArgs_len h1]; exact Nat.le_trans hl (by decide)
  refine va B F0 ρ ds h1 F σ H R hi _ fun vs F2 H2 g2 r2 => ⟨by rw [r2.len]; exact big_le hz, fun p hp => ?_⟩
  obtain ⟨g, rr⟩ := Grow.lst (K := G.K) (R.grow g2).l hp r2 hz
  exact q _ _ _ (g2.trans g) rr
theorem dh_one {op} (h : DH G S w i c a fa) : DH G S w i c (.BoolOp op [a] pos) fa := fun x => by
  obtain ⟨ta, pa, va⟩ := h x
  exact ⟨ta, fun X hX => pe_one (pa X hX), va⟩
theorem dh_and (ha : DH G S w i c a fa) (hb : DH G S w i c (.BoolOp .And (b :: rest) pos) fb) : DH G S w i c (.BoolOp .And (a :: b :: rest) pos) (xAnd fa fb) := fun x => by
  obtain ⟨ta, pa, va⟩ := ha x
  obtain ⟨tb, pb, vb⟩ := hb x
  refine ⟨_, fun X hX => pe_and (pa X hX) (pb X hX), fun B F0 ρ z h F σ H R hi Q q => ?_⟩
  unfold xAnd at h
  obtain ⟨d, h1, h⟩ := bindS h
  cases d <;> simp only [xIf] at h <;> try cases h
  rename_i k
  refine va B F0 ρ _ h1 F σ H R hi _ fun x F2 H2 g2 r2 => ⟨k, re_bool.mp r2, ?_⟩
  cases k with
  | true => exact iteT (vb B F0 ρ z h F2 σ H2 (R.grow g2) hi Q fun v F3 H3 g3 r3 => q v F3 H3 (g2.trans g3) r3)
  | false =>
    cases h
    exact iteF (q _ F2 H2 g2 (re_bool.mpr rfl))
theorem dh_or (ha : DH G S w i c a fa) (hb : DH G S w i c (.BoolOp .Or (b :: rest) pos) fb) : DH G S w i c (.BoolOp .Or (a :: b :: rest) pos) (xOr fa fb) := fun x => by
  obtain ⟨ta, pa, va⟩ := ha x
  obtain ⟨tb, pb, vb⟩ := hb x
  refine ⟨_, fun X hX => pe_or (pa X hX) (pb X hX), fun B F0 ρ z h F σ H R hi Q q => ?_⟩
  unfold xOr at h
  obtain ⟨d, h1, h⟩ := bindS h
  cases d <;> simp only [xIf] at h <;> try cases h
  rename_i k
  refine va B F0 ρ _ h1 F σ H R hi _ fun x F2 H2 g2 r2 => ⟨k, re_bool.mp r2, ?_⟩
  cases k with
  | false => exact iteF (vb B F0 ρ z h F2 σ H2 (R.grow g2) hi Q fun v F3 H3 g3 r3 => q v F3 H3 (g2.trans g3) r3)
  | true =>
    cases h
    exact iteT (q _ F2 H2 g2 (re_bool.mpr rfl))
theorem dh_not (ha : DH G S w i c a fa) : DH G S w i c (.UnaryOp .Not a pos) (xNot fa) := fun x => by
  obtain ⟨ta, pa, va⟩ := ha x
  refine ⟨_, fun X hX => pe_not (pa X hX), fun B F0 ρ z h F σ H R hi Q q => ?_⟩
  unfold xNot x1 at h
  obtain ⟨d, h1, h⟩ := bindS h
  cases d <;> simp only [dNot] at h <;> try cases h
  refine va B F0 ρ _ h1 F σ H R hi _ fun x F2 H2 g2 r2 => ⟨_, re_bool.mp r2, q _ F2 H2 g2 (re_bool.mpr rfl)⟩
theorem dh_op {op : Operator} {r : R2} {g : D → D → Option D} (ho : ∀ x X, In G (S.hot c x) X → OpR X (binaryOp op) r) (hr : OpD G.K r g) (ha : DH G S w i c a fa) (hb : DH G S w i c b fb) : DH G S w i c (.BinOp a op b pos) (x2 g fa fb) := fun x => by
  obtain ⟨ta, pa, va⟩ := ha x
  obtain ⟨tb, pb, vb⟩ := hb x
  refine ⟨tOp r ta tb, fun X hX => pe_op (ho x X hX) (pa X hX) (pb X hX), fun B F0 ρ z h F σ H R hi Q q => ?_⟩
  unfold x2 at h
  obtain ⟨d, h1, h⟩ := bindS h
  obtain ⟨d2, h2, h⟩ := bindS h
  refine va B F0 ρ d h1 F σ H R hi _ fun x F2 H2 g2 r2 => ?_
  refine vb B F0 ρ d2 h2 F2 σ H2 (R.grow g2) hi _ fun y F3 H3 g3 r3 => ?_
  exact hr F3 H3 x y d d2 z (R.grow g2 |>.grow g3).l (r2.m g3.f) r3 h Q fun v F4 H4 g4 r4 => q v F4 H4 ((g2.trans g3).trans g4) r4
theorem dh_ix (ha : DH G S w i c a fa) (hb : DH G S w i c b fb) (hs : PlainIx b := by exact fun _ _ => rfl) : DH G S w i c (.Subscript a b pos) (x2 dIx fa fb) := fun x => by
  obtain ⟨ta, pa, va⟩ := ha x
  obtain ⟨tb, pb, vb⟩ := hb x
  refine ⟨tOp (rIx G.K) ta tb, fun X hX => pe_ix (by rw [← hX.K]; exact ix_seq) (pa X hX) (pb X hX) hs, fun B F0 ρ z h F σ H R hi Q q => ?_⟩
  unfold x2 at h
  obtain ⟨d, h1, h⟩ := bindS h
  obtain ⟨d2, h2, h⟩ := bindS h
  refine va B F0 ρ d h1 F σ H R hi _ fun x F2 H2 g2 r2 => ?_
  refine vb B F0 ρ d2 h2 F2 σ H2 (R.grow g2) hi _ fun y F3 H3 g3 r3 => ?_
  exact opd_ix F3 H3 x y d d2 z (R.grow g2 |>.grow g3).l (r2.m g3.f) r3 h Q fun v F4 H4 g4 r4 => q v F4 H4 ((g2.trans g3).trans g4) r4
theorem evh_cb {K : PySem.W.Frag} {x : Addr} {r : List V → Hp → VK → Prop} {φ : List D → Option D} {ta : TA} (hr : CvD K r φ) (va : AvH K w i x ta fs) : EvH K w i x (tCB r ta) (xF φ fs) := fun B F0 ρ z h F σ H R hi Q q => by
  unfold xF at h
  obtain ⟨ds, h1, h⟩ := bindS h
  refine va B F0 ρ ds h1 F σ H R hi _ fun vs F2 H2 g2 r2 => ?_
  exact hr F2 H2 vs ds z (R.grow g2).l r2 h Q fun v F3 H3 g3 r3 => q v F3 H3 (g2.trans g3) r3
theorem dh_int1 {p : Pos} (hm : G.mg "int" = none) (hg : S.sc.names.lookup ("int" : Str) = some .globalImplicit) (ha : DH G S w i c e f) (he : ∀ env : Env, starEach [e] env = (false, eval e env) :: starEach [] env := by intro _; rfl) : DH G S w i c (.Call (.Name "int" p) [e] [] pos) (xF dInt [f]) := fun x => by
  obtain ⟨ta, pa, va⟩ := dha_cons ha dha_nil he x
  refine ⟨_, fun X hX => pe_callTy (call_int1.or call_int_str) (by unfold Gl Env.kindOf; rw [hX.sc]; exact hg) (by rw [hX.mg]; exact hm) PyProof.Rows.boot_int (pa X hX) (by decide) (by decide) (he _) rfl, evh_cb (fun F H vs ds z l r h Q q => ?_) va⟩
  unfold dInt at h
  split at h
  · cases h
    obtain ⟨v, rfl, hv⟩ := re_args1 r
    rw [re_int] at hv
    subst hv
    exact .inl (.inl ⟨_, rfl, q _ F H (.refl l) (re_int.mpr rfl)⟩)
  · cases h
    obtain ⟨v, rfl, hv⟩ := re_args1 r
    rw [re_bool] at hv
    subst hv
    exact .inl (.inr ⟨_, rfl, q _ F H (.refl l) (re_int.mpr rfl)⟩)
  · split at h
    · rename_i s hl
      obtain ⟨v, rfl, hv⟩ := re_args1 r
      rw [re_str] at hv
      subst hv
      cases e : intText? s with
      | none => rw [e] at h; cases h
      | some n =>
        rw [e] at h
        cases h
        exact .inr ⟨_, _, rfl, e, hl, q _ F H (.refl l) (re_int.mpr rfl)⟩
    · cases h
  · cases h
end

/-! DLU: the data layer: within an except suite; try. -/

/-! ### any(..) while an error is handled -/
section
variable {prog : Program} {w : World} {A : Around} {E : Value → Shared → Prop} {s : Shared}
theorem next_list_end_hot {it l x1 : Addr} {i : Nat} {xs : Array Value} {Q : Option Value → Shared → Prop} (hot : HotX.HotAt A x1 s.heap) (hne : x1 ≠ it) (h1 : s.heap.IsListIter it l i) (h2 : s.heap.IsList l xs) (h3 : xs[i]? = none)
    (hQ : ∀ h', (∀ b o, b ≠ it → s.heap.get? b = some o → h'.get? b = some o) → Q none { s with heap := h' }) : wpAny (model prog w) A (pyNext (.ref it)) Q E s := by
  obtain ⟨oI, gI, cI, dI⟩ := id h1
  obtain ⟨oL, gL, _, nL, dL⟩ := h2
  obtain ⟨hh, oX, vX, gX, dX, cX⟩ := hot
  have gX2 := (Heap.get?_update_other s.heap (Obj.mapFields (·.setIfInBounds 0 Value.none)) (Ne.symm hne)).trans gX
  unfold pyNext
  refine wpAny_bind (wpAny_attempt (wpAny_callSpecial?_slot (name := Str.ofString "__next__") h1.typeIs slot_listiter_next
    (wpAny_call_entry slot_listiter_next h1.typeIs entry_listiter_next ?_ (args_listiter_next _))))
  show wpAny _ _ (field (.ref it) 0 >>= _) _ _ s
  refine wpAny_bind (wpAny_field gI dI (x := .ref l) rfl ?_)
  refine wpAny_ite_false (decide_eq_false fun z => absurd z Bool.false_ne_true) ?_
  refine wpAny_bind (wpAny_field gI dI (x := .int i 0) rfl ?_)
  refine wpAny_bind (wpAny_seqItems gL dL ?_)
  simp only [Int.toNat_natCast, h3]
  refine wpAny_bind (wpAny_rule (wpAny_bind (wpAny_setField gI dI (by simp) ?_)))
  refine wpAny_bind ?_
  simp only [newExc, newTuple]
  refine wpAny_bind (wpAny_newObj_type ?_ (by size_fits))
  refine wpAny_bind (m := firstArgMember _ _) (wpAny_of_eq (a := Value.none) (by first | rfl | (simp only [firstArgMember]; rfl)) ?_)
  refine wpAny_newObj_type ?_ (by size_fits)
  refine HotX.raiseNew_hot (x1 := x1) ⟨hh, oX, vX, Heap.get?_push_of_some _ (Heap.get?_push_of_some _ gX2), dX, cX⟩ (Nat.ne_of_lt (Heap.lt_size (Heap.get?_push_of_some _ gX2))) (Heap.get?_push_size _ rfl) rfl (by first | (simp; done) | (simp; omega)) ?_
  refine wpAny_bind (wpAny_isInstance (T := "StopIteration") (b := true) ⟨_, Heap.get?_update_self _ (Heap.get?_push_size _ rfl) rfl, rfl⟩ isSubtype_stop ?_)
  refine wpAny_pure (hQ _ fun b o hb eb => ?_)
  have e1 := (Heap.get?_update_other s.heap (Obj.mapFields (·.setIfInBounds 0 Value.none)) (Ne.symm hb)).trans eb
  rw [Heap.get?_update_other _ _ (Nat.ne_of_gt (Heap.lt_size (Heap.get?_push_of_some _ e1)))]
  exact Heap.get?_push_of_some _ (Heap.get?_push_of_some _ e1)
end
def HasCtx (x1 : Addr) (h : Heap) : Prop := ∃ (o : Obj) (vs : Array Value), h.get? x1 = some o ∧ o.data = .fields vs ∧ vs[2]? = some .none
theorem walks_list_hot {prog : Program} {w : World} {A : Around} {x1 : Addr} (hh : A.handled = some (.ref x1)) (I ax : Addr) (hne : ax ≠ I) (hx : x1 ≠ I) (xs : Array Value) :
    Walks prog w A I [I, ax, x1] [I] xs.size (fun i v => xs[i]? = some v) (fun i h => (h.IsListIter I ax i ∧ h.IsList ax xs) ∧ HasCtx x1 h) where
  sub := fun b hb => by simp at hb; simp [hb]
  frame := fun _ h h' st hk => by
    obtain ⟨⟨z1, z2⟩, o, vs, z3, z4⟩ := st
    exact ⟨⟨z1.at fun o e => hk I (by simp) o e, z2.at fun o e => hk ax (by simp) o e⟩, o, vs, hk x1 (by simp) o z3, z4⟩
  item := fun i s Q E hi st hQ => by
    obtain ⟨⟨z1, z2⟩, o, vs, z3, z4⟩ := st
    refine wpAny_pyNext_list_item z1 z2 (x := xs[i]) (by simp [hi]) fun h' hit' hs' => ?_
    refine hQ _ h' s.toks (by simp [hi]) ⟨⟨hit', z2.extBut hs'.extBut hne⟩, o, vs, hs'.extBut x1 o hx z3, z4⟩ fun b o hb e => ?_
    exact hs'.extBut b o (fun h => hb (by simp [h])) e
  done := fun s Q E st hQ => by
    obtain ⟨⟨z1, z2⟩, z3⟩ := st
    exact next_list_end_hot (x1 := x1) ⟨hh, z3⟩ hx z1 z2 (by simp) fun h' he => hQ h' s.toks fun b o hb e => he b o (fun h => hb (by simp [h])) e
  self := fun _ _ _ _ st hQ => wpAny_pyIter_listiter st.1.1 hQ
theorem cr_anyH {X : Cx} {p : Addr × Obj} (hot : L2H.Hot1 X.A p) (hp : p ∈ X.pn) : CallR X (.builtin "any") (rAny X.K) := by
  intro pins s σ H vs us Q I r h
  obtain ⟨a, bs, rfl, hs, q⟩ := h
  obtain ⟨its, rv, hl, _⟩ := I.list hs
  obtain ⟨hh, v1, e1, c1⟩ := hot
  have gp : s.heap.get? p.1 = some p.2 := (I.pin p (List.mem_append_left _ hp)).1
  have np : p.1 ≠ s.heap.objs.size := Nat.ne_of_lt (Heap.lt_size gp)
  rw [Vals.ref1 r]
  have hb := rv.bls
  refine call_any_walk (iter_any hl.isList fun s₂ e2 st hne => ?_)
  subst e2
  refine ⟨_, _, _, _, _, _, _, rfl, walks_list_hot (A := X.A.in1) (x1 := p.1) hh _ a hne np its.toArray, ⟨st, p.2, v1, Heap.get?_push_of_some _ gp, e1, c1⟩, truth_bools hb, fun h' tk hk => ?_⟩
  refine ⟨.bl _, H, I.kept fun b o eo => hk b o (fun z => ?_) (Heap.get?_push_of_some _ eo), ?_, q⟩
  · exact absurd (Heap.lt_size eo) (by rw [List.mem_singleton.mp z]; exact Nat.lt_irrefl _)
  · show Value.bool _ = Value.bool _
    rw [← L2.any_range, hb, List.size_toArray, List.length_map]

/-! ### text * int -/
def rMulS : R2 := fun x y H Q => ∃ a, x = .str a ∧ y = .int 1 ∧ Q (.str a) H
theorem op_mulS {X : Cx} : OpR X (binaryOp .Mult) rMulS := by
  intro pins s σ H x y v u Q I rx ry h
  obtain ⟨a, rfl, rfl, q⟩ := h
  obtain ⟨t, rfl⟩ := rx
  obtain ⟨t', rfl⟩ := ry
  refine PySem.P.mul_str (by decide) (fun _ h => absurd h (by simp)) (fun _ h => absurd h (by simp)) ?_
  rw [if_neg (by decide), if_pos (by simp)]
  exact ⟨.str a, H, I, ⟨t, rfl⟩, q⟩
def dMulS : D → D → Option D
  | .str a, .int 1 => some (.str a)
  | _, _ => none
theorem opd_mulS {K : PySem.W.Frag} : OpD K rMulS dMulS := fun F H x y d e z l hx hy h Q q => by
  unfold dMulS at h
  split at h
  · cases h
    rw [re_str] at hx
    rw [re_int] at hy
    exact ⟨_, hx, hy, q _ F H (.refl l) (re_str.mpr rfl)⟩
  · cases h

/-! ### isinstance(e, T), e the error that is held -/
/-- what isinstance must know of the class c -/
structure ErrI (G : Wd) (c : Str) : Prop where
  ex : ∃ C, G.mg c = some (.ref C) ∧ ExcC G.K C
/-- T as a value: an own class, or a built-in one -/
structure KitE (G : Wd) (c T : Str) (b : Bool) : Prop where
  ex : ∃ C D, G.mg c = some (.ref C) ∧ G.mg T = some (.ref D) ∧ PySem.W.kitOne G.K (.ref C) (.ref D) = some b
structure KitB (G : Wd) (c : Str) (T : String) (b : Bool) : Prop where
  ex : ∃ C, G.mg c = some (.ref C) ∧ PySem.W.kitOne G.K (.ref C) (.type T) = some b
section
variable {G : Wd} {S : Sta} {w : List Nat} {i : Nat} {c : Str} {e a b : Expr} {es rest : List Expr} {f fa fb : XE} {fs : List XE} {pos : Pos} {st : Stmt} {sts : List Stmt} {s t u : XS}
theorem dh_any {p : Pos} (hm : G.mg "any" = none) (hg : S.sc.names.lookup ("any" : Str) = some .globalImplicit) (ha : DH G S w i c e f) (he : ∀ env : Env, starEach [e] env = (false, eval e env) :: starEach [] env := by intro _; rfl) : DH G S w i c (.Call (.Name "any" p) [e] [] pos) (xF dAny [f]) := fun x => by
  obtain ⟨ta, pa, va⟩ := dha_cons ha dha_nil he x
  refine ⟨tCB (rAny G.K) ta, fun X hX => ?_, evh_cb cvd_any va⟩
  refine pe_callB ?_ (by unfold Gl Env.kindOf; rw [hX.sc]; exact hg) (by rw [hX.mg]; exact hm) PyProof.Rows.boot_any (pa X hX) (by decide) (by decide) (he _) rfl
  rw [← hX.K]
  obtain ⟨X0, oe, pn, eX, hz, vs, hv⟩ := hX.exc c x rfl
  exact cr_anyH (p := (x, oe)) (by rw [eX]; exact ⟨rfl, vs, hv, hz.2.2 vs hv⟩) (by rw [eX]; exact List.mem_cons_self)
theorem dh_mulS (ha : DH G S w i c a fa) (hb : DH G S w i c b fb) : DH G S w i c (.BinOp a .Mult b pos) (x2 dMulS fa fb) := dh_op (fun _ _ _ => op_mulS) opd_mulS ha hb
theorem dh_isG {v : V} {T : Value} {n : Str} {p pn0 : Pos} {et : Expr} {b : Bool} (hI : ErrI G c) (hi : S.N[i]? = some n) (hv : Vis S.sc n) (hm : G.mg "isinstance" = none) (hg : S.sc.names.lookup ("isinstance" : Str) = some .globalImplicit)
    (pt : ∀ a X, In G (S.hot c a) X → PE X et (tC v)) (rv : ∀ u, RelV v u → u = T) (hk : ∃ C, G.mg c = some (.ref C) ∧ PySem.W.kitOne G.K (.ref C) T = some b) (hd : (n == ("__debug__" : Str)) = false := by decide) (hcd : (n == ("__classdict__" : Str)) = false := by decide)
    (he : ∀ env : Env, starEach [.Name n pn0, et] env = (false, eval (.Name n pn0) env) :: starEach [et] env := by intro _; rfl) (he2 : ∀ env : Env, starEach [et] env = (false, eval et env) :: starEach [] env := by intro _; rfl) (hpl : ∀ env : Env, (backTo pos (starEach [et] env)).any (·.1) = false := by intro _; rfl) :
    DH G S w i c (.Call (.Name "isinstance" p) [.Name n pn0, et] [] pos) (xC (.bool b)) := fun x => by
  obtain ⟨C, g1, g2⟩ := hk
  obtain ⟨C', g3, g4⟩ := hI.ex
  rw [g1] at g3
  cases g3
  refine ⟨tCB (rIsE G.K C x) (tCons (tVar i) (tCons (tC v) tNil)), fun X hX => ?_, fun B F0 ρ z h F σ H R hi Q q => ?_⟩
  · have hA : PA X [.Name n pn0, et] (tCons (tVar i) (tCons (tC v) tNil)) := pa_cons (pe_var (by rw [hX.N]; exact hi) (by rw [hX.sc]; exact hv) hd hcd) (pa_cons (pt x X hX) pa_nil (he2 _)) (he _)
    have h1 : Gl X "isinstance" := by unfold Gl Env.kindOf; rw [hX.sc]; exact hg
    have h2 : X.mg "isinstance" = none := by rw [hX.mg]; exact hm
    refine pe_callB ?_ h1 h2 PyProof.Rows.boot_isinstance hA (by decide) (by decide) (he _) (hpl _)
    rw [← hX.K] at g4 ⊢
    obtain ⟨X0, oe, pn, eX, hz, hf⟩ := hX.exc c x rfl
    subst eX
    rw [ErrC.cv g1] at hz
    exact call_isE g4 hz.zc hf
  · unfold xC at h
    cases h
    exact ⟨.ref x, hi, v, T, b, rfl, rv, g2, q _ F H (.refl R.l) (re_bool.mpr rfl)⟩
theorem dh_isE {T n : Str} {p pn0 pt : Pos} {b : Bool} (hI : ErrI G c) (hi : S.N[i]? = some n) (hv : Vis S.sc n) (hm : G.mg "isinstance" = none) (hg : S.sc.names.lookup ("isinstance" : Str) = some .globalImplicit) (hgT : S.sc.names.lookup T = some .globalImplicit) (hk : KitE G c T b)
    (hd : (n == ("__debug__" : Str)) = false := by decide) (hcd : (n == ("__classdict__" : Str)) = false := by decide) (hdT : (T == ("__debug__" : Str)) = false := by decide) : DH G S w i c (.Call (.Name "isinstance" p) [.Name n pn0, .Name T pt] [] pos) (xC (.bool b)) := by
  obtain ⟨C, D', k1, k2, k3⟩ := hk.ex
  exact dh_isG (v := .ref D') (T := .ref D') hI hi hv hm hg (fun a X hX => pe_glob (by unfold Gl Env.kindOf; rw [hX.sc]; exact hgT) (by rw [hX.mg]; exact k2) rfl hdT) (fun u r => r) ⟨C, k1, k3⟩ hd hcd
theorem dh_isB {T : String} {y n : Str} {p pn0 pt : Pos} {b : Bool} (hI : ErrI G c) (hi : S.N[i]? = some n) (hv : Vis S.sc n) (hm : G.mg "isinstance" = none) (hg : S.sc.names.lookup ("isinstance" : Str) = some .globalImplicit) (hmy : G.mg y = none) (hgy : S.sc.names.lookup y = some .globalImplicit) (hvy : bootBuiltins y = some (.type T)) (hk : KitB G c T b)
    (hn : y ≠ "__name__" := by decide) (hdb : (y == ("__debug__" : Str)) = false := by decide) (hd : (n == ("__debug__" : Str)) = false := by decide) (hcd : (n == ("__classdict__" : Str)) = false := by decide) : DH G S w i c (.Call (.Name "isinstance" p) [.Name n pn0, .Name y pt] [] pos) (xC (.bool b)) := by
  obtain ⟨C, k1, k3⟩ := hk.ex
  exact dh_isG (v := .ty T) (T := .type T) hI hi hv hm hg (fun a X hX => pe_bltn (by unfold Gl Env.kindOf; rw [hX.sc]; exact hgy) (by rw [hX.mg]; exact hmy) hvy rfl hn hdb) (fun u r => r) ⟨C, k1, k3⟩ hd hcd

/-! ### statements of such a suite -/
def PostH (G : Wd) (B F0 : Hp) (w : List Nat) (F : Hp) (E : Ends) (i : Nat) (a : Addr) : Out → Prop
  | .nx ρ' => ∀ F' σ' H', Same F F' → Rel G.K B F0 w F' ρ' σ' H' → Holds i a σ' → E.nx σ' H'
  | .rt d => ∀ v F' H', Grow F0 B F' H' → Re G.K F' v d → E.rt v H'
  | _ => False
def SvH (G : Wd) (w : List Nat) (i : Nat) (a : Addr) (ts : TS) (s : XS) : Prop := ∀ B F0 ρ o, s ρ = some o → ∀ F σ H, Rel G.K B F0 w F ρ σ H → Holds i a σ → ∀ E : Ends, PostH G B F0 w F E i a o → ts E σ H
def DHS (G : Wd) (S : Sta) (w : List Nat) (i : Nat) (c : Str) (st : Stmt) (s : XS) : Prop := ∀ a, ∃ ts, (∀ X, In G (S.hot c a) X → PS X st ts) ∧ SvH G w i a ts s
def DHSs (G : Wd) (S : Sta) (w : List Nat) (i : Nat) (c : Str) (st : List Stmt) (s : XS) : Prop := ∀ a, ∃ ts, (∀ X, In G (S.hot c a) X → PSs X st ts) ∧ SvH G w i a ts s
theorem dhss_one (h : DHS G S w i c st s) : DHSs G S w i c [st] s := fun a => by
  obtain ⟨ts, p, v⟩ := h a
  exact ⟨ts, fun X hX => pss_one (p X hX), v⟩
theorem dhss_cons (h1 : DHS G S w i c st s) (h2 : DHSs G S w i c sts t) : DHSs G S w i c (st :: sts) (sSeq s t) := fun a => by
  obtain ⟨ts, p, v⟩ := h1 a
  obtain ⟨tu, pu, vu⟩ := h2 a
  refine ⟨tSeq ts tu, fun X hX => pss_cons (p X hX) (pu X hX), fun B F0 ρ o h F σ H R hi E pp => ?_⟩
  unfold sSeq at h
  obtain ⟨o1, h1, h2⟩ := bindS h
  refine v B F0 ρ o1 h1 F σ H R hi { E with nx := tu E } ?_
  cases o1 with
  | nx ρ' =>
    refine fun F' σ' H' e' R' hi' => vu B F0 ρ' o h2 F' σ' H' R' hi' E ?_
    cases o with
    | nx ρ2 => exact fun F2 σ2 H2 e2 R2 i2 => pp F2 σ2 H2 (e'.trans e2) R2 i2
    | rt d => exact pp
    | bk _ => exact pp
    | ct _ => exact pp
    | ex _ _ => exact pp
    | rs _ _ => exact pp
  | rt d => cases h2; exact pp
  | bk ρ' => cases h2; exact pp
  | ct ρ' => cases h2; exact pp
  | ex c ρ' => cases h2; exact pp
  | rs d ρ' => cases h2; exact pp
theorem dhs_ret (h : DH G S w i c e f) : DHS G S w i c (.Return (some e) pos) (sRet f) := fun a => by
  obtain ⟨te, p, v⟩ := h a
  refine ⟨tRet te, fun X hX => ps_ret (p X hX), fun B F0 ρ o h F σ H R hi E pp => ?_⟩
  unfold sRet at h
  obtain ⟨d, h1, h2⟩ := bindS h
  cases h2
  exact v B F0 ρ d h1 F σ H R hi _ fun x F2 H2 g r => pp x F2 H2 (R.g.trans g) r
theorem dhs_asg {j : Nat} {y : Str} {py : Pos} (h : DH G S w i c e f) (hj : S.N[j]? = some y) (hy : Loc S.sc y) (hf : S.fn y = true ∨ S.sc.names.lookup y = some .local) (hjw : j ∉ w) (hji : j ≠ i)
    (hs : ∀ env : Env, swapsWithSole [.Name y py] e pos.line env = pure false := by intro _; rfl) (hw : ∀ env : Env, swappedStores [.Name y py] e env = pure none := by intro _; rfl)
    (h1 : ∀ env : Env, (assignEach [.Name y py] env).map (·.2) = [assign (.Name y py) env] := by intro _; rfl) : DHS G S w i c (.Assign [.Name y py] e pos) (sAsg (tN j) f) := fun a => by
  obtain ⟨te, p, v⟩ := h a
  refine ⟨tAsg te (gName j), fun X hX => ps_asg (p X hX) (pg_name (by rw [hX.N]; exact hX.nd) (by rw [hX.N]; exact hj) (by rw [hX.sc]; exact hy) (by rw [hX.sc, hX.fn]; exact hf)) (hs _) (hw _) (h1 _), fun B F0 ρ o h F σ H R hi E pp => ?_⟩
  unfold sAsg at h
  obtain ⟨d, h1, h2⟩ := bindS h
  unfold tN at h2
  cases h2
  refine v B F0 ρ d h1 F σ H R hi _ fun x F2 H2 g2 r => pp F2 _ H2 g2.f ((R.grow g2).set hjw r) ?_
  show (σ.set j (some x))[i]? = _
  rw [List.getElem?_set_ne hji]
  exact hi

/-! ### try: .. except c as n: .. -/
def unsetO (i : Nat) : Out → Option Out
  | .nx ρ => some (.nx (ρ.set i none))
  | .rt d => some (.rt d)
  | _ => none
def catch1 (i : Nat) (c : Str) (h : XS) : Out → Option Out
  | .ex c' ρ => if c' = c ∧ i < ρ.length then (h (ρ.set i none)).bind (unsetO i) else none
  | o => some o
def sTryAs (i : Nat) (c : Str) (s h : XS) : XS := fun ρ => (s ρ).bind (catch1 i c h)
theorem In.tr {X : Cx} (h : In G S X) (hx : S.hx = none) {pn : List (Addr × Obj)} {xe : Value → Shared → Prop} (po : PassesOwn (model X.prog X.w) X.A X.env xe) : In G S (X.tr pn xe) :=
  ⟨h.p, h.w, h.K, h.mg, h.base, h.N, h.sc, h.fn, h.nd, h.room, h.calm, h.kind, po, h.top, fun c a z => by rw [hx] at z; cases z⟩
theorem In.su {X : Cx} (h : In G S X) {a : Addr} {oe : Obj} {pn : List (Addr × Obj)} (hz : L2N.Zn (cv G c) none oe) (hf : ∃ vs, oe.data = .fields vs) : In G (S.hot c a) (X.suite a ((a, oe) :: pn)) :=
  ⟨h.p, h.w, h.K, h.mg, h.base, h.N, h.sc, h.fn, h.nd, (fun z => nomatch z), (fun z => nomatch z), h.kind, PassesOwn.never, h.top, fun c' a' z => by
    cases z
    exact ⟨X, oe, pn, rfl, hz, hf⟩⟩
theorem ds_tryAs {n : Str} {np pos' : Pos} {st0 : Stmt} {es' : List Stmt} (hC : ErrC G c) (hg : S.sc.names.lookup c = some .globalImplicit) (hi : S.N[i]? = some n) (hl : S.sc.names.lookup n = some .local) (hiw : i ∉ w) (hb : DSs G S w es' s) (hh : DHSs G S w i c (st0 :: sts) t)
    (hdb : (c == ("__debug__" : Str)) = false := by decide) (htp : S.tp = true := by rfl) (hhx : S.hx = none := by rfl) :
    DS G S w (.Try es' [.ExceptHandler (some (.Name c np)) (some n) (st0 :: sts) pos'] [] [] pos) (sTryAs i c s t) := by
  classical
  obtain ⟨tb, pb, vb⟩ := hb
  obtain ⟨C, g1, _, _, _, _, g6⟩ := hC.ex
  have hcv := ErrC.cv g1
  let th : Addr → TS := fun a => (hh a).choose
  have ph : ∀ a X, In G (S.hot c a) X → PSs X (st0 :: sts) (th a) := fun a => (hh a).choose_spec.1
  have vh : ∀ a, SvH G w i a (th a) t := fun a => (hh a).choose_spec.2
  let ts : Addr → Value → Option Addr → TS := fun a cls d E σ H => (cls = .ref C ∧ d = none) ∧ th a E σ H
  refine ⟨fun W D σ H => tb (wAs G.K (.ref C) i ts W D) D σ H, fun X W hX tk => ?_, fun W B F0 ρ o h F σ H R E pp => ?_⟩
  · rw [← hX.K]
    obtain ⟨e1, e2⟩ := hX.top htp
    refine L2N.ps_try_as e1 e2 (by rw [hX.N]; exact hX.nd) (by rw [hX.N]; exact hi) (by unfold Env.kindOf; rw [hX.sc]; exact hl) ⟨by unfold Gl Env.kindOf; rw [hX.sc]; exact hg, hdb, .inl (by rw [hX.mg]; exact g1)⟩ tk (fun W' pn xe tk' po => pb _ _ (hX.tr hhx po) tk') fun a oe cls d pn hz hf => ⟨fun pins s σ H D I z => ?_⟩
    obtain ⟨⟨rfl, rfl⟩, z⟩ := z
    exact (ph a _ (hX.su (c := c) (by rw [hcv]; exact hz) hf)).run pins s σ H D I z
  · unfold sTryAs at h
    obtain ⟨o1, h1, h2⟩ := bindS h
    refine vb _ B F0 ρ o1 h1 F σ H R E ?_
    cases o1 with
    | nx ρ' => cases h2; exact pp
    | rt d => cases h2; exact pp
    | bk ρ' => cases h2; exact pp
    | ct ρ' => cases h2; exact pp
    | rs d ρ' => cases h2; exact pp
    | ex c' ρ' =>
      have h2' : (if c' = c ∧ i < ρ'.length then (t (ρ'.set i none)).bind (unsetO i) else none) = some o := h2
      by_cases hc : c' = c ∧ i < ρ'.length
      · rw [if_pos hc] at h2'
        obtain ⟨rfl, hlen⟩ := hc
        obtain ⟨o2, h3, h4⟩ := bindS h2'
        intro F' σ' H' e' R'
        rw [ErrC.cv g1]
        refine ⟨true, g6, fun _ a ha => ⟨⟨rfl, rfl⟩, ?_⟩, fun z => nomatch z⟩
        refine vh a B F0 _ o2 h3 F' _ H' (R'.forget hiw (some (.ref a))) ?_ _ ?_
        · show (σ'.set i _)[i]? = _
          rw [List.getElem?_set_self (by rw [← R'.len]; exact hlen)]
        · cases o2 with
          | nx ρ2 =>
            cases h4
            exact fun F2 σ2 H2 e2 R2 _ => pp F2 _ H2 (e'.trans e2) (R2.forget hiw none)
          | rt d => cases h4; exact pp
          | bk _ => cases h4
          | ct _ => cases h4
          | ex _ _ => cases h4
          | rs _ _ => cases h4
      · rw [if_neg hc] at h2'
        cases h2'
end
/-- from what the class table says: T an own class -/
theorem kit_own {K : PySem.W.Frag} {C D : Addr} {b : Bool} (h1 : PySem.W.isClsIn K D = true) (h2 : PySem.W.typeIn K (.ref D) = some (.type "type")) (h3 : PySem.W.subIn K (.ref C) (.ref D) = some b) (h4 : PySem.W.subIn K (.ref C) (.ref C) = some true) : PySem.W.kitOne K (.ref C) (.ref D) = some b := by
  by_cases e : C = D
  · subst e
    rw [h4] at h3
    cases h3
    show (if (Value.ref C == Value.ref C) = true then _ else _) = _
    rw [if_pos (beq_self_eq_true _)]
  · have h1' : (PySem.W.clsIn K D).isSome = true := h1
    have e2 : ((PySem.W.clsIn K D).isSome && PySem.W.typeIn K (.ref D) == some (.type "type")) = true := by rw [h1', h2]; rfl
    have e3 : ¬ (Value.ref C == Value.ref D) = true := fun z => e (Value.ref.inj (beq_iff_eq.mp z))
    show (if (Value.ref C == Value.ref D) = true then _ else PySem.W.kitCls K (.ref C) (.ref D)) = _
    rw [if_neg e3]
    show (if ((PySem.W.clsIn K D).isSome && PySem.W.typeIn K (.ref D) == some (.type "type")) = true then PySem.W.subIn K (.ref C) (.ref D) else none) = _
    rw [if_pos e2]
    exact h3
theorem kit_blt {K : PySem.W.Frag} {C : Addr} {T : String} {b : Bool} (h1 : PySem.W.kitMeta T = true) (h3 : PySem.W.subIn K (.ref C) (.type T) = some b) : PySem.W.kitOne K (.ref C) (.type T) = some b := by
  show (if (Value.ref C == Value.type T) = true then _ else PySem.W.kitCls K (.ref C) (.type T)) = _
  rw [if_neg (by intro z; cases beq_iff_eq.mp z)]
  show (if PySem.W.kitMeta T = true then PySem.W.subIn K (.ref C) (.type T) else none) = _
  rw [if_pos h1]
  exact h3
theorem boot_VE : bootBuiltins "ValueError" = some (.type "ValueError") := boot_ValueError
/-! ### a chain as a test -/
section
variable {G : Wd} {S : Sta} {w : List Nat} {a b c : Expr} {fa fb fc : XE} {pos : Pos}
theorem evd_chain {K : PySem.W.Frag} {r r' : R2} {g g' : D → D → Option D} {ta tb tc : TE} (hr : OpD K r g) (hr' : OpD K r' g') (hb' : ∀ d e z, g d e = some z → ∃ k, z = .bool k) (va : EvD K w ta fa) (vb : EvD K w tb fb) (vc : EvD K w tc fc) : EvD K w (tChain r r' ta tb tc) (xChain g g' fa fb fc) := fun B F0 ρ z h F σ H R Q q => by
  unfold xChain at h
  obtain ⟨d, h1, h⟩ := bindS h
  obtain ⟨d2, h2, h⟩ := bindS h
  obtain ⟨zz, h3, h⟩ := bindS h
  obtain ⟨k, rfl⟩ := hb' _ _ _ h3
  refine va B F0 ρ d h1 F σ H R _ fun x F2 H2 g2 r2 => ?_
  refine vb B F0 ρ d2 h2 F2 σ H2 (R.grow g2) _ fun y F3 H3 g3 r3 => ?_
  have R3 := (R.grow g2).grow g3
  refine hr F3 H3 x y d d2 _ R3.l (r2.m g3.f) r3 h3 _ fun v F4 H4 g4 r4 => ⟨k, re_bool.mp r4, ?_⟩
  cases k with
  | false =>
    simp only [xIf] at h
    cases h
    exact iteF (q _ F4 H4 ((g2.trans g3).trans g4) (re_bool.mpr rfl))
  | true =>
    simp only [xIf] at h
    refine iteT ?_
    obtain ⟨d5, h5, h⟩ := bindS h
    refine vc B F0 ρ d5 h5 F4 σ H4 (R3.grow g4) _ fun y5 F5 H5 g5 r5 => ?_
    exact hr' F5 H5 y y5 d2 d5 z ((R3.grow g4).grow g5).l (r3.m (g4.trans g5).f) r5 h Q fun v F6 H6 g6 r6 => q v F6 H6 ((((g2.trans g3).trans g4).trans g5).trans g6) r6
theorem dt_chain {op op' : CmpOp} {r r' : R2} {g g' : D → D → Option D} (ho : ∀ X, In G S X → OpR X (compareOp op) r) (hr : OpD G.K r g) (ho' : ∀ X, In G S X → OpR X (compareOp op') r') (hr' : OpD G.K r' g') (hb' : ∀ d e z, g d e = some z → ∃ k, z = .bool k)
    (ha : DE G S w a fa) (hb : DE G S w b fb) (hc : DE G S w c fc) (hm : lastMarks [op, op'] [b, c] = false := by with_unfolding_all rfl) : DT G S w (.Compare a [op, op'] [b, c] pos) (xChain g g' fa fb fc) := by
  obtain ⟨ta, pa, va⟩ := ha
  obtain ⟨tb, pb, vb⟩ := hb
  obtain ⟨tc, pc, vc⟩ := hc
  exact ⟨tTest (tChain r r' ta tb tc), fun X hX => pt_chain (ho X hX) (ho' X hX) (pa X hX) (pb X hX) (pc X hX) hm, tvd_test (evd_chain hr hr' hb' va vb vc)⟩
theorem dt_lele (ha : DE G S w a fa) (hb : DE G S w b fb) (hc : DE G S w c fc) (hm : lastMarks [CmpOp.LtE, CmpOp.LtE] [b, c] = false := by with_unfolding_all rfl) : DT G S w (.Compare a [.LtE, .LtE] [b, c] pos) (xChain dLe dLe fa fb fc) :=
  dt_chain (fun _ h => or_le h) opd_le (fun _ h => or_le h) opd_le dLe_bool ha hb hc hm
end

/-! DLV: the data layer: texts; a def that may raise, where it does not. -/

/-! ### where a def that may raise answers -/
def rxOk : Rx → Option D
  | .ok d => some d
  | .ex _ => none
def okF (Φ : List D → Option Rx) : List D → Option D := fun ds => (Φ ds).bind rxOk
theorem KnX.ok {G : Wd} {k n : Nat} {x : Str} {Φ : List D → Option Rx} (h : KnX G k x n Φ) : Kn G k x n (okF Φ) := by
  obtain ⟨f, fd, ps, hF, h2⟩ := h.ex
  have sp : ∀ vs H Q E E', spD G.K n (okF Φ) vs H Q E → spX G n Φ vs H Q E' := fun vs H Q E E' ⟨hl, F, ds, d, l, r, hd, q⟩ => by
    unfold okF at hd
    obtain ⟨r1, h1, h2⟩ := bindS hd
    cases r1 with
    | ok d' => cases h2; exact ⟨hl, F, ds, _, l, r, h1, q⟩
    | ex c => cases h2
  refine ⟨f, fd, ps, ⟨fun vs H Q E z => hF.len vs H Q E (sp vs H Q E E z), fun A outer s H args us vs Q E hr e0 hb r z => ?_⟩, h2⟩
  refine codeAny_mono (hF.run A outer s H args us vs Q (fun _ _ _ => False) hr e0 hb r (sp vs H Q E _ z)) fun res s' hq => ?_
  cases res with
  | error e =>
    obtain ⟨_, _, _, _, _, _, _, _, _, _, _, _, z⟩ := hq
    exact z.elim
  | ok fl => cases fl <;> exact hq

/-! ### join -/
def dJoin : D → D → Option D
  | .str a, .list xs => (strsOf xs).bind fun ys => if (ys.map (·.length)).sum + ys.length * a.length ≤ 1000000 then some (.str (Txt.join a ys)) else none
  | _, _ => none
section
variable {G : Wd} {S : Sta} {w : List Nat} {e a b : Expr} {f fa fb : XE} {pos apos : Pos}
theorem de_join (ha : DE G S w a fa) (hb : DE G S w b fb) (hs : ∀ env : Env, starEach [b] env = [(false, eval b env)] := by intro _; rfl) (hbase : ∀ env : Env, attributeBase a "join" env (eval a env) = eval a env := by intro _; rfl) (hline : (apos.endLine == pos.line) = true := by rfl) : DE G S w (.Call (.Attribute a "join" apos) [b] [] pos) (x2 dJoin fa fb) := by
  obtain ⟨ta, pa, va⟩ := ha
  obtain ⟨tb, pb, vb⟩ := hb
  refine ⟨tM1 (fun x xs H Q => ∃ a p, ∃ ys : List Str, x = .str a ∧ xs = [.ref p] ∧ (SqL G.K H p (ys.map V.str) ∨ SqT G.K H p (ys.map V.str)) ∧ (ys.map (·.length)).sum + ys.length * a.length ≤ 16777216 ∧ Q (.str (Txt.join a ys)) H) ta tb, fun X hX => ?_, fun B F0 ρ z h F σ H R Q q => ?_⟩
  · rw [← hX.K]
    exact pe_join (pa X hX) (pb X hX) (hs _) (hbase _) hline
  · unfold x2 at h
    obtain ⟨d, h1, h⟩ := bindS h
    obtain ⟨d2, h2, h⟩ := bindS h
    unfold dJoin at h
    split at h
    · obtain ⟨ys, h3, h4⟩ := bindS h
      split at h4
      · rename_i hsz
        cases h4
        have e3 := strs_map h3
        subst e3
        refine va B F0 ρ _ h1 F σ H R _ fun x F2 H2 g2 r2 => ?_
        rw [re_str] at r2
        subst r2
        refine ⟨⟨_, rfl⟩, vb B F0 ρ _ h2 F2 σ H2 (R.grow g2) _ fun y F3 H3 g3 r3 => ?_⟩
        rw [re_list] at r3
        obtain ⟨p, vs, rfl, hp, rv, _⟩ := r3
        have ev := re_strs rv
        subst ev
        exact ⟨_, p, ys, rfl, rfl, .inl (SqL.of (((R.grow g2).grow g3).l.lst hp)), Nat.le_trans hsz (by decide), q _ F3 H3 (g2.trans g3) (re_str.mpr rfl)⟩
      · cases h4
    · cases h
end

/-! DLQ: sorted(..) of any alike tuples, the empty one among them, from any source. -/
section
open PySem.W PySem.Calls
variable {prog : Program} {w : World} {A : Around} {E : Value → Shared → Prop} {s : Shared}
/-- the first items, where there are some -/
theorem fst_tups {M : Model} : ∀ {vs : List Value} {ds : List PyData}, EachIs (fun v d => ∃ as, Reads s.heap v d as) vs ds → (∀ d ∈ ds, ∃ xs, d = PyData.tuple xs) →
    ∃ fs : List (Option Value), fs.length = vs.length ∧ (PyData.tuple [] ∈ ds → none ∈ fs) ∧ ∀ (A : Around) (E : Value → Shared → Prop) (C : List (Option Value) → Shared → Prop), C fs s → wpAny M A (vs.mapM firstOfTuple') C E s
  | _, _, .nil, _ => ⟨[], rfl, (fun h => by cases h), fun A E C hC => by rw [List.mapM_nil]; exact wpAny_pure hC⟩
  | v :: vs, d :: ds, .cons ⟨as, r⟩ t, ht => by
    obtain ⟨fs, h1, h2, h3⟩ := fst_tups (M := M) t fun e he => ht e (List.mem_cons_of_mem _ he)
    obtain ⟨ys, rfl⟩ := ht d List.mem_cons_self
    cases r with
    | @tuple a o items n _ _ ho hcl hdt hrs =>
      refine ⟨items[0]? :: fs, by rw [List.length_cons, List.length_cons, h1], fun hm => ?_, fun A E C hC => ?_⟩
      · rcases List.mem_cons.mp hm with q | q
        · have q2 : ys = [] := (PyData.tuple.inj q).symm
          subst q2
          have q3 : items.toList = [] := by
            generalize items.toList = l at hrs
            cases hrs
            rfl
          have q4 : items[0]? = none := by rw [← Array.getElem?_toList, q3]; rfl
          rw [q4]
          exact List.mem_cons_self
        · exact List.mem_cons_of_mem _ (h2 q)
      · rw [List.mapM_cons, kas_first_eq]
        have lk : Looks M s.heap (typeOf (.ref a)) o.cls := (Looks.ld ho).andThen .now
        refine wpAny_bind (wpAny_bind (lk.here ?_))
        rw [hcl]
        rw [if_neg (by first | decide | simp)]
        refine wpAny_bind (listItems_at ho hdt (wpAny_pure ?_))
        exact wpAny_bind (h3 A E (fun l s' => wpAny M A (pure (items[0]? :: l)) C E s') (wpAny_pure hC))
theorem lt_tups1 {da db : PyData} {a b : Value} {as bs : List Addr} {Q : Bool → Shared → Prop} (ta : ∃ xs, da = PyData.tuple xs) (ra : Reads s.heap a da as) (rb : Reads s.heap b db bs) (hal : alike da db = true) (hu : A.units + min da.depth db.depth < cLine)
    (hq : Q (dataLt da db) s) : wpAny (model prog w) A (oneLt' true a b) Q E s := by
  obtain ⟨xs, rfl⟩ := ta
  cases db with
  | tuple ys =>
    have hall : alikeAll xs ys = true := by simpa [alike] using hal
    cases ra with
    | @tuple l o us n _ as₁ g1 g2 g3 g4 =>
      cases rb with
      | @tuple l' o' us' n' _ bs₁ k1 k2 k3 k4 =>
        have z1 : us.size = xs.length := by simpa using SeqAt.ReadsAll.length _ _ _ g4
        have z2 : us'.size = ys.length := by simpa using SeqAt.ReadsAll.length _ _ _ k4
        rw [dataLt_tuple, ← firstLt_toks xs ys hall, ← z1, ← z2] at hq
        rw [oneLt'_eq, if_pos rfl]
        obtain ⟨oc, od, odt, osl⟩ := o
        obtain ⟨oc2, od2, odt2, osl2⟩ := o'
        simp only at g2 g3 k2 k3
        subst g2 g3 k2 k3
        refine wpAny_bind (wpAny_cRoomFor (SeqAt.room_here hu) (wpAny_bind (wpAny_callSpecialIfBound?_slot (T := "tuple") ⟨_, g1, rfl⟩ PySem.F.slot_tuple_lt
          (call_meets PySem.F.slot_tuple_lt ⟨_, g1, rfl⟩ PySem.F.entry_tuple_lt (PySem.F.args_tuple_lt_2 _ _)
            (SeqAt.tuple_ltAt l l' us us' n n' od od2 osl osl2 (SeqAt.pairEq xs ys) (fun j => dataLt (xs.getD j .none) (ys.getD j .none))) ⟨g1, k1, fun j j1 j2 => ?_, fun j j1 j2 hj => ?_, wpAny_truthy_bool hq⟩))))
        · have := eqAt_alikeAll xs ys A.in1 s us.toList us'.toList _ _ g4 k4 hall (SeqAt.room_in hu) j (by simpa using j1) (by simpa using j2)
          simpa using this
        · have := rcLt_alikeAll xs ys A.in1 s us.toList us'.toList _ _ g4 k4 hall (SeqAt.room_in hu) j (by simpa using j1) (by simpa using j2) hj
          simpa using this
  | _ => exact absurd hal (by simp [alike])
theorem sortsTup {vs : List Value} {ds : List PyData} (e : EachIs (fun v d => ∃ as, Reads s.heap v d as) vs ds) (hal : AllAlike ds) (ht : ∀ d ∈ ds, ∃ xs, d = PyData.tuple xs) (hu : ∀ d, d ∈ ds → A.units + d.depth < cLine) : SortsAt prog w A s (dataKind s.heap ds) vs := by
  by_cases hne : PyData.tuple [] ∈ ds
  · have room : ∀ {d d' : PyData}, d ∈ ds → A.units + min d.depth d'.depth < cLine := fun {d d'} hd => Nat.lt_of_le_of_lt (Nat.add_le_add_left (Nat.min_le_left _ _) _) (hu d hd)
    obtain ⟨fs, f1, f2, f3⟩ := fst_tups (M := model prog w) e ht
    have hno : ¬ (fs.toArray.all fun x => x.isSome) = true := by
      intro q
      rw [List.all_toArray, List.all_eq_true] at q
      have := q none (f2 hne)
      cases this
    refine ⟨fun v hv => ?_, ?_⟩
    · obtain ⟨x, mx, xs, rx⟩ := e.left v hv
      exact ⟨keyToks x, dataKind_some hal mx rx⟩
    · by_cases hf : (fs.toArray[0]?.bind id).isSome = true
      · refine ⟨general', fun E x y a b Q ha hb hq => ?_, fun h2 E Q hq => ?_⟩
        · obtain ⟨d, as, hd, ra, rfl⟩ := dataKind_inv ha
          obtain ⟨d2, as2, hd2, rb, rfl⟩ := dataKind_inv hb
          show wpAny (model prog w) A (oneLt' false x y) Q E s
          obtain ⟨xs, ex⟩ := ht d hd
          exact oneLt_alike (f := false) (fun z => by cases z) ra rb (hal d hd d2 hd2) (by rw [ex]; simp) (room hd) hq
        · rw [keyKind'_eq, List.mapM_toArray, map_eq_pure_bind]
          refine wpAny_bind (wpAny_bind (f3 _ _ _ (wpAny_pure ?_)))
          rw [if_neg hno, if_pos hf]
          exact wpAny_pure hq
      · refine ⟨oneType', fun E x y a b Q ha hb hq => ?_, fun h2 E Q hq => ?_⟩
        · obtain ⟨d, as, hd, ra, rfl⟩ := dataKind_inv ha
          obtain ⟨d2, as2, hd2, rb, rfl⟩ := dataKind_inv hb
          rw [keyLt'_oneType]
          exact lt_tups1 (ht d hd) ra rb (hal d hd d2 hd2) (room hd) hq
        · rw [keyKind'_eq, List.mapM_toArray, map_eq_pure_bind]
          refine wpAny_bind (wpAny_bind (f3 _ _ _ (wpAny_pure ?_)))
          rw [if_neg hno, if_neg hf, oneTypeOnly'_eq, List.mapM_toArray, map_eq_pure_bind]
          refine wpAny_bind (wpAny_bind (wpAny_bind (kas_mapM (r := Value.type "tuple") _ (fun v hv C hC => ?_) (wpAny_pure ?_))))
          · obtain ⟨x, mx, as, r⟩ := e.left v hv
            obtain ⟨xs, ex⟩ := ht x mx
            have l := looks_reads (M := model prog w) r
            rw [ex] at l
            exact l.here hC
          · obtain ⟨v1, rest, rfl⟩ : ∃ v1 rest, vs = v1 :: rest := by
              match vs, h2 with
              | v1 :: rest, _ => exact ⟨v1, rest, rfl⟩
            have ha : ((List.map (fun _ => Value.type "tuple") (v1 :: rest)).toArray.all fun x => x == Value.type "tuple") = true := by
              rw [List.all_toArray, List.all_map, List.all_eq_true]
              exact fun _ _ => rfl
            have h0 : (List.map (fun _ => Value.type "tuple") (v1 :: rest)).toArray[0]? = some (Value.type "tuple") := by simp
            rw [h0]
            simp only [ha, if_true]
            exact wpAny_pure (wpAny_pure hq)
  · refine SortsAt.data e hal (.inl fun d hd => ?_) hu
    obtain ⟨xs, ex⟩ := ht d hd
    cases xs with
    | nil => rw [ex] at hd; exact absurd hd hne
    | cons x r => exact ⟨x, r, ex⟩
/-- s1 is s with more objects -/
structure Kp (s s1 : Shared) : Prop where
  k : ∀ b o, s.heap.get? b = some o → s1.heap.get? b = some o
  g : s1.gens = s.gens
  o : s1.os = s.os
/-- what can be sorted here -/
structure OkS {β : Type} (A : Around) (enc : β → PyData) (bs : List β) : Prop where
  al : AllAlike (bs.map enc)
  tp : ∀ b ∈ bs, ∃ xs, enc b = .tuple xs
  ln : bs.length ≤ sizeLine
  dp : ∀ b ∈ bs, A.units + 2 + (enc b).depth < cLine
theorem sorted_any {β : Type} {x : Value} {enc : β → PyData} {R : Value → β → Prop} {Pp : List β → Prop} {Q : Value → Shared → Prop}
    (hcol : ∀ (E' : Value → Shared → Prop) (C : List Value → Shared → Prop), (∀ (s1 : Shared) (vs : List Value) (bs : List β), Kp s s1 → EachIs R vs bs → EachIs (fun v b => ∃ as, Reads s.heap v (enc b) as) vs bs → OkS A enc bs → Pp bs → C vs s1) → wpAny (model prog w) A.in1 (collect x) C E' s)
    (hQ : ∀ (s' : Shared) (p : Addr) (out : List Value) (c : Nat) (bs : List β), Kp s s' → s.heap.get? p = none → s'.heap.get? p = some (seqObj "list" out.toArray c) → out.length = bs.length → EachIs R out (bs.mergeSort (dataLe false enc)) → OkS A enc bs → Pp bs → Q (.ref p) s') :
    wpAny (model prog w) A (call (.builtin "sorted") [x]) Q E s := by
  refine Calls.call_function_entry kind_sorted plain_sorted entry_sorted (args_sorted1 _) ?_
  unfold Builtin.«sorted»
  refine wpAny_bind (m := checkCount "sorted" 1 1 _) (wpAny_pure (wpAny_bind (hcol _ _ fun s1 vs bs kp e er ok pp => ?_)))
  have hL : vs.length ≤ sizeLine := by rw [e.length]; exact ok.ln
  refine wpAny_bind (wpAny_newList ?_ hL)
  have hoL : (s1.heap.push (seqObj "list" vs.toArray 0)).get? s1.heap.objs.size = some (seqObj "list" vs.toArray 0) := Heap.get?_push_size _ rfl
  have er' : EachIs (fun v b => ∃ as, Reads (sortingHeap (s1.heap.push (seqObj "list" vs.toArray 0)) s1.heap.objs.size vs) v (enc b) as) vs bs := er.mono fun _ _ ⟨as, r⟩ => ⟨as, PyProof.Rows.Reads.keeps (fun b u q => by
    have q1 := kp.k b u q
    exact sortingHeap_old (Nat.ne_of_lt (Heap.lt_size q1)) (Heap.get?_push_of_some _ q1)) r⟩
  have S : SortsAt prog w A.in1.in1 { s1 with heap := sortingHeap (s1.heap.push (seqObj "list" vs.toArray 0)) s1.heap.objs.size vs } (dataKind (sortingHeap (s1.heap.push (seqObj "list" vs.toArray 0)) s1.heap.objs.size vs) (bs.map enc)) vs :=
    sortsTup (s := { s1 with heap := sortingHeap (s1.heap.push (seqObj "list" vs.toArray 0)) s1.heap.objs.size vs }) (each_map (R := fun v d => ∃ as, Reads (sortingHeap (s1.heap.push (seqObj "list" vs.toArray 0)) s1.heap.objs.size vs) v d as) enc er') ok.al
      (fun d hd => by obtain ⟨b, hb, rfl⟩ := List.mem_map.mp hd; exact ok.tp b hb) (fun d hd => by obtain ⟨b, hb, rfl⟩ := List.mem_map.mp hd; exact ok.dp b hb)
  refine wpAny_bind (wpAny_holding (wpAny_call_entry slot_list_sort ⟨_, hoL, rfl⟩ entry_list_sort (list_sort_vals (s := { s1 with heap := s1.heap.push (seqObj "list" vs.toArray 0) }) hoL S hL ⟨_, rfl, ?_⟩) (args_list_sort _)))
  have hl : (sortVals (dataKind (sortingHeap (s1.heap.push (seqObj "list" vs.toArray 0)) s1.heap.objs.size vs) (bs.map enc)) false vs vs).length = bs.length := by rw [sortVals_length false rfl]; exact e.length
  obtain ⟨c, hc⟩ := sortedHeap_at (vs := vs) (out := (sortVals (dataKind (sortingHeap (s1.heap.push (seqObj "list" vs.toArray 0)) s1.heap.objs.size vs) (bs.map enc)) false vs vs).toArray) hoL
  refine wpAny_pure ⟨_, rfl, hQ _ s1.heap.objs.size _ c bs ⟨fun b u q => ?_, kp.g, kp.o⟩ ?_ hc hl (sortVals_data false e er' ok.al) ok pp⟩
  · have q1 := kp.k b u q
    have hlt := Heap.lt_size q1
    show (sortedHeap (s1.heap.push (seqObj "list" vs.toArray 0)) s1.heap.objs.size vs _).get? b = some u
    rw [sortedHeap_old (Nat.ne_of_lt hlt) (by rw [size_push']; exact Nat.lt_succ_of_lt hlt)]
    exact Heap.get?_push_of_some _ q1
  · cases q : s.heap.get? s1.heap.objs.size with
    | none => rfl
    | some u => exact absurd (Heap.lt_size (kp.k _ u q)) (Nat.lt_irrefl _)
end

/-! DLR: set(..) of up to 64 tuples of ints (the hand layer's holds fewer than 64), sorted(set(..)). -/
/-- a tuple's address and its ints -/
abbrev AI := Addr × List Int
section
variable {P : Program} {w : World} {A : Around} {E : Value → Shared → Prop} {s : Shared}
/-- the set at a holds L; nothing is said of how many these are -/
structure SetW (P : Program) (w : World) (h : Heap) (a : Addr) (L : List AI) (es : Array (Int × Value)) (ep : Nat) (t : SetTable) : Prop where
  at_ : (∃ o, h.get? a = some o ∧ o.ExactSet ∧ o.data = .set es ep t) ∧ es.toList = rowsOf P w L
  tb : TabOk t (L.map fun q => thash P w q.2) ∧ L.length * 5 < t.mask * 3
  un : (L.map (·.2)).Nodup ∧ ∀ q ∈ L, IsT P w h q.2 q.1
  fl : t.plain = true ∧ (w.params.followText "set-order" = true ∨ t.led = true)
theorem SetW.of {h : Heap} {a : Addr} {L : List AI} {es : Array (Int × Value)} {ep : Nat} {t : SetTable} (R : SetTR P w h a L es ep t) : SetW P w h a L es ep t := ⟨⟨R.ob, R.rows⟩, ⟨R.tab, R.room⟩, ⟨R.nd, R.tup⟩, R.plain, R.led⟩
theorem SetW.tr {h : Heap} {a : Addr} {L : List AI} {es : Array (Int × Value)} {ep : Nat} {t : SetTable} (R : SetW P w h a L es ep t) (c : L.length < 64) : SetTR P w h a L es ep t := ⟨R.at_.1, R.at_.2, R.tb.1, R.un.1, R.un.2, R.fl.1, R.fl.2, R.tb.2, c⟩
theorem SetW.keep {h h' : Heap} {a : Addr} {L : List AI} {es : Array (Int × Value)} {ep : Nat} {t : SetTable} (R : SetW P w h a L es ep t) (k : ∀ o, h.get? a = some o → h'.get? a = some o) (kt : ∀ q ∈ L, IsT P w h' q.2 q.1) : SetW P w h' a L es ep t := by
  obtain ⟨⟨⟨o, ho, r⟩, r2⟩, r3, r4, r5⟩ := R
  exact ⟨⟨⟨o, k o ho, r⟩, r2⟩, r3, ⟨r4.1, kt⟩, r5⟩
variable {a : Addr} {L : List AI} {es : Array (Int × Value)} {ep : Nat} {t : SetTable}
/-- adding to a set of fewer than 64 -/
theorem add_w (R : SetTR P w s.heap a L es ep t) {x : Addr} {k : List Int} (ix : IsT P w s.heap k x) (hu : A.units < cLine) {C : Bool → Shared → Prop}
    (hC : ∀ b h1 L1 es1 ep1 t1, Heap.SameBut a s.heap h1 → SetW P w h1 a L1 es1 ep1 t1 → (k ∈ L.map (·.2) → L1 = L) → (k ∉ L.map (·.2) → L1.Perm ((x, k) :: L)) → C b { s with heap := h1 }) :
    wpAny (model P w) A (setAddHashed a (.ref x) (thash P w k)) C E s := by
  rcases Nat.lt_or_ge (L.length + 1) 64 with c64 | c64
  · exact add_at R ix hu c64 fun b h1 L1 es1 ep1 t1 sb R1 c1 c2 => hC b h1 L1 es1 ep1 t1 sb (.of R1) c1 c2
  have few := R.few
  have room := R.room
  have e63 : L.length = 63 := by omega
  have em : t.mask = 127 := by rcases R.tab.mok with e | e | e <;> omega
  have n63 : es.size = 63 := R.size.trans e63
  obtain ⟨ob, gob, xob, dob⟩ := R.ob
  unfold setAddHashed
  refine wpAny_holding ?_
  rw [show (100000 : Nat) = 99999 + 1 from rfl, setAddHashedIn_succ]
  refine wpAny_bind (wpAny_setState_of gob dob R.fits ?_)
  dsimp only
  refine wp_if_neg (by simp [byScan, Value.scannable]) ?_
  try refine wpAny_bind (wpAny_pure ?_)
  refine wpAny_bind (search_at R ix hu (fun isin => by dsimp only; exact wpAny_pure (hC false s.heap L es ep t (.refl a s.heap) (.of R) (fun _ => rfl) fun z => absurd isin z)) fun K notin hK before => ?_)
  dsimp only
  refine wpAny_bind (wpAny_setState_of gob dob R.fits ?_)
  dsimp only
  have put := R.tab.put hK before
  generalize way t.mask (thash P w k) K = j at put ⊢
  generalize ept : t.put j = tp at put ⊢
  obtain ⟨tn, pn⟩ := tp
  obtain ⟨p1, p2, p3, p4, p5, p6, p7, p8, p9⟩ := put
  dsimp only at p1 p2 p3 p4 p5 p6 p7 p8 p9 ⊢
  subst p1
  have pln : tn.plain = true := p6.trans R.plain
  first
    | (refine wpAny_bind ?_; refine wp_if_pos pln ?_; refine hashBy_tup ix ?_)
    | refine wp_if_pos pln (wpAny_bind (hashBy_tup ix ?_))
  simp only [if_true]
  generalize SetTable.below t.place j = m at p2 p3 ⊢
  have rows1 : (SetTable.insertAt es m (thash P w k, Value.ref x)).toList = rowsOf P w (L.take m ++ (x, k) :: L.drop m) := by rw [SetTable.toList_insertAt, rows_put, R.rows]
  have pm := put_perm L m (x, k)
  have hh : (L.take m ++ (x, k) :: L.drop m).map (fun q => thash P w q.2) = (L.map fun q => thash P w q.2).take m ++ thash P w k :: (L.map fun q => thash P w q.2).drop m := by
    rw [List.map_append, List.map_cons, List.map_take, List.map_drop]
  rw [← hh] at p3
  generalize SetTable.insertAt es m (thash P w k, Value.ref x) = es1 at rows1 ⊢
  generalize L.take m ++ (x, k) :: L.drop m = L1 at pm p3 rows1
  have l64 : L1.length = 64 := by rw [pm.length_eq, List.length_cons, e63]
  have s64 : es1.size = 64 := by
    have q := congrArg List.length rows1
    unfold rowsOf at q
    rwa [Array.length_toList, List.length_map, l64] at q
  have nd1 : (L1.map (·.2)).Nodup := (pm.map (·.2)).nodup_iff.mpr (by rw [List.map_cons]; exact List.nodup_cons.mpr ⟨notin, R.nd⟩)
  have nfull : ¬ tn.tooFull = true := by
    unfold SetTable.tooFull
    rw [decide_eq_true_eq, p9, List.length_map, e63, p4, em]
    decide
  refine wpAny_bind (wpAny_storeSet_of gob dob ?_ (by rw [s64, sizeLine_eq]; omega))
  have sb : Heap.SameBut a s.heap (s.heap.update a (Obj.putSet es1 tn)) := Heap.SameBut.update ..
  have ga := store_at (es' := es1) (t' := tn) gob dob
  generalize s.heap.update a (Obj.putSet es1 tn) = h1 at sb ga ⊢
  first
    | refine wp_if_neg (by simp [nfull]) ?_
    | (refine wpAny_bind ?_; refine wp_if_neg (by simp [nfull]) ?_; refine wpAny_pure ?_)
  refine wpAny_pure (hC true h1 L1 es1 (ep + 1) tn sb ⟨⟨⟨_, ga, ⟨xob.1, xob.2.1, xob.2.2⟩, rfl⟩, rows1⟩, ⟨p3, by rw [l64, p4, em]; decide⟩, ⟨nd1, fun q hq => ?_⟩, pln, by rw [p5]; exact R.led⟩ (fun z => absurd z notin) fun _ => pm)
  rcases List.mem_cons.mp (pm.mem_iff.mp hq) with e | hq
  · subst e; exact isT_same ix gob dob sb
  · exact isT_same (R.tup q hq) gob dob sb
/-- the loop of set.update, over up to 64 -/
theorem updW {I : Addr} {fp wr : List Addr} {G : Array GenState → Array GenState → Prop} {n : Nat} {Pv : Nat → Value → Prop} {St : Nat → Shared → Prop} {R : Result → Shared → Prop}
    (W : WalksS P w A.in1 I fp wr G n Pv St) {S : Addr} (nfp : S ∉ fp) {ks : List AI} (en : n = ks.length) (le64 : ks.length ≤ 64) (pv : ∀ i v, Pv i v → ∃ q, ks[i]? = some q ∧ v = .ref q.1)
    {hp : Heap} (tk : ∀ q ∈ ks, IsT P w hp q.2 q.1) (nS : hp.get? S = none) (nw : ∀ b ∈ wr, hp.get? b = none) (hu : A.in1.units < cLine) :
    ∀ (m i : Nat) (s : Shared), n - i = m → i ≤ n → St i s → (∀ b o, hp.get? b = some o → s.heap.get? b = some o) → (∃ L es ep t, SetW P w s.heap S L es ep t ∧ Got ks i L) →
      (∀ s2 L es ep t, Moved (S :: wr) G s s2 → SetW P w s2.heap S L es ep t → Got ks n L → (∀ b o, hp.get? b = some o → s2.heap.get? b = some o) → R (.ok (.ret .none)) s2) →
      codeAny (model P w) A (.builtin "set.update.loop" ⟨[.ref S, .ref I], []⟩) R s := by
  have nSw : S ∉ wr := fun q => nfp (W.sub _ q)
  have up : ∀ b ∈ wr, b ∈ S :: wr := fun b hb => List.mem_cons_of_mem _ hb
  have stay : ∀ {u u2 : Shared}, Moved wr G u u2 → (∀ b o, hp.get? b = some o → u.heap.get? b = some o) → ∀ b o, hp.get? b = some o → u2.heap.get? b = some o := fun mv old b o e =>
    mv.heap b o (fun hb => by rw [nw b hb] at e; cases e) (old b o e)
  have turn : ∀ {s : Shared}, wpAny (model P w) A.in1 (Builtin.«set.update.loop» ⟨[.ref S, .ref I], []⟩) (fun fin u => match fin with | .done f => R (.ok f) u | .again c => c.quiet = true ∧ codeAny (model P w) A c R u) (fun e u => R (.error e) u) s → codeAny (model P w) A (.builtin "set.update.loop" ⟨[.ref S, .ref I], []⟩) R s := fun h =>
    codeAny_builtin F.entry_set_update_loop (by rw [Around.under_plainId F.plain_set_update_loop _]; exact h)
  intro m
  induction m with
  | zero =>
    rintro i s em hi st old ⟨L, es, ep, t, SW, g⟩ done
    obtain rfl : i = n := by omega
    refine turn (show wpAny _ A.in1 (pyNext (.ref I) >>= _) _ _ s from ?_)
    refine wpAny_bind (W.done s _ _ st fun u mv => ?_)
    have old2 := stay mv old
    show wpAny _ A.in1 (ret Value.none) _ _ u
    exact wpAny_pure (done u L es ep t (mv.mono up) (SW.keep (fun o e => mv.heap S o nSw e) fun q hq => isT_keep (tk q (List.mem_of_mem_take (g.sub q hq))) old2) g old2)
  | succ m ih =>
    rintro i s em hi st old ⟨L, es, ep, t, SW, g⟩ done
    have lt : i < n := by omega
    refine turn (show wpAny _ A.in1 (pyNext (.ref I) >>= _) _ _ s from ?_)
    refine wpAny_bind (W.item i s _ _ lt st fun v u hP st2 mv => ?_)
    obtain ⟨q, hq, rfl⟩ := pv i v hP
    have old2 := stay mv old
    have SW2 : SetW P w u.heap S L es ep t := SW.keep (fun o e => mv.heap S o nSw e) fun r hr => isT_keep (tk r (List.mem_of_mem_take (g.sub r hr))) old2
    have ix : IsT P w u.heap q.2 q.1 := isT_keep (tk q (List.mem_of_getElem? hq)) old2
    have gl := g.len
    show wpAny _ A.in1 (holding [Value.ref q.1] (setAdd S (.ref q.1)) >>= _) _ _ u
    refine wpAny_bind (wpAny_holding ?_)
    unfold setAdd
    refine wpAny_holding (wpAny_bind (wpAny_pyHash_tuple hu ix ?_))
    refine add_w (s := { u with toks := u.toks + (q.2.length + 1) }) (SW2.tr (by omega)) ix hu fun b h1 L1 es1 ep1 t1 sb SW3 c1 c2 => ?_
    have g1 : Got ks (i + 1) L1 := by
      by_cases c : q.2 ∈ L.map (·.2)
      · rw [c1 c]; exact g.same hq c
      · exact g.more hq (c2 c)
    have old3 : ∀ b o, hp.get? b = some o → h1.get? b = some o := fun b o e => (sb.2 b (fun z => by rw [z, nS] at e; cases e)).trans (old2 b o e)
    refine wpAny_pure ⟨plainId_quiet F.plain_set_update_loop _, ih (i + 1) _ (by omega) lt (W.frame _ u _ _ st2 (Nat.le_add_right _ _) fun b hb o e => ?_) old3 ⟨L1, es1, ep1, t1, SW3, g1⟩ fun u2 L2 es2 ep2 t2 mv2 SW4 g2 old4 => ?_⟩
    · rw [sb.2 b (fun z : b = S => nfp (z ▸ hb))]; exact e
    · refine done u2 L2 es2 ep2 t2 (Moved.trans W.gtrans ((mv.mono up).then_heap (Nat.le_add_right _ _) fun b o hb e => ?_) mv2) SW4 g2 old4
      rw [sb.2 b (fun z : b = S => hb (z ▸ List.mem_cons_self))]; exact e
/-- a new set's object -/
abbrev newSet (w : World) : Obj := { cls := .type "set", dict := none, data := .set #[] 0 (.fresh 0 0 (!w.params.followText "set-order")) }
/-- set(xs), xs a list of up to 64 tuples of ints -/
theorem callSetW {l : Addr} {its : Array Value} {ks : List AI} {C : Value → Shared → Prop} (hh : A.handled = none) (hl : s.heap.IsList l its) (ei : its.toList = ks.map fun q => Value.ref q.1)
    (tk : ∀ q ∈ ks, IsT P w s.heap q.2 q.1) (le64 : ks.length ≤ 64) (hu : A.units + 3 < cLine)
    (hC : ∀ (h1 : Heap) (tk : Nat) L es ep t, SetW P w h1 s.heap.objs.size L es ep t → Got ks ks.length L → (∀ b o, s.heap.get? b = some o → h1.get? b = some o) → C (.ref s.heap.objs.size) { s with heap := h1, toks := tk }) :
    wpAny (model P w) A (call (.type "set") [.ref l]) C E s := by
  have zi : its.size = ks.length := by
    have q := congrArg List.length ei
    rwa [Array.length_toList, List.length_map] at q
  obtain ⟨first, others, order⟩ := F.called_set.mro
  have f4 := F.called_set.made; have f5 := F.called_set.sub
  have f1 := F.called_set.notType; have f2 := F.called_set.canCreate
  have f3 := F.typeCall_set_1 (.ref l)
  refine wpAny_call (codeAny_of_tree (show wpAny _ _ (callAny (.type "set") _) _ _ _ from wpAny_pure ⟨Code.quiet_builtin _ (by decide +kernel), codeAny_builtin F.entry_type_call ?_⟩))
  rw [Around.under_plain (weight_type_call_type "set" [.ref l] []) (by rfl)]
  repeat (any_goals (first | wp_step | assumption))
  refine codeAny_mono (code_set_led1 (.ref l) (E := E) (Q₁ := fun x u => x = .ref s.heap.objs.size ∧ u = { s with heap := s.heap.push (newSet w) }) ⟨rfl, rfl⟩) fun r u hr => ?_
  cases r with
  | error e => exact hr
  | ok fl =>
    cases fl with
    | ret x =>
      obtain ⟨rfl, rfl⟩ := hr
      have gS : (s.heap.push (newSet w)).get? s.heap.objs.size = some (newSet w) := Heap.get?_push_size _ rfl
      have tS : Shared.TypeIs { s with heap := s.heap.push (newSet w) } (.ref s.heap.objs.size) "set" := ⟨_, gS, rfl⟩
      have i1 := F.called_set.init.lookup
      have i2 := F.called_set.init.bind (.ref s.heap.objs.size)
      repeat (any_goals (first | wp_step | assumption))
      refine codeAny_mono (codeAny_call_builtin (R := wants (fun r u => r = .none ∧ ∃ h1 tk L es ep t, u = { s with heap := h1, toks := tk } ∧ SetW P w h1 s.heap.objs.size L es ep t ∧ Got ks ks.length L ∧
          (∀ b o, s.heap.get? b = some o → h1.get? b = some o)) E) F.called_set.init.plain F.entry_set_init (check_set_init_1 tS ?_)) fun r2 u2 hr2 => ?_
      · obtain ⟨⟨oc, od, odt, osl⟩, ho, hcl, nl, hdt⟩ := id hl
        simp only at hcl hdt
        subst hcl hdt
        have ho1 : (s.heap.push (newSet w)).get? l = some { cls := .type "list", dict := od, data := .seq its nl, slots := osl } := Heap.get?_push_of_some _ ho
        have g1 := F.sub_list_set
        have g2 := F.sub_list_frozenset
        have g3 : (Value.type "list" == Value.type "dict") = false := by decide
        have hl1 : (s.heap.push (newSet w)).IsList l its := ⟨_, ho1, rfl, nl, rfl⟩
        unfold Builtin.«set.__init__» noKeywords Builtin.Frozenset.updateFrom
        generalize ePI : pyIter = PI
        wp_walk
        subst ePI
        refine wpAny_pyIter_list hl1 (wpAny_bind (wpAny_runValue ?_))
        have lS : l < s.heap.objs.size := Heap.lt_size ho
        have nI : l ≠ (s.heap.push (newSet w)).objs.size := by
          rw [Heap.size_push]; exact Nat.ne_of_lt (Nat.lt_succ_of_lt lS)
        have nfp : s.heap.objs.size ∉ [(s.heap.push (newSet w)).objs.size, l] := by
          rw [Heap.size_push]; simp only [List.mem_cons, List.not_mem_nil, or_false, not_or]; exact ⟨Nat.ne_of_lt (Nat.lt_succ_self _), Nat.ne_of_gt lS⟩
        have pv : ∀ (i : Nat) (v : Value), its[i]? = some v → ∃ q, ks[i]? = some q ∧ v = .ref q.1 := fun i v hv => by
          rw [← Array.getElem?_toList, ei, List.getElem?_map] at hv
          obtain ⟨q, h1, h2⟩ := Option.map_eq_some_iff.mp hv
          exact ⟨q, h1, h2.symm⟩
        have none_at : ∀ b, s.heap.objs.size ≤ b → s.heap.get? b = none := fun b hb => by
          cases q : s.heap.get? b with
          | none => rfl
          | some o => exact absurd (Heap.lt_size q) (Nat.not_lt_of_le hb)
        refine updW ((Walks.list (show A.in1.in1.in1.handled = none by simp [hh]) _ l nI its).toS) (S := s.heap.objs.size) nfp zi le64 pv (hp := s.heap) tk (none_at _ (Nat.le_refl _)) (fun b hb => none_at b (by
            rw [List.mem_singleton.mp hb, Heap.size_push]; exact Nat.le_succ _)) hu (its.size - 0) 0 _ (by omega) (Nat.zero_le _)
          ⟨⟨_, Heap.get?_push_size _ rfl, rfl, rfl⟩, (hl1.push _)⟩ (fun b o e => Heap.get?_push_of_some _ (Heap.get?_push_of_some _ e)) ?s0 ?fin
        case s0 =>
          exact ⟨[], #[], 0, _, .of (setTR_fresh (Heap.get?_push_of_some _ gS)), Got.zero ks⟩
        case fin =>
          rintro ⟨h1, gn, dr, tk1, os1⟩ L es ep t mv SW g kp
          obtain rfl : gn = s.gens := mv.gens
          obtain rfl : dr = s.drawn := mv.drawn
          obtain rfl : os1 = s.os := mv.os
          rw [zi] at g
          refine wpAny_pure (show wpAny _ _ (ret Value.none) _ _ _ from ?_)
          exact wpAny_pure ⟨rfl, h1, tk1, L, es, ep, t, rfl, SW, g, kp⟩
      · cases r2 with
        | error e => exact hr2
        | ok fl2 =>
          cases fl2 with
          | ret r =>
            obtain ⟨rfl, h1, tk1, L, es, ep, t, rfl, SW, g, kp⟩ := hr2
            repeat (any_goals (first | wp_step | assumption))
            exact hC _ _ _ _ _ _ SW g kp
          | _ => exact hr2.elim
    | _ => exact hr.elim
end

/-! DLO: sorted(..) of a list or a tuple of alike tuples, sorted(set(..)) of a list of tuples of ints: the data layer. -/
/-- rows: lists of ints, and their order -/
def rowD (r : List Int) : D := .tuple (r.map .int)
def rle (p q : List Int) : Bool := decide (p ≤ q)
theorem rle_t (a b c : List Int) (h : rle a b = true) (k : rle b c = true) : rle a c = true := by
  unfold rle at *
  exact decide_eq_true (List.le_trans (of_decide_eq_true h) (of_decide_eq_true k))
theorem rle_tot (a b : List Int) : (rle a b || rle b a) = true := by
  unfold rle
  rcases List.le_total a b with h | h
  · rw [decide_eq_true h, Bool.true_or]
  · rw [decide_eq_true h, Bool.or_true]
theorem rle_anti {a b : List Int} (h : rle a b = true) (k : rle b a = true) : a = b := by
  unfold rle at *
  exact List.le_antisymm (of_decide_eq_true h) (of_decide_eq_true k)
theorem rle_data (p q : List Int) : PySem.W.dataLe false id (rowD p) (rowD q) = rle p q := by
  show (!PySem.W.dataLt (rowD q) (rowD p)) = _
  unfold rowD rle
  rw [PySem.W.dataLt_tuple]
  show (!PySem.W.rowLt (q.map .int) (p.map .int)) = _
  rw [PySem.W.dataLt_ints]
  by_cases h : q < p
  · have h2 : ¬ p ≤ q := fun r => List.not_lt.mpr r h
    simp [h, h2]
  · have h2 : p ≤ q := List.not_lt.mp h
    simp [h, h2]
/-- two lists of the same, sorted alike, are one list -/
theorem msort_eq {α : Type} {le : α → α → Bool} (tr : ∀ a b c, le a b = true → le b c = true → le a c = true) (tot : ∀ a b, (le a b || le b a) = true) (an : ∀ {a b}, le a b = true → le b a = true → a = b) {l m : List α} (h : l.Perm m) : l.mergeSort le = m.mergeSort le :=
  List.Perm.eq_of_pairwise (le := fun a b => le a b = true) (fun a b _ _ h1 h2 => an h1 h2) (List.pairwise_mergeSort tr tot l) (List.pairwise_mergeSort tr tot m) (((List.mergeSort_perm l le).trans h).trans (List.mergeSort_perm m le).symm)
theorem rsort_eq {l m : List (List Int)} (h : l.Perm m) : l.mergeSort rle = m.mergeSort rle := msort_eq rle_t rle_tot rle_anti h
/-- all are tuples -/
def tupAny : D → Bool
  | .tuple _ => true
  | _ => false
def sortOkV (xs : List D) : Bool := xs.all (fun d => d.canLay0 && decide (d.depth ≤ 60)) && (xs.all (fun d => xs.all fun e => PySem.W.alike d e) && (xs.all tupAny && decide (xs.length ≤ big)))
def seqOf : D → Option (List D)
  | .list xs => some xs
  | .tuple xs => some xs
  | _ => none
def dSortV : List D → Option D
  | [d] => (seqOf d).bind fun xs => if sortOkV xs = true then some (.list (xs.mergeSort (PySem.W.dataLe false id))) else none
  | _ => none
def rSortV (K : PySem.W.Frag) : List V → Hp → VK → Prop := fun vs H Q => ∃ (a : Addr) (ys : List V) (ds : List D), vs = [V.ref a] ∧ (SqL K H a ys ∨ SqT K H a ys) ∧ DpAll K H ys ds ∧ sortOkV ds = true ∧ ∀ p, H p = none → Q (.ref p) (upd H p (.lst ((sortZip ys ds).map Prod.fst)))
theorem sortOkV_get {ds : List D} (h : sortOkV ds = true) : (∀ d ∈ ds, d.canLay0 = true ∧ d.depth ≤ 60) ∧ (∀ d ∈ ds, ∀ e ∈ ds, PySem.W.alike d e = true) ∧ (∀ d ∈ ds, ∃ xs, d = .tuple xs) ∧ ds.length ≤ big := by
  unfold sortOkV at h
  rw [Bool.and_eq_true, Bool.and_eq_true, Bool.and_eq_true] at h
  refine ⟨fun d hd => ?_, fun d hd e he => List.all_eq_true.mp (List.all_eq_true.mp h.2.1 d hd) e he, fun d hd => ?_, of_decide_eq_true h.2.2.2⟩
  · have q := List.all_eq_true.mp h.1 d hd
    simpa using q
  · have q := List.all_eq_true.mp h.2.2.1 d hd
    unfold tupAny at q
    split at q
    · exact ⟨_, rfl⟩
    · cases q
section
variable {X : Cx}
theorem H_none {pins : List (Addr × Obj)} {σ : L2.St} {H : Hp} {s : Shared} {p : Addr} (I : Inv X pins σ H s) (h : s.heap.get? p = none) : H p = none := I.hok.gone h
theorem cr_sortV (hu : X.A.units + 65 < cLine) : CallR X (.builtin "sorted") (rSortV X.K) := by
  intro pins s σ H vs us Q I r h
  obtain ⟨a, ys, ds, rfl, hs, hd, ok, q⟩ := h
  obtain ⟨k1, k2, k3, k4⟩ := sortOkV_get ok
  have src : ∃ (its : List Value) (T : String) (o : Obj) (n : Nat), Vals ys its ∧ (T = "list" ∨ T = "tuple") ∧ s.heap.get? a = some o ∧ o.cls = .type T ∧ o.data = .seq its.toArray n ∧ ys.length ≤ sizeLine := by
    rcases hs with hs | hs
    · obtain ⟨its, rv, hl, hz⟩ := I.list hs
      obtain ⟨o, g1, g2, n, g3⟩ := hl.isList
      exact ⟨its, "list", o, n, rv, .inl rfl, g1, g2, g3, hz⟩
    · obtain ⟨its, rv, ⟨o, g1, g2, n, g3⟩, hz⟩ := I.tuple hs
      exact ⟨its, "tuple", o, n, rv, .inr rfl, g1, g2, g3, hz⟩
  obtain ⟨its, T, o, n, rv, hT, g1, g2, g3, hz⟩ := src
  rw [Vals.ref1 r]
  have hlen := dpAll_len hd
  obtain ⟨as, h4⟩ := Dp.readsAll I ds _ its hd rv
  have er : PySem.W.EachIs (fun v d => ∃ as, Reads s.heap v d as) its ds := PySem.W.readsAll_each (enc := id) (by rw [List.map_id]; exact h4)
  have hmap := zip_snd hlen
  have hzl : (ys.zip ds).length ≤ sizeLine := by rw [List.length_zip]; exact Nat.le_trans (Nat.min_le_left _ _) hz
  have mem : ∀ b ∈ ys.zip ds, b.2 ∈ ds := fun b hb => by rw [← hmap]; exact List.mem_map_of_mem hb
  refine sorted_any (R := fun u q => RelV q.1 u) (enc := Prod.snd) (Pp := fun bs => bs = ys.zip ds) (fun E' C hC => ?_) fun s' p out c bs kp hp hg ho hout _ eb => ?_
  · refine wpAny_collect_seq a hT g1 g2 g3 (fun h' k => ?_) (by rw [List.size_toArray, ← rv.length]; exact hz)
    exact hC _ _ (ys.zip ds) ⟨k, rfl, rfl⟩ (by simpa using each_vals rv hlen) (by simpa using each_snd hlen er) ⟨by rw [hmap]; exact k2, fun b hb => k3 _ (mem b hb), hzl, fun b hb => by have := (k1 _ (mem b hb)).2; omega⟩ rfl
  · subst eb
    have hzs : ((sortZip ys ds).map Prod.fst).length ≤ sizeLine := by
      unfold sortZip
      rw [List.length_map, List.length_mergeSort]
      exact hzl
    have hn := H_none I hp
    exact ⟨.ref p, upd H p (.lst ((sortZip ys ds).map Prod.fst)), I.call' (ch := []) kp.o (Un.laidN kp.k hp hn) (I.hok.laidN kp.k hn ⟨hzs, out, c, vals_each hout, hg⟩) (by rw [kp.g]; exact I.bare) (fun _ z => nomatch z), rfl, q _ hn⟩
end

/-! ### sets of rows -/
/-- the set at a holds L: what a heap says of it alone -/
structure SetW0 (P : Program) (w : World) (h : Heap) (a : Addr) (L : List AI) : Prop where
  ex : ∃ (es : Array (Int × Value)) (ep : Nat) (t : SetTable), ((∃ o, h.get? a = some o ∧ o.ExactSet ∧ o.data = .set es ep t) ∧ es.toList = rowsOf P w L) ∧ (TabOk t (L.map fun q => thash P w q.2) ∧ L.length * 5 < t.mask * 3) ∧ (L.map (·.2)).Nodup ∧
    t.plain = true ∧ (w.params.followText "set-order" = true ∨ t.led = true)
def SetWO (P : Program) (w : World) (a : Addr) (L : List AI) : HO := .ext fun h => SetW0 P w h a L
theorem SetW.bare {P : Program} {w : World} {h : Heap} {a : Addr} {L : List AI} {es : Array (Int × Value)} {ep : Nat} {t : SetTable} (R : SetW P w h a L es ep t) : SetW0 P w h a L := ⟨es, ep, t, R.at_, R.tb, R.un.1, R.fl⟩
theorem setWO_ok {P : Program} {w : World} {H : Hp} {h : Heap} {a : Addr} {L : List AI} (R : SetW0 P w h a L) : ObjOk P w H h a (SetWO P w a L) := by
  have ⟨es, ep, t, ⟨⟨o, ho, r⟩, r2⟩, r3⟩ := R.ex
  refine ⟨R, ⟨o, ho⟩, fun h1 h2 p k => ?_⟩
  have ⟨es1, ep1, t1, ⟨⟨o1, ho1, q⟩, q2⟩, q3⟩ := SetW0.ex p
  exact ⟨es1, ep1, t1, ⟨⟨o1, k o1 ho1, q⟩, q2⟩, q3⟩
theorem reads_ints {P : Program} {w : World} {h : Heap} : ∀ {ns : List Int} {vs : List Value}, ItemsAre (intKind P w) ns vs → ReadsAll h vs (ns.map .int) []
  | _, _, .nil => .nil
  | _, _, .cons h1 t => by
    obtain ⟨tk, rfl⟩ := Value.isInt_shape h1
    exact .cons (as := []) (.int _ tk) (reads_ints t)
theorem reads_isT {P : Program} {w : World} {h : Heap} {k : List Int} {b : Addr} (x : IsT P w h k b) : Reads h (.ref b) (rowD k) [] := by
  obtain ⟨o, items, n, ho, hc, hd, hi⟩ := x
  exact .tuple ho hc hd (reads_ints hi)
theorem perm_map {α β : Type} {f : α → β} : ∀ {vs us : List β}, vs.Perm us → ∀ L : List α, us = L.map f → ∃ bs : List α, bs.Perm L ∧ vs = bs.map f := by
  intro vs us h
  induction h with
  | nil =>
    intro L e
    exact ⟨[], by rw [List.map_eq_nil_iff.mp e.symm], rfl⟩
  | cons x _ ih =>
    intro L e
    obtain ⟨y, L1, rfl, rfl, e2⟩ := List.map_eq_cons_iff.mp e.symm
    obtain ⟨bs, h1, h2⟩ := ih L1 e2.symm
    exact ⟨y :: bs, h1.cons y, by rw [h2, List.map_cons]⟩
  | swap x y l =>
    intro L e
    obtain ⟨a, L1, rfl, rfl, e2⟩ := List.map_eq_cons_iff.mp e.symm
    obtain ⟨b, L2, rfl, rfl, e3⟩ := List.map_eq_cons_iff.mp e2
    exact ⟨b :: a :: L2, .swap _ _ _, by rw [List.map_cons, List.map_cons, e3]⟩
  | trans _ _ ih1 ih2 =>
    intro L e
    obtain ⟨bs, h1, h2⟩ := ih2 L e
    obtain ⟨cs, h3, h4⟩ := ih1 bs h2
    exact ⟨cs, h3.trans h1, h4⟩
theorem each_ref : ∀ bs : List AI, PySem.W.EachIs (fun v q => v = Value.ref q.1) (bs.map fun q => Value.ref q.1) bs
  | [] => .nil
  | q :: bs => .cons rfl (each_ref bs)
theorem ref_each : ∀ {out : List Value} {bs : List AI}, PySem.W.EachIs (fun v q => v = Value.ref q.1) out bs → out = bs.map fun q => Value.ref q.1
  | _, _, .nil => rfl
  | _, _, .cons h t => by rw [List.map_cons, h, ref_each t]
theorem each_of {R : Value → AI → Prop} : ∀ {bs : List AI}, (∀ q ∈ bs, R (.ref q.1) q) → PySem.W.EachIs R (bs.map fun q => Value.ref q.1) bs
  | [], _ => .nil
  | q :: bs, h => .cons (h q List.mem_cons_self) (each_of fun r hr => h r (List.mem_cons_of_mem _ hr))
theorem row_depth (r : List Int) : (rowD r).depth = 1 := by
  unfold rowD
  rw [PyData.depth, PySem.W.depth_ints]
theorem row_alike (p q : List Int) : PySem.W.alike (rowD p) (rowD q) = true := by
  unfold rowD
  rw [PySem.W.alike]
  exact PySem.W.alike_ints p q
section
variable {X : Cx}
def rSetW (K : PySem.W.Frag) (P : Program) (w : World) : List V → Hp → VK → Prop := fun xs H Q => ∃ (l : Addr) (ks : List AI), xs = [V.ref l] ∧ SqL K H l (ks.map fun q => V.ref q.1) ∧ (∀ q ∈ ks, SqT K H q.1 (q.2.map V.int)) ∧ ks.length ≤ 64 ∧
  ∀ a L, H a = none → (∀ q ∈ L, q ∈ ks) → (∀ q ∈ ks, q.2 ∈ L.map (·.2)) → (L.map (·.2)).Nodup → L.length ≤ 64 → Q (.ref a) (upd H a (SetWO P w a L))
theorem cr_setW (hc : X.calm = true) (hu : X.A.units + 65 < cLine) : CallR X (.type "set") (rSetW X.K X.prog X.w) := by
  intro pins s σ H xs us Q I r h
  obtain ⟨l, ks, rfl, hl, tk, le64, q⟩ := h
  rw [Vals.ref1 r]
  obtain ⟨its, rv, pl, hz⟩ := I.list hl
  refine callSetW (P := X.prog) (w := X.w) (ks := ks) (I.ok.hd hc) pl.isList (by simpa using refs_of_vals rv) (fun p hp => I.isT (tk p hp)) le64 (by omega) fun h1 t1 L es ep t R g k => ?_
  have gl := g.len
  refine ⟨.ref s.heap.objs.size, upd H s.heap.objs.size (SetWO X.prog X.w s.heap.objs.size L), I.laid (t' := t1) k (Nat.le_refl _) (setWO_ok R.bare), rfl, q _ L (I.hok.fresh (Nat.le_refl _)) (fun p hp => List.mem_of_mem_take (g.sub p hp)) (fun p hp => ?_) R.un.1 (by omega)⟩
  exact g.all p (by rw [List.take_length]; exact hp)
def rSortW (K : PySem.W.Frag) (P : Program) (w : World) : List V → Hp → VK → Prop := fun vs H Q => ∃ (a : Addr) (L : List AI), vs = [V.ref a] ∧ H a = some (SetWO P w a L) ∧ (∀ q ∈ L, SqT K H q.1 (q.2.map V.int)) ∧ L.length ≤ 64 ∧
  ∀ (M : List AI) (p : Addr), M.Perm L → M.map (·.2) = (L.map (·.2)).mergeSort rle → H p = none → Q (.ref p) (upd H p (.lst (M.map fun q => V.ref q.1)))
theorem cr_sortW (hc : X.calm = true) (hu : X.A.units + 65 < cLine) : CallR X (.builtin "sorted") (rSortW X.K X.prog X.w) := by
  intro pins s σ H vs us Q I r h
  obtain ⟨a, L, rfl, ha, tk, le64, q⟩ := h
  have R0 : SetW0 X.prog X.w s.heap a L := (I.hok a _ ha).1
  obtain ⟨es, ep, t, ⟨⟨o, ho, hex, hd⟩, rows⟩, ⟨tb, room⟩, nd, pln, led⟩ := R0.ex
  have W : SetW X.prog X.w s.heap a L es ep t := ⟨⟨⟨o, ho, hex, hd⟩, rows⟩, ⟨tb, room⟩, ⟨nd, fun p hp => I.isT (tk p hp)⟩, pln, led⟩
  have zs : es.size = L.length := by
    have e := congrArg List.length rows
    unfold rowsOf at e
    rwa [Array.length_toList, List.length_map] at e
  have fits : t.fits es.size = true := by
    have e := tb.sz
    rw [List.length_map] at e
    unfold SetTable.fits SetTable.fill
    rw [tb.dm, Bool.and_eq_true, beq_iff_eq, decide_eq_true_eq]
    show t.place.size = es.size ∧ t.place.size + 0 ≤ t.mask
    omega
  rw [Vals.ref1 r]
  refine sorted_any (R := fun v q => v = Value.ref q.1) (enc := fun q : AI => rowD q.2) (Pp := fun bs => bs.Perm L) (fun E' C hC => ?_) fun s' p out c bs kp hp hg ho hout _ pm => ?_
  · refine collect_set (A := X.A.in1) (I.ok.hd hc) ⟨o, ho, hex.1, hd⟩ fits (by unfold scanBound; omega) tb.ris led fun s1 vs k1 hz g1 o1 pm => ?_
    have ee : es.toList.map (·.2) = L.map fun q => Value.ref q.1 := by
      rw [rows]
      unfold rowsOf
      rw [List.map_map]
      rfl
    obtain ⟨bs, hb, rfl⟩ := perm_map pm L ee
    refine hC s1 _ bs ⟨k1, g1, o1⟩ (each_ref bs) (each_of fun r hr => ⟨[], reads_isT (W.un.2 r (hb.mem_iff.mp hr))⟩) ⟨.of fun x y => row_alike _ _, fun r _ => ⟨_, rfl⟩, by rw [hb.length_eq, sizeLine_eq]; omega, fun r _ => by rw [row_depth]; omega⟩ hb
  · have hM : (bs.mergeSort (PySem.W.dataLe false fun q : AI => rowD q.2)).Perm L := (List.mergeSort_perm _ _).trans pm
    have hr : (bs.mergeSort (PySem.W.dataLe false fun q : AI => rowD q.2)).map (·.2) = (L.map (·.2)).mergeSort rle := by
      rw [List.map_mergeSort (r := PySem.W.dataLe false fun q : AI => rowD q.2) (s := rle) (f := fun q : AI => q.2) (fun x _ y _ => rle_data x.2 y.2)]
      exact rsort_eq (pm.map _)
    generalize bs.mergeSort (PySem.W.dataLe false fun q : AI => rowD q.2) = M at hM hr hout
    have hl : (M.map fun q => V.ref q.1).length ≤ sizeLine := by rw [List.length_map, hM.length_eq, sizeLine_eq]; omega
    have hn := H_none I hp
    exact ⟨.ref p, upd H p (.lst (M.map fun q => V.ref q.1)), I.call' (ch := []) kp.o (Un.laidN kp.k hp hn) (I.hok.laidN kp.k hn ⟨hl, out, c, by rw [ref_each hout]; exact vals_of_refs M, hg⟩) (by rw [kp.g]; exact I.bare) (fun _ z => nomatch z), rfl, q M p hM hr hn⟩
end

/-! ### the data layer -/
def rowsIn : List D → Option (List (List Int))
  | [] => some []
  | .tuple xs :: ds => (intsOf xs).bind fun r => (rowsIn ds).map fun rs => r :: rs
  | _ :: _ => none
/-- each once -/
def onceR : List (List Int) → List (List Int)
  | [] => []
  | r :: rs => if r ∈ rs then onceR rs else r :: onceR rs
theorem mem_once {r : List Int} : ∀ {rs : List (List Int)}, r ∈ onceR rs ↔ r ∈ rs
  | [] => Iff.rfl
  | x :: rs => by
    unfold onceR
    by_cases h : x ∈ rs
    · rw [if_pos h, mem_once, List.mem_cons]
      exact ⟨.inr, fun q => q.elim (fun e => e ▸ h) id⟩
    · rw [if_neg h, List.mem_cons, List.mem_cons, mem_once]
theorem nodup_once : ∀ rs : List (List Int), (onceR rs).Nodup
  | [] => .nil
  | x :: rs => by
    unfold onceR
    by_cases h : x ∈ rs
    · rw [if_pos h]; exact nodup_once rs
    · rw [if_neg h]; exact List.nodup_cons.mpr ⟨fun q => h (mem_once.mp q), nodup_once rs⟩
theorem rowsIn_map : ∀ {ds : List D} {rs : List (List Int)}, rowsIn ds = some rs → ds = rs.map rowD
  | [], _, h => by cases h; rfl
  | .tuple xs :: ds, rs, h => by
    unfold rowsIn at h
    obtain ⟨r, h1, h2⟩ := bindS h
    obtain ⟨rs2, h3, rfl⟩ := Option.map_eq_some_iff.mp h2
    rw [List.map_cons, ← rowsIn_map h3, ints_map h1]
    rfl
  | .none :: _, _, h => by cases h
  | .bool _ :: _, _, h => by cases h
  | .int _ :: _, _, h => by cases h
  | .str _ :: _, _, h => by cases h
  | .list _ :: _, _, h => by cases h
  | .dict _ :: _, _, h => by cases h
theorem rowsIn_rows : ∀ rs : List (List Int), rowsIn (rs.map rowD) = some rs
  | [] => rfl
  | r :: rs => by
    rw [List.map_cons]
    unfold rowD rowsIn
    rw [intsOf_map, Option.bind_some]
    show (rowsIn (rs.map rowD)).map _ = _
    rw [rowsIn_rows rs]
    rfl
def dSortSetW : D → Option D
  | .list xs => (rowsIn xs).bind fun rs => if rs.length ≤ 64 then some (.list (((onceR rs).mergeSort rle).map rowD)) else none
  | _ => none
theorem re_rows {K : PySem.W.Frag} {F : Hp} : ∀ {vs : List V} {rs : List (List Int)}, ReAll K F vs (rs.map rowD) → ∃ ks : List AI, vs = (ks.map fun q => V.ref q.1) ∧ ks.map (·.2) = rs ∧ ∀ q ∈ ks, F q.1 = some (.tup (q.2.map V.int)) ∧ q.2.length ≤ big
  | [], [], _ => ⟨[], rfl, rfl, fun q hq => by cases hq⟩
  | v :: vs, r :: rs, h => by
    rw [List.map_cons, re_cons] at h
    obtain ⟨ks, h1, h2, h3⟩ := re_rows h.2
    have h4 := h.1
    unfold rowD at h4
    rw [re_tuple] at h4
    obtain ⟨a, xs, rfl, e1, e2, e3⟩ := h4
    rw [re_ints e2] at e1
    rw [List.length_map] at e3
    refine ⟨(a, r) :: ks, by rw [List.map_cons, h1], by rw [List.map_cons, h2], fun q hq => ?_⟩
    rcases List.mem_cons.mp hq with rfl | hq
    · exact ⟨e1, e3⟩
    · exact h3 q hq
  | [], _ :: _, h => by simp only [List.map_cons, ReAll] at h
  | _ :: _, [], h => by simp only [List.map_nil, ReAll] at h
theorem rows_re {K : PySem.W.Frag} {F : Hp} : ∀ {ks : List AI}, (∀ q ∈ ks, F q.1 = some (.tup (q.2.map V.int)) ∧ q.2.length ≤ big) → ReAll K F (ks.map fun q => V.ref q.1) ((ks.map (·.2)).map rowD)
  | [], _ => re_nil
  | q :: ks, h => by
    rw [List.map_cons, List.map_cons, List.map_cons, re_cons]
    refine ⟨?_, rows_re fun r hr => h r (List.mem_cons_of_mem _ hr)⟩
    obtain ⟨h1, h2⟩ := h q List.mem_cons_self
    unfold rowD
    rw [re_tuple]
    exact ⟨q.1, _, rfl, h1, re_ints_mk q.2, by rw [List.length_map]; exact h2⟩
section
variable {G : Wd} {S : Sta} {w : List Nat} {e a b c : Expr} {es : List Expr} {f fa fb fc : XE} {fs : List XE} {pos : Pos}
theorem cvd_sortV {K : PySem.W.Frag} : CvD K (rSortV K) dSortV := fun F H vs ds z l r h Q q => by
  unfold dSortV at h
  split at h
  · rename_i d
    obtain ⟨xs, h1, h2⟩ := bindS h
    split at h2
    · cases h2
      rename_i ok
      obtain ⟨k1, k2, k3, k4⟩ := sortOkV_get ok
      obtain ⟨v, rfl, hv⟩ := re_args1 r
      have src : ∃ p ys, v = .ref p ∧ (SqL K H p ys ∨ SqT K H p ys) ∧ ReAll K F ys xs := by
        unfold seqOf at h1
        split at h1
        · cases h1
          rw [re_list] at hv
          obtain ⟨p, ys, rfl, hp, rx, _⟩ := hv
          exact ⟨p, ys, rfl, .inl (SqL.of (l.lst hp)), rx⟩
        · cases h1
          rw [re_tuple] at hv
          obtain ⟨p, ys, rfl, hp, rx, _⟩ := hv
          exact ⟨p, ys, rfl, .inr (SqT.of (l.tup hp)), rx⟩
        · cases h1
      obtain ⟨p, ys, rfl, hs, rx⟩ := src
      have hlen : xs.length = ys.length := rx.len.symm
      refine ⟨p, ys, xs, rfl, hs, ReAll.dp l xs ys (canLayAll_of fun d hd => (k1 d hd).1) rx, ok, fun p' hp' => ?_⟩
      have h3 : ReAll K F ((sortZip ys xs).map Prod.fst) (xs.mergeSort (PySem.W.dataLe false id)) := by
        rw [← sortZip_snd hlen]
        exact reAll_of fun q hq => reAll_zip rx q ((List.mergeSort_perm _ _).mem_iff.mp hq)
      obtain ⟨g, rr⟩ := Grow.lst (K := K) l hp' h3 (by rw [List.length_mergeSort]; exact k4)
      exact q _ _ _ g rr
    · cases h2
  · cases h
theorem de_sortV {p : Pos} (hm : G.mg "sorted" = none) (hg : S.sc.names.lookup ("sorted" : Str) = some .globalImplicit) (ha : DE G S w e f) (he : ∀ env : Env, starEach [e] env = (false, eval e env) :: starEach [] env := by intro _; rfl) (hc : S.cm = true := by rfl) : DE G S w (.Call (.Name "sorted" p) [e] [] pos) (xF dSortV [f]) :=
  de_callB (r := rSortV G.K) (fun X hX => by rw [← hX.K]; exact cr_sortV (room65 (hX.room hc))) cvd_sortV hm PyProof.Rows.boot_sorted hg (da_cons ha da_nil he) (he := he)
theorem de_sortedSetW {p p2 pos2 : Pos} (hm : G.mg "sorted" = none) (hg : S.sc.names.lookup ("sorted" : Str) = some .globalImplicit) (hm2 : G.mg "set" = none) (hg2 : S.sc.names.lookup ("set" : Str) = some .globalImplicit) (ha : DE G S w e f)
    (he : ∀ env : Env, starEach [e] env = (false, eval e env) :: starEach [] env := by intro _; rfl) (hc : S.cm = true := by rfl) : DE G S w (.Call (.Name "sorted" p) [.Call (.Name "set" p2) [e] [] pos2] [] pos) (x1 dSortSetW f) := by
  obtain ⟨te, pe, ve⟩ := ha
  refine ⟨tCB (rSortW G.K G.P G.w) (tCons (tCB (rSetW G.K G.P G.w) (tCons te tNil)) tNil), fun X hX => ?_, fun B F0 ρ z h F σ H R Q q => ?_⟩
  · rw [← hX.K, ← hX.w, ← hX.p]
    exact pe_callB (cr_sortW (hX.calm hc) (room65 (hX.room hc))) (by unfold Gl Env.kindOf; rw [hX.sc]; exact hg) (by rw [hX.mg]; exact hm) PyProof.Rows.boot_sorted
      (pa_cons (pe_callTy (cr_setW (hX.calm hc) (room65 (hX.room hc))) (by unfold Gl Env.kindOf; rw [hX.sc]; exact hg2) (by rw [hX.mg]; exact hm2) PyProof.Rows.boot_set (pa_cons (pe X hX) pa_nil (he _)) (by decide) (by decide) (he _) rfl) pa_nil rfl) (by decide) (by decide) rfl rfl
  · unfold x1 at h
    obtain ⟨d, h1, h2⟩ := bindS h
    unfold dSortSetW at h2
    split at h2
    · obtain ⟨rs, e1, h3⟩ := bindS h2
      split at h3
      · cases h3
        rename_i le64
        have e2 := rowsIn_map e1
        subst e2
        refine ve B F0 ρ _ h1 F σ H R _ fun v F2 H2 g2 r2 => ?_
        have R2 := R.grow g2
        rw [re_list] at r2
        obtain ⟨a, ys, rfl, hp, rx, hl⟩ := r2
        obtain ⟨ks, rfl, e3, e4⟩ := re_rows rx
        have zk : ks.length = rs.length := by rw [← e3, List.length_map]
        refine ⟨a, ks, rfl, SqL.of (R2.l.lst hp), fun q hq => SqT.of (R2.l.tup (e4 q hq).1), by omega, fun qa L hqa sub all nd l64 => ?_⟩
        have g3 : Grow F2 H2 F2 (upd H2 qa (SetWO G.P G.w qa L)) := .newH R2.l hqa
        refine ⟨qa, L, rfl, upd_same, fun q hq => SqT.of (g3.l.tup (e4 q (sub q hq)).1), l64, fun M p' pm em hp' => ?_⟩
        have e5 : (L.map (·.2)).mergeSort rle = (onceR rs).mergeSort rle := by
          refine rsort_eq ((List.perm_ext_iff_of_nodup nd (nodup_once rs)).mpr fun r => ?_)
          rw [mem_once]
          constructor
          · intro h
            obtain ⟨q, hq, rfl⟩ := List.mem_map.mp h
            rw [← e3]
            exact List.mem_map_of_mem (sub q hq)
          · intro h
            rw [← e3] at h
            obtain ⟨q, hq, rfl⟩ := List.mem_map.mp h
            exact all q hq
        have rM : ReAll G.K F2 (M.map fun q => V.ref q.1) (((onceR rs).mergeSort rle).map rowD) := by
          rw [← e5, ← em]
          exact rows_re fun q hq => e4 q (sub q (pm.mem_iff.mp hq))
        obtain ⟨g, rr⟩ := Grow.lst (K := G.K) g3.l hp' rM (by
          rw [← e5, ← em, List.length_map, List.length_map, pm.length_eq]
          exact Nat.le_trans l64 (by decide))
        exact q _ _ _ ((g2.trans g3).trans g) rr
      · cases h3
    · cases h2
end

/-! ML0: what the functional code computes, in plain terms: encodings. -/

/-! ### encodings -/
def okD (n : Nat) (d : D) : Prop := d.canLay0 = true ∧ d.depth ≤ n
theorem okD.le {n m : Nat} {d : D} (h : okD n d) (e : n ≤ m) : okD m d := ⟨h.1, Nat.le_trans h.2 e⟩
theorem okD.sh {n : Nat} {d : D} (h : okD n d) (e : n ≤ 64) : SeqAt.shaped d = true := by
  unfold SeqAt.shaped
  rw [h.1, Bool.true_and]
  exact decide_eq_true (Nat.le_trans h.2 e)
theorem okD_all {n : Nat} : ∀ {l : List D}, (∀ d ∈ l, okD n d) → PyData.canLayAll0 l = true ∧ PyData.depthAll l ≤ n
  | [], _ => ⟨by simp only [PyData.canLayAll0], by simp only [PyData.depthAll]; exact Nat.zero_le _⟩
  | x :: xs, h => by
    have h1 := h x List.mem_cons_self
    have h2 := okD_all (l := xs) fun d hd => h d (List.mem_cons_of_mem _ hd)
    simp only [PyData.canLayAll0, PyData.depthAll]
    exact ⟨by rw [h1.1, h2.1]; rfl, Nat.max_le.mpr ⟨h1.2, h2.2⟩⟩
theorem okD_tup {n : Nat} {l : List D} (h : ∀ d ∈ l, okD n d) : okD (n + 1) (.tuple l) := by
  have h2 := okD_all h
  unfold okD
  simp only [PyData.canLay0, PyData.depth]
  exact ⟨h2.1, Nat.succ_le_succ h2.2⟩
theorem okD_lst {n : Nat} {l : List D} (h : ∀ d ∈ l, okD n d) : okD (n + 1) (.list l) := by
  have h2 := okD_all h
  unfold okD
  simp only [PyData.canLay0, PyData.depth]
  exact ⟨h2.1, Nat.succ_le_succ h2.2⟩
class Enc {α : Type} [DecidableEq α] (f : α → D) (n : outParam Nat) : Prop where
  eqv : ∀ a b, PyData.eqv (f a) (f b) = decide (a = b)
  ok : ∀ a, okD n (f a)
def tpl {α : Type} (f : α → D) (l : List α) : D := .tuple (l.map f)
def lss {α : Type} (f : α → D) (l : List α) : D := .list (l.map f)
def pr {α β : Type} (f : α → D) (g : β → D) (p : α × β) : D := .tuple [f p.1, g p.2]
instance : Enc PyData.int 0 := ⟨fun a b => by
  simp only [PyData.eqv]
  by_cases h : a = b <;> simp [h], fun a => ⟨by simp only [PyData.canLay0], by simp only [PyData.depth]; exact Nat.le_refl _⟩⟩
instance : Enc PyData.bool 0 := ⟨fun a b => by
  simp only [PyData.eqv]
  by_cases h : a = b <;> simp [h], fun a => ⟨by simp only [PyData.canLay0], by simp only [PyData.depth]; exact Nat.le_refl _⟩⟩
section
variable {α β : Type} [DecidableEq α] [DecidableEq β] {f : α → D} {g : β → D} {n m : Nat}
theorem eqvAll_map [Enc f n] : ∀ a b : List α, PyData.eqvAll (a.map f) (b.map f) = decide (a = b)
  | [], [] => by simp [PyData.eqvAll]
  | [], _ :: _ => by simp [PyData.eqvAll]
  | _ :: _, [] => by simp [PyData.eqvAll]
  | x :: xs, y :: ys => by
    simp only [List.map_cons, PyData.eqvAll]
    rw [Enc.eqv, eqvAll_map xs ys]
    by_cases h : x = y <;> by_cases h2 : xs = ys <;> simp [h, h2]
theorem ok_map [Enc f n] (a : List α) : ∀ d ∈ a.map f, okD n d := fun d hd => by
  obtain ⟨x, _, rfl⟩ := List.mem_map.mp hd
  exact Enc.ok x
instance [Enc f n] : Enc (tpl f) (n + 1) := ⟨fun a b => by unfold tpl; rw [PyData.eqv]; exact eqvAll_map a b, fun a => okD_tup (ok_map a)⟩
instance [Enc f n] : Enc (lss f) (n + 1) := ⟨fun a b => by unfold lss; rw [PyData.eqv]; exact eqvAll_map a b, fun a => okD_lst (ok_map a)⟩
instance [Enc f n] [Enc g m] : Enc (pr f g) (n + m + 1) := ⟨fun a b => by
  unfold pr
  rw [PyData.eqv]
  simp only [PyData.eqvAll]
  rw [Enc.eqv, Enc.eqv]
  obtain ⟨a1, a2⟩ := a
  obtain ⟨b1, b2⟩ := b
  by_cases h : a1 = b1 <;> by_cases h2 : a2 = b2 <;> simp [h, h2], fun a => okD_tup fun d hd => by
    rcases List.mem_cons.mp hd with rfl | hd
    · exact (Enc.ok a.1).le (Nat.le_add_right _ _)
    · rw [List.mem_singleton.mp hd]
      exact (Enc.ok a.2).le (Nat.le_add_left _ _)⟩

/-! ### comparisons -/
theorem dEq_enc [Enc f n] (a b : α) (h : n ≤ 64) : dEq (f a) (f b) = some (.bool (decide (a = b))) := by
  unfold dEq
  rw [(Enc.ok (f := f) a).sh h, (Enc.ok (f := f) b).sh h, Enc.eqv]
  rfl
theorem dNe_enc [Enc f n] (a b : α) (h : n ≤ 64) : dNe (f a) (f b) = some (.bool !(decide (a = b))) := by
  unfold dNe
  rw [(Enc.ok (f := f) a).sh h, (Enc.ok (f := f) b).sh h, Enc.eqv]
  rfl
theorem dEq_int (a b : Int) : dEq (.int a) (.int b) = some (.bool (decide (a = b))) := dEq_enc a b (by decide)
theorem dNe_int (a b : Int) : dNe (.int a) (.int b) = some (.bool !(decide (a = b))) := dNe_enc a b (by decide)
theorem dEq_bool (a b : Bool) : dEq (.bool a) (.bool b) = some (.bool (decide (a = b))) := dEq_enc a b (by decide)
theorem dNe_bool (a b : Bool) : dNe (.bool a) (.bool b) = some (.bool !(decide (a = b))) := dNe_enc a b (by decide)
theorem dEq_tpl [Enc f n] (a b : List α) (h : n + 1 ≤ 64) : dEq (tpl f a) (tpl f b) = some (.bool (decide (a = b))) := dEq_enc a b h
theorem dNe_tpl [Enc f n] (a b : List α) (h : n + 1 ≤ 64) : dNe (tpl f a) (tpl f b) = some (.bool !(decide (a = b))) := dNe_enc a b h
theorem dEq_lss [Enc f n] (a b : List α) (h : n + 1 ≤ 64) : dEq (lss f a) (lss f b) = some (.bool (decide (a = b))) := dEq_enc a b h
theorem dNe_lss [Enc f n] (a b : List α) (h : n + 1 ≤ 64) : dNe (lss f a) (lss f b) = some (.bool !(decide (a = b))) := dNe_enc a b h
theorem dEq_pr [Enc f n] [Enc g m] (a b : α × β) (h : n + m + 1 ≤ 64) : dEq (pr f g a) (pr f g b) = some (.bool (decide (a = b))) := dEq_enc a b h
theorem dNe_pr [Enc f n] [Enc g m] (a b : α × β) (h : n + m + 1 ≤ 64) : dNe (pr f g a) (pr f g b) = some (.bool !(decide (a = b))) := dNe_enc a b h
theorem dec_nil (a : List α) : decide (a = []) = a.isEmpty := by cases a <;> simp
theorem dEq_nil [Enc f n] (a : List α) (h : n + 1 ≤ 64) : dEq (lss f a) (.list []) = some (.bool a.isEmpty) := by
  rw [← dec_nil]; exact dEq_enc (f := lss f) a [] h
theorem dNe_nil [Enc f n] (a : List α) (h : n + 1 ≤ 64) : dNe (lss f a) (.list []) = some (.bool !a.isEmpty) := by
  rw [← dec_nil]; exact dNe_enc (f := lss f) a [] h
theorem dEq_tnil [Enc f n] (a : List α) (h : n + 1 ≤ 64) : dEq (tpl f a) (.tuple []) = some (.bool a.isEmpty) := by
  rw [← dec_nil]; exact dEq_enc (f := tpl f) a [] h
theorem dNe_tnil [Enc f n] (a : List α) (h : n + 1 ≤ 64) : dNe (tpl f a) (.tuple []) = some (.bool !a.isEmpty) := by
  rw [← dec_nil]; exact dNe_enc (f := tpl f) a [] h
theorem dMem_map [Enc f n] (a : α) (l : List α) : dMem (f a) (l.map f) = decide (a ∈ l) := by
  unfold dMem
  induction l with
  | nil => simp
  | cons x xs ih =>
    rw [List.map_cons, List.any_cons, ih, Enc.eqv]
    by_cases h : x = a
    · subst h; simp
    · have h' : ¬ a = x := fun e => h e.symm
      by_cases h2 : a ∈ xs <;> simp [h, h', h2]
theorem dIn_tpl [Enc f n] (a : α) (l : List α) (h : n + 1 ≤ 64) : dIn (f a) (tpl f l) = some (.bool (decide (a ∈ l))) := by
  have h1 := (Enc.ok (f := f) a).sh (Nat.le_trans (Nat.le_succ _) h)
  have h2 := (Enc.ok (f := tpl f) l).sh h
  have h3 := dMem_map (f := f) a l
  unfold tpl at h2 ⊢
  unfold dIn
  generalize f a = d at *
  cases d <;> simp only [h1, h2, h3, Bool.and_self, if_true]
theorem dIn_lss [Enc f n] (a : α) (l : List α) (h : n + 1 ≤ 64) : dIn (f a) (lss f l) = some (.bool (decide (a ∈ l))) := by
  have h1 := (Enc.ok (f := f) a).sh (Nat.le_trans (Nat.le_succ _) h)
  have h2 := (Enc.ok (f := lss f) l).sh h
  have h3 := dMem_map (f := f) a l
  unfold lss at h2 ⊢
  unfold dIn
  generalize f a = d at *
  cases d <;> simp only [h1, h2, h3, Bool.and_self, if_true]
theorem dNotIn_tpl [Enc f n] (a : α) (l : List α) (h : n + 1 ≤ 64) : dNotIn (f a) (tpl f l) = some (.bool !(decide (a ∈ l))) := by
  have h1 := (Enc.ok (f := f) a).sh (Nat.le_trans (Nat.le_succ _) h)
  have h2 := (Enc.ok (f := tpl f) l).sh h
  have h3 := dMem_map (f := f) a l
  unfold tpl at h2 ⊢
  unfold dNotIn
  generalize f a = d at *
  cases d <;> simp only [h1, h2, h3, Bool.and_self, if_true]
theorem dNotIn_lss [Enc f n] (a : α) (l : List α) (h : n + 1 ≤ 64) : dNotIn (f a) (lss f l) = some (.bool !(decide (a ∈ l))) := by
  have h1 := (Enc.ok (f := f) a).sh (Nat.le_trans (Nat.le_succ _) h)
  have h2 := (Enc.ok (f := lss f) l).sh h
  have h3 := dMem_map (f := f) a l
  unfold lss at h2 ⊢
  unfold dNotIn
  generalize f a = d at *
  cases d <;> simp only [h1, h2, h3, Bool.and_self, if_true]
end

/-! ### the rest of the evaluation -/
theorem xIf_t {α : Type} {t e : Option α} : xIf (.bool true) t e = t := rfl
theorem xIf_f {α : Type} {t e : Option α} : xIf (.bool false) t e = e := rfl
theorem isT_bool (b : Bool) : isT "bool" (.bool b) = some (.bool true) := by
  have h : kitB "bool" "bool" = some true := by
    unfold kitB
    rw [if_pos (by decide +kernel)]
  unfold isT
  simp only [tyD, h, Option.bind_some]
def rowAt {α : Type} (L : List (List α)) (k : Int) : List α := L.getD k.toNat []
def getI {α : Type} (d : α) (L : List α) (k : Int) : α := L.getD k.toNat d
def up (m : Int) : List Int := (List.range m.toNat).map fun i : Nat => (i : Int)
def up2 (a b : Int) : List Int := (List.range (b - a).toNat).map fun i : Nat => a + (i : Int)
section
variable {α β : Type} {f : α → D} {g : β → D}
theorem items_tpl (l : List α) : dItems (tpl f l) = some (l.map f) := rfl
theorem items_lss (l : List α) : dItems (lss f l) = some (l.map f) := rfl
theorem items_nil : dItems (.list []) = some [] := rfl
theorem items_tnil : dItems (.tuple []) = some [] := rfl
theorem dLen_tpl (l : List α) : dLen [tpl f l] = some (.int l.length) := by unfold dLen tpl; simp only [List.length_map]
theorem dLen_lss (l : List α) : dLen [lss f l] = some (.int l.length) := by unfold dLen lss; simp only [List.length_map]
theorem dLen_scr (ns : List Int) : dLen [scr ns] = some (.int ns.length) := by unfold dLen scr; simp only [scrOf, Option.bind_some, List.length_map]
theorem dTuple_tpl (l : List α) : dTuple [tpl f l] = some (tpl f l) := rfl
theorem dTuple_lss (l : List α) : dTuple [lss f l] = some (tpl f l) := rfl
theorem dList_tpl (l : List α) : dList [tpl f l] = some (lss f l) := rfl
theorem dList_lss (l : List α) : dList [lss f l] = some (lss f l) := rfl
theorem dAll_lss (l : List Bool) : dAll [lss .bool l] = some (.bool (l.all id)) := by unfold dAll lss; simp only [boolsOf_map, Option.bind_some]
theorem dAny_lss (l : List Bool) : dAny [lss .bool l] = some (.bool (l.any id)) := by unfold dAny lss; simp only [boolsOf_map, Option.bind_some]
theorem dIx_0 (p : α × β) : dIx (pr f g p) (.int 0) = some (f p.1) := rfl
theorem dIx_1 (p : α × β) : dIx (pr f g p) (.int 1) = some (g p.2) := rfl
theorem atI_map (l : List α) {k : Int} (h0 : 0 ≤ k) (h1 : k < l.length) (d : α) : atI (l.map f) k = some (f (getI d l k)) := by
  obtain ⟨j, rfl⟩ := Int.eq_ofNat_of_zero_le h0
  have hj : j < l.length := by omega
  unfold atI ixN getI
  rw [List.length_map]
  simp [hj]
theorem dIx_tpl (l : List α) {k : Int} (h0 : 0 ≤ k) (h1 : k < l.length) (d : α) : dIx (tpl f l) (.int k) = some (f (getI d l k)) := atI_map l h0 h1 d
theorem dIx_lss (l : List α) {k : Int} (h0 : 0 ≤ k) (h1 : k < l.length) (d : α) : dIx (lss f l) (.int k) = some (f (getI d l k)) := atI_map l h0 h1 d
theorem dIx_scr (l : List Int) {k : Int} (h0 : 0 ≤ k) (h1 : k < l.length) : dIx (scr l) (.int k) = some (.int (getI 0 l k)) := atI_map l h0 h1 0
theorem dIx_rows {f : List α → D} (l : List (List α)) {k : Int} (h0 : 0 ≤ k) (h1 : k < l.length) : dIx (tpl f l) (.int k) = some (f (rowAt l k)) := atI_map l h0 h1 []
theorem dLt_int (a b : Int) : dLt (.int a) (.int b) = some (.bool (decide (a < b))) := rfl
theorem dLe_int (a b : Int) : dLe (.int a) (.int b) = some (.bool (decide (a ≤ b))) := rfl
theorem dGt_int (a b : Int) : dGt (.int a) (.int b) = some (.bool (decide (b < a))) := rfl
theorem dGe_int (a b : Int) : dGe (.int a) (.int b) = some (.bool (decide (b ≤ a))) := rfl
theorem dAdd_int (a b : Int) : dAdd (.int a) (.int b) = some (.int (a + b)) := rfl
theorem dSub_int (a b : Int) : dSub (.int a) (.int b) = some (.int (a - b)) := rfl
theorem dMod_int (a : Int) {b : Int} (h : 0 < b) : dMod (.int a) (.int b) = some (.int (a % b)) := if_pos h
theorem dDiv_int (a : Int) {b : Int} (h : 0 < b ∧ b < 1073741824) : dDiv (.int a) (.int b) = some (.int (a / b)) := if_pos h
theorem dMul_int {a b : Int} (h : (-(2 ^ 64) < a ∧ a < 2 ^ 64) ∨ (-(2 ^ 64) < b ∧ b < 2 ^ 64)) : dMul (.int a) (.int b) = some (.int (a * b)) := if_pos h
theorem dMul_l {a b : Int} (h : decide (-(2 ^ 64) < a ∧ a < 2 ^ 64) = true) : dMul (.int a) (.int b) = some (.int (a * b)) := if_pos (.inl (of_decide_eq_true h))
theorem up_len (m : Int) : (up m).length = m.toNat := by unfold up; rw [List.length_map, List.length_range]
theorem up_mem {m x : Int} : x ∈ up m ↔ 0 ≤ x ∧ x < m := by
  unfold up
  rw [List.mem_map]
  constructor
  · rintro ⟨i, hi, rfl⟩
    have := List.mem_range.mp hi
    omega
  · intro h
    exact ⟨x.toNat, List.mem_range.mpr (by omega), by omega⟩
theorem up_sorted (m : Int) : (up m).Pairwise (· < ·) := by
  unfold up
  rw [List.pairwise_map]
  exact List.pairwise_lt_range.imp fun h => by omega
theorem dRange_up {m : Int} (h : -1000 ≤ m ∧ m ≤ 100000) : dRange (.int 0) (.int m) = some ((up m).map .int) := by
  show (if _ then _ else _) = _
  rw [if_pos (by omega), Int.sub_zero]
  unfold up intsUp
  rw [List.map_map]
  congr 1
  refine List.map_congr_left fun i _ => ?_
  simp
theorem dRange_up2 {a m : Int} (h : (-1000 ≤ a ∧ a ≤ 100000) ∧ -1000 ≤ m ∧ m ≤ 100000) : dRange (.int a) (.int m) = some ((up2 a m).map .int) := by
  show (if _ then _ else _) = _
  rw [if_pos (by omega)]
  unfold up2 intsUp
  rw [List.map_map]
  rfl
theorem dListRange_up {m : Int} (h : 0 ≤ m ∧ m ≤ 100000) : dListRange (.int m) = some (lss .int (up m)) := by
  show (if _ then _ else _) = _
  rw [if_pos h]
  unfold lss up
  rw [List.map_map]
  rfl
theorem numbered_map (l : List α) (d : α) : ∀ i, numbered i (l.map f) = (List.range l.length).map fun k => .tuple [.int ((i + k : Nat) : Int), f (l.getD k d)] := by
  induction l with
  | nil => intro i; rfl
  | cons x xs ih =>
    intro i
    rw [List.map_cons, numbered, ih, List.length_cons, List.range_succ_eq_map, List.map_cons, List.map_map]
    congr 1
    refine List.map_congr_left fun k _ => ?_
    simp only [Function.comp, List.getD_cons_succ]
    rw [show i + 1 + k = i + k.succ from by omega]
theorem enu_map (l : List α) (d : α) : numbered 0 (l.map f) = (up l.length).map fun k => .tuple [.int k, f (getI d l k)] := by
  rw [numbered_map l d]
  unfold up getI
  rw [List.map_map]
  refine List.map_congr_left fun k _ => ?_
  simp
theorem enu_rows {f : List α → D} (l : List (List α)) : numbered 0 (l.map f) = (up l.length).map fun k => pr PyData.int f (k, rowAt l k) := enu_map l []
theorem enu_prs {f : List α × List β → D} (l : List (List α × List β)) : numbered 0 (l.map f) = (up l.length).map fun k => pr PyData.int f (k, getI ([], []) l k) := enu_map l ([], [])

/-! ### comprehensions -/
def lcM {α : Type} (T E : α → Option D) : List α → Option (List D)
  | [] => some []
  | x :: xs => (T x).bind fun c => xIf c ((E x).bind fun y => (lcM T E xs).bind fun ys => some (y :: ys)) (lcM T E xs)
theorem lcGo_N {j : Nat} {T E : XE} {ρ : Nv} (l : List α) : lcGo (tN j) T E ρ (l.map f) = lcM (fun x => T (ρ.set j (some (f x)))) (fun x => E (ρ.set j (some (f x)))) l := by
  induction l with
  | nil => rfl
  | cons x xs ih => simp only [List.map_cons, lcGo, lcM, ih, tN, Option.bind_some]
theorem lcGo_T {i j : Nat} {T E : XE} {ρ : Nv} {a b : α → D} (l : List α) : lcGo (tT [i, j]) T E ρ (l.map fun x => .tuple [a x, b x]) = lcM (fun x => T ((ρ.set i (some (a x))).set j (some (b x)))) (fun x => E ((ρ.set i (some (a x))).set j (some (b x)))) l := by
  induction l with
  | nil => rfl
  | cons x xs ih => simp only [List.map_cons, lcGo, lcM, ih, tT, setAll, List.length_cons, List.length_nil, if_true, Option.bind_some]
theorem lcGo_P {i j : Nat} {T E : XE} {ρ : Nv} (l : List (α × β)) : lcGo (tT [i, j]) T E ρ (l.map (pr f g)) = lcM (fun x => T ((ρ.set i (some (f x.1))).set j (some (g x.2)))) (fun x => E ((ρ.set i (some (f x.1))).set j (some (g x.2)))) l := lcGo_T (a := fun x => f x.1) (b := fun x => g x.2) l
theorem lcGo_H {γ : Type} {i j : Nat} {T E : XE} {ρ : Nv} {h : γ → α × β} (l : List γ) : lcGo (tT [i, j]) T E ρ (l.map fun x => pr f g (h x)) = lcM (fun x => T ((ρ.set i (some (f (h x).1))).set j (some (g (h x).2)))) (fun x => E ((ρ.set i (some (f (h x).1))).set j (some (g (h x).2)))) l := lcGo_T (a := fun x => f (h x).1) (b := fun x => g (h x).2) l
theorem lcM_of {T E : α → Option D} {p : α → Bool} {e : α → D} : ∀ {l : List α}, (∀ x ∈ l, T x = some (.bool (p x)) ∧ (p x = true → E x = some (e x))) → lcM T E l = some ((l.filter p).map e)
  | [], _ => rfl
  | x :: xs, h => by
    have h1 := h x List.mem_cons_self
    have ih := lcM_of (l := xs) fun y hy => h y (List.mem_cons_of_mem _ hy)
    unfold lcM
    rw [h1.1, ih, Option.bind_some]
    cases q : p x with
    | true => rw [xIf_t, h1.2 q, List.filter_cons_of_pos q]; rfl
    | false => rw [xIf_f, List.filter_cons_of_neg (by rw [q]; decide)]
theorem lcM_some {p : α → Bool} {e : α → D} (l : List α) : lcM (fun x => some (.bool (p x))) (fun x => some (e x)) l = some ((l.filter p).map e) := lcM_of fun x _ => ⟨rfl, fun _ => rfl⟩
theorem lcM_int {p : α → Bool} {h : α → Int} (l : List α) : lcM (fun x => some (.bool (p x))) (fun x => some (.int (h x))) l = some (((l.filter p).map h).map .int) := by rw [lcM_some, List.map_map]; rfl
theorem lcM_bool {p : α → Bool} {h : α → Bool} (l : List α) : lcM (fun x => some (.bool (p x))) (fun x => some (.bool (h x))) l = some (((l.filter p).map h).map .bool) := by rw [lcM_some, List.map_map]; rfl
theorem lcM_tpl {γ : Type} {f : γ → D} {p : α → Bool} {h : α → List γ} (l : List α) : lcM (fun x => some (.bool (p x))) (fun x => some (tpl f (h x))) l = some (((l.filter p).map h).map (tpl f)) := by rw [lcM_some, List.map_map]; rfl
theorem lcM_pr {γ δ : Type} {f : γ → D} {g : δ → D} {p : α → Bool} {h : α → γ × δ} (l : List α) : lcM (fun x => some (.bool (p x))) (fun x => some (pr f g (h x))) l = some (((l.filter p).map h).map (pr f g)) := by rw [lcM_some, List.map_map]; rfl
theorem lss_fold (l : List α) : PyData.list (l.map f) = lss f l := rfl
theorem tup_tt {γ δ : Type} {f : γ → D} {g : δ → D} {a : List γ} {b : List δ} : PyData.tuple [tpl f a, tpl g b] = pr (tpl f) (tpl g) (a, b) := rfl
theorem tup_1 {a : Int} : PyData.tuple [.int a] = tpl PyData.int [a] := rfl
theorem lst_1 {δ : Type} {g : δ → D} {a : List δ} : PyData.list [tpl g a] = lss (tpl g) [a] := rfl
theorem tT_pr {γ δ : Type} {f : γ → D} {g : δ → D} {i j : Nat} {ρ : Nv} {p : γ × δ} : tT [i, j] ρ (pr f g p) = some (setAll [i, j] [f p.1, g p.2] ρ) := rfl
theorem dNeg_int (a : Int) : dNeg (.int a) = some (.int (-a)) := rfl
theorem tup_it {δ : Type} {g : δ → D} {a : Int} {b : List δ} : PyData.tuple [.int a, tpl g b] = pr PyData.int (tpl g) (a, b) := rfl
theorem tpl_fold (l : List α) : PyData.tuple (l.map f) = tpl f l := rfl
theorem app_lss {x : α} {b : List α} (h : b.length < big) : appD (f x) (lss f b) = some (lss f (b ++ [x])) := by
  show appD (f x) (.list (b.map f)) = _
  unfold appD lss
  simp only [List.length_map]
  rw [if_pos h, List.map_append]
  rfl
theorem ext_lss {a b : List α} (h : b.length + a.length ≤ big) : extD (lss f a) (lss f b) = some (lss f (b ++ a)) := by
  show extD (.list (a.map f)) (.list (b.map f)) = _
  unfold extD lss
  simp only [List.length_map]
  rw [if_pos h, List.map_append]
theorem dAdd_lss {a b : List α} (h : a.length + b.length ≤ big) : dAdd (lss f a) (lss f b) = some (lss f (a ++ b)) := by
  show dAdd (.list (a.map f)) (.list (b.map f)) = _
  unfold dAdd lss
  simp only [List.length_map]
  rw [if_pos h, List.map_append]
theorem dAdd_tpl {a b : List α} (h : a.length + b.length ≤ big) : dAdd (tpl f a) (tpl f b) = some (tpl f (a ++ b)) := by
  show dAdd (.tuple (a.map f)) (.tuple (b.map f)) = _
  unfold dAdd tpl
  simp only [List.length_map]
  rw [if_pos h, List.map_append]
theorem List.filter_yes (l : List α) : l.filter (fun _ => true) = l := List.filter_eq_self.mpr fun _ _ => rfl
theorem lc_fold (l : List α) : (some (l.map f)).bind (fun ys => some (PyData.list ys)) = some (lss f l) := rfl
theorem lss_int (h : α → Int) (l : List α) : lss (fun x => PyData.int (h x)) l = lss .int (l.map h) := by unfold lss; rw [List.map_map]; rfl
theorem lss_bool (h : α → Bool) (l : List α) : lss (fun x => PyData.bool (h x)) l = lss .bool (l.map h) := by unfold lss; rw [List.map_map]; rfl
theorem lss_tpl {γ : Type} {f : γ → D} (h : α → List γ) (l : List α) : lss (fun x => tpl f (h x)) l = lss (tpl f) (l.map h) := by unfold lss; rw [List.map_map]; rfl
theorem lss_pr {γ δ : Type} {f : γ → D} {g : δ → D} (h : α → γ × δ) (l : List α) : lss (fun x => pr f g (h x)) l = lss (pr f g) (l.map h) := by unfold lss; rw [List.map_map]; rfl
end
abbrev Ms := List Int
abbrev mk : List Int → D := tpl PyData.int
abbrev rws : List (List Int) → D := tpl mk
abbrev tb (m : Int) (L : List Ms) : D := pr PyData.int rws (m, L)
abbrev rul : List Int × List Int → D := pr mk mk
abbrev rls : List (List Int × List Int) → D := tpl rul
def sub (a b : Ms) : Bool := a.all fun x => decide (x ∈ b)
theorem sub_iff {a b : Ms} : sub a b = true ↔ ∀ x ∈ a, x ∈ b := by unfold sub; simp

theorem all_id {α : Type} (h : α → Bool) (l : List α) : (l.map h).all id = l.all h := by rw [List.all_map]; rfl
theorem any_id {α : Type} (h : α → Bool) (l : List α) : (l.map h).any id = l.any h := by rw [List.any_map]; rfl
theorem filt_not {α : Type} (p : α → Bool) (l : List α) : (l.filter fun x => !p x).isEmpty = l.all p := by
  induction l with
  | nil => rfl
  | cons x xs ih => cases h : p x <;> simp [h, ih]
theorem st_asg {j : Nat} {f : XE} {d : D} {rest : XS} {ρ : Nv} {o : Option Out} (h : f ρ = some d) (k : rest (ρ.set j (some d)) = o) : sSeq (sAsg (tN j) f) rest ρ = o := by
  unfold sSeq sAsg tN
  rw [h]
  exact k
theorem st_no {c : XE} {s rest : XS} {ρ : Nv} {o : Option Out} (h : c ρ = some (.bool false)) (k : rest ρ = o) : sSeq (sIf c s sNext) rest ρ = o := by
  unfold sSeq sIf
  rw [h]
  exact k
/-- a loop: what P says of the number, the state and the slots is kept -/
theorem forGo_off {α β : Type} {f : α → D} {t : Tgt} {body : XS} (P : Nat → β → Nv → Prop) (g : β → α → β) : ∀ (l : List α) (i : Nat) (b : β) (ρ : Nv), (∀ j b ρ x, l[j]? = some x → P (i + j) b ρ → ∃ ρ1 ρ2, t ρ (f x) = some ρ1 ∧ body ρ1 = some (.nx ρ2) ∧ P (i + j + 1) (g b x) ρ2) → P i b ρ →
    ∃ ρ', forGo t body (l.map f) ρ = some (.nx ρ') ∧ P (i + l.length) (l.foldl g b) ρ'
  | [], i, b, ρ, _, h => ⟨ρ, rfl, h⟩
  | x :: xs, i, b, ρ, hs, h => by
    obtain ⟨ρ1, ρ2, h1, h2, h3⟩ := hs 0 b ρ x rfl h
    obtain ⟨ρ', h4, h5⟩ := forGo_off P g xs (i + 1) (g b x) ρ2 (fun j b ρ y hy hp => by
      have := hs (j + 1) b ρ y (by simpa using hy) (by rw [show i + (j + 1) = i + 1 + j from by omega]; exact hp)
      rw [show i + (j + 1) = i + 1 + j from by omega] at this
      exact this) h3
    refine ⟨ρ', ?_, ?_⟩
    · rw [List.map_cons]
      unfold forGo
      rw [h1, Option.bind_some, h2]
      exact h4
    · rw [List.length_cons, List.foldl_cons, show i + (xs.length + 1) = i + 1 + xs.length from by omega]
      exact h5
theorem forGo_rel {α β : Type} {f : α → D} {t : Tgt} {body : XS} (P : Nat → β → Nv → Prop) (g : β → α → β) (l : List α) (b : β) (ρ : Nv) (hs : ∀ j b ρ x, l[j]? = some x → P j b ρ → ∃ ρ1 ρ2, t ρ (f x) = some ρ1 ∧ body ρ1 = some (.nx ρ2) ∧ P (j + 1) (g b x) ρ2) (h : P 0 b ρ) :
    ∃ ρ', forGo t body (l.map f) ρ = some (.nx ρ') ∧ P l.length (l.foldl g b) ρ' := by
  obtain ⟨ρ', h1, h2⟩ := forGo_off P g l 0 b ρ (fun j b ρ x hx hp => by rw [Nat.zero_add] at hp ⊢; exact hs j b ρ x hx hp) h
  rw [Nat.zero_add] at h2
  exact ⟨ρ', h1, h2⟩
theorem st_for {α β : Type} {f : α → D} {src : XSrc} {t : Tgt} {body rest : XS} {ρ : Nv} {o : Option Out} (P : Nat → β → Nv → Prop) (g : β → α → β) (l : List α) (b : β) (hs : src ρ = some (l.map f)) (h0 : P 0 b ρ)
    (step : ∀ j b ρ x, l[j]? = some x → P j b ρ → ∃ ρ1 ρ2, t ρ (f x) = some ρ1 ∧ body ρ1 = some (.nx ρ2) ∧ P (j + 1) (g b x) ρ2) (k : ∀ ρ', P l.length (l.foldl g b) ρ' → rest ρ' = o) : sSeq (sFor src t body) rest ρ = o := by
  obtain ⟨ρ', h1, h2⟩ := forGo_rel P g l b ρ step h0
  unfold sSeq sFor
  rw [hs, Option.bind_some, h1]
  exact k ρ' h2
theorem foldl_app {α β : Type} (h : α → β) : ∀ (l : List α) (b : List β), l.foldl (fun b x => b ++ [h x]) b = b ++ l.map h
  | [], b => by simp
  | x :: xs, b => by rw [List.foldl_cons, foldl_app h xs]; simp
theorem run_ret {n m : Nat} {s : XS} {ds : List D} {d : D} (hl : ds.length = n) (h : s (startN m ds) = some (.rt d)) : (if ds.length = n then runD m s ds else none) = some d := by
  rw [if_pos hl]
  unfold runD
  rw [h]
  rfl
/-! marks -/
def IsM (m : Int) (r : Ms) : Prop := r = (up m).filter fun x => decide (x ∈ r)
theorem isM_filter (m : Int) (p : Int → Bool) : IsM m ((up m).filter p) := by
  unfold IsM
  refine List.filter_congr fun x hx => ?_
  cases h : p x <;> simp [List.mem_filter, hx, h]
theorem IsM.up {m : Int} {r : Ms} (h : IsM m r) {x : Int} (hx : x ∈ r) : x ∈ DL.up m := by
  rw [h] at hx
  exact (List.mem_filter.mp hx).1
theorem IsM.ext {m : Int} {a b : Ms} (ha : IsM m a) (hb : IsM m b) (h : ∀ x, x ∈ a ↔ x ∈ b) : a = b := by
  rw [ha, hb]
  exact List.filter_congr fun x _ => by simp only [h x]
theorem isM_of {m : Int} {r : Ms} (h1 : ∀ x ∈ r, x ∈ up m) (h2 : r.Pairwise (· < ·)) : IsM m r :=
  strict_uniq h2 ((up_sorted m).filter _) fun x => by
    rw [List.mem_filter]
    exact ⟨fun h => ⟨h1 x h, decide_eq_true h⟩, fun h => of_decide_eq_true h.2⟩
theorem IsM.sorted {m : Int} {r : Ms} (h : IsM m r) : r.Pairwise (· < ·) := by
  rw [h]; exact (up_sorted m).filter _
theorem IsM.len {m : Int} {r : Ms} (h : IsM m r) : r.length ≤ m.toNat := by
  rw [h]
  exact Nat.le_trans (List.length_filter_le _ _) (Nat.le_of_eq (up_len m))
structure Tab (most m : Int) (L : List Ms) : Prop where
  m1 : 1 ≤ m
  mm : m ≤ most
  len : L.length ≤ 63
  row : ∀ r ∈ L, IsM m r
theorem rowAt_mem {α : Type} {L : List (List α)} {r : List α} : r ∈ L ↔ ∃ k ∈ up L.length, rowAt L k = r := by
  constructor
  · intro h
    obtain ⟨i, hi, e⟩ := List.getElem_of_mem h
    refine ⟨i, up_mem.mpr (by omega), ?_⟩
    unfold rowAt
    simp [hi, e]
  · rintro ⟨k, hk, rfl⟩
    have := up_mem.mp hk
    unfold rowAt
    have h2 : k.toNat < L.length := by omega
    simp [h2]
def cl (m : Int) (L : List Ms) (s : Ms) : Ms := (up m).filter fun x => L.all fun r => !sub s r || decide (x ∈ r)
theorem cl_mem {m : Int} {L : List Ms} {s : Ms} {x : Int} : x ∈ cl m L s ↔ x ∈ up m ∧ ∀ r ∈ L, sub s r = true → x ∈ r := by
  unfold cl
  rw [List.mem_filter, List.all_eq_true]
  refine and_congr_right fun _ => forall_congr' fun r => imp_congr_right fun _ => ?_
  cases h : sub s r <;> simp
theorem cl_isM (m : Int) (L : List Ms) (s : Ms) : IsM m (cl m L s) := isM_filter _ _
theorem cl_ext {m : Int} {L : List Ms} {s : Ms} (h : IsM m s) : sub s (cl m L s) = true := by
  rw [sub_iff]
  intro x hx
  rw [cl_mem]
  exact ⟨h.up hx, fun r _ hr => sub_iff.mp hr x hx⟩
theorem cl_mono {m : Int} {L : List Ms} {s t : Ms} (h : sub s t = true) : sub (cl m L s) (cl m L t) = true := by
  rw [sub_iff] at h ⊢
  intro x hx
  rw [cl_mem] at hx ⊢
  exact ⟨hx.1, fun r hr ht => hx.2 r hr (sub_iff.mpr fun y hy => sub_iff.mp ht y (h y hy))⟩
theorem sub_row {m : Int} {L : List Ms} {s r : Ms} (hr : r ∈ L) (h : sub s r = true) : sub (cl m L s) r = true := by
  rw [sub_iff]
  intro x hx
  exact (cl_mem.mp hx).2 r hr h
theorem cl_idem {m : Int} {L : List Ms} {s : Ms} (h : IsM m s) : cl m L (cl m L s) = cl m L s := by
  refine (cl_isM _ _ _).ext (cl_isM _ _ _) fun x => ?_
  constructor
  · intro hx
    rw [cl_mem] at hx ⊢
    exact ⟨hx.1, fun r hr hs => hx.2 r hr (sub_row hr hs)⟩
  · intro hx
    exact sub_iff.mp (cl_ext (cl_isM _ _ _)) x hx
def sh (m : Int) (L : List Ms) (ts : Ms) : Ms := (up m).filter fun x => ts.all fun k => decide (x ∈ rowAt L k)
def hv (L : List Ms) (s : Ms) : Ms := (up L.length).filter fun k => sub s (rowAt L k)
theorem hv_mem {L : List Ms} {s : Ms} {k : Int} (h : k ∈ hv L s) : 0 ≤ k ∧ k < L.length := by
  unfold hv at h
  have := up_mem.mp (List.mem_filter.mp h).1
  omega
theorem sh_hv (m : Int) (L : List Ms) (s : Ms) : sh m L (hv L s) = cl m L s := by
  unfold sh cl
  refine List.filter_congr fun x _ => ?_
  rw [Bool.eq_iff_iff, List.all_eq_true, List.all_eq_true]
  constructor
  · intro h r hr
    obtain ⟨k, hk, rfl⟩ := rowAt_mem.mp hr
    cases q : sub s (rowAt L k) with
    | false => rfl
    | true =>
      have := h k (List.mem_filter.mpr ⟨hk, q⟩)
      simpa using this
  · intro h k hk
    obtain ⟨h1, h2⟩ := List.mem_filter.mp hk
    have := h (rowAt L k) (rowAt_mem.mpr ⟨k, h1, rfl⟩)
    rw [h2] at this
    simpa using this
theorem noLsts_map {α : Type} {f : α → D} (h : ∀ x, noLst (f x) = true) : ∀ l : List α, noLsts (l.map f) = true
  | [] => by simp only [List.map_nil, noLsts]
  | x :: xs => by simp only [List.map_cons, noLsts]; rw [h x, noLsts_map h xs]; rfl
theorem noLst_tpl {α : Type} {f : α → D} (h : ∀ x, noLst (f x) = true) (l : List α) : noLst (tpl f l) = true := by
  unfold tpl; simp only [noLst]; exact noLsts_map h l
theorem noLst_int (x : Int) : noLst (.int x) = true := by simp only [noLst]
theorem noLst_mk (l : Ms) : noLst (mk l) = true := noLst_tpl noLst_int l
theorem noLst_rws (l : List Ms) : noLst (rws l) = true := noLst_tpl noLst_mk l
theorem noLst_rul (r : List Int × List Int) : noLst (rul r) = true := by
  show noLst (.tuple [mk r.1, mk r.2]) = true
  simp only [noLst, noLsts, noLst_mk, Bool.and_self]
/-! a while loop: j goes down -/
theorem whileGo_dec {c : XE} {body : XS} (P : Nat → Nv → Prop) (Done : Nv → Prop) (step : ∀ j ρ, P j ρ → (c ρ = some (.bool false) ∧ Done ρ) ∨ (c ρ = some (.bool true) ∧ ∃ ρ', body ρ = some (.nx ρ') ∧ ∃ i, i < j ∧ P i ρ')) :
    ∀ n j ρ, j < n → P j ρ → ∃ ρ', whileGo c body n ρ = some (.nx ρ') ∧ Done ρ'
  | 0, _, _, h, _ => absurd h (Nat.not_lt_zero _)
  | n + 1, j, ρ, h, hp => by
    unfold whileGo
    rcases step j ρ hp with ⟨h1, h2⟩ | ⟨h1, ρ', h2, i, hi, h3⟩
    · rw [h1, Option.bind_some, xIf_f]
      exact ⟨ρ, rfl, h2⟩
    · rw [h1, Option.bind_some, xIf_t, h2, Option.bind_some]
      exact whileGo_dec P Done step n i ρ' (by omega) h3
theorem st_while {n : Nat} {c : XE} {body rest : XS} {ρ : Nv} {o : Option Out} (P : Nat → Nv → Prop) (Done : Nv → Prop) (j : Nat) (hj : j < n) (h0 : P j ρ)
    (step : ∀ j ρ, P j ρ → (c ρ = some (.bool false) ∧ Done ρ) ∨ (c ρ = some (.bool true) ∧ ∃ ρ', body ρ = some (.nx ρ') ∧ ∃ i, i < j ∧ P i ρ')) (k : ∀ ρ', Done ρ' → rest ρ' = o) : sSeq (sWhile n c body) rest ρ = o := by
  obtain ⟨ρ', h1, h2⟩ := whileGo_dec P Done step n j ρ hj h0
  unfold sSeq sWhile
  rw [h1]
  exact k ρ' h2
/-! rules -/
theorem sub_refl (a : Ms) : sub a a = true := sub_iff.mpr fun _ h => h
theorem sub_trans {a b c : Ms} (h : sub a b = true) (k : sub b c = true) : sub a c = true := sub_iff.mpr fun x hx => sub_iff.mp k x (sub_iff.mp h x hx)
theorem IsM.anti {m : Int} {a b : Ms} (ha : IsM m a) (hb : IsM m b) (h : sub a b = true) (k : sub b a = true) : a = b := ha.ext hb fun x => ⟨sub_iff.mp h x, sub_iff.mp k x⟩
theorem IsM.lt {m : Int} {a b : Ms} (ha : IsM m a) (hb : IsM m b) (h : sub a b = true) (hn : b ≠ a) : a.length < b.length := by
  have e : a = b.filter fun x => decide (x ∈ a) := by
    refine strict_uniq ha.sorted (hb.sorted.filter _) fun x => ?_
    rw [List.mem_filter]
    exact ⟨fun hx => ⟨sub_iff.mp h x hx, decide_eq_true hx⟩, fun hx => of_decide_eq_true hx.2⟩
  have hs : List.Sublist a b := by
    rw [e]; exact List.filter_sublist
  rcases Nat.lt_or_ge a.length b.length with h1 | h1
  · exact h1
  · exact absurd (hs.eq_of_length (Nat.le_antisymm hs.length_le h1)).symm hn
abbrev Rl := List Int × List Int
def KR (R : List Rl) (u : Ms) : Prop := ∀ r ∈ R, sub r.1 u = true → sub r.2 u = true
def krB (R : List Rl) (u : Ms) : Bool := R.all fun r => !(sub r.1 u && !sub r.2 u)
theorem krB_iff {R : List Rl} {u : Ms} : krB R u = true ↔ KR R u := by
  unfold krB KR
  rw [List.all_eq_true]
  refine forall_congr' fun r => imp_congr_right fun _ => ?_
  cases sub r.1 u <;> cases sub r.2 u <;> simp
def RsM (m : Int) (R : List Rl) : Prop := ∀ r ∈ R, IsM m r.1 ∧ IsM m r.2
open Classical in
noncomputable def clR (m : Int) (R : List Rl) (s : Ms) : Ms := (up m).filter fun x => decide (∀ u, sub s u = true → KR R u → x ∈ u)
open Classical in
theorem clR_mem {m : Int} {R : List Rl} {s : Ms} {x : Int} : x ∈ clR m R s ↔ x ∈ up m ∧ ∀ u, sub s u = true → KR R u → x ∈ u := by
  unfold clR
  rw [List.mem_filter]
  exact and_congr_right fun _ => ⟨fun h => of_decide_eq_true h, fun h => decide_eq_true h⟩
theorem clR_isM (m : Int) (R : List Rl) (s : Ms) : IsM m (clR m R s) := isM_filter _ _
theorem clR_ext {m : Int} {R : List Rl} {s : Ms} (h : IsM m s) : sub s (clR m R s) = true := sub_iff.mpr fun x hx => clR_mem.mpr ⟨h.up hx, fun u hu _ => sub_iff.mp hu x hx⟩
theorem clR_le {m : Int} {R : List Rl} {s u : Ms} (h : sub s u = true) (k : KR R u) : sub (clR m R s) u = true := sub_iff.mpr fun x hx => (clR_mem.mp hx).2 u h k
theorem clR_keeps {m : Int} {R : List Rl} {s : Ms} (hR : RsM m R) : KR R (clR m R s) := fun r hr h => sub_iff.mpr fun x hx =>
  clR_mem.mpr ⟨(hR r hr).2.up hx, fun u hu hk => sub_iff.mp (hk r hr (sub_trans h (clR_le hu hk))) x hx⟩
theorem clR_uniq {m : Int} {R : List Rl} {s t : Ms} (hR : RsM m R) (hs : IsM m s) (ht : IsM m t) (h1 : sub s t = true) (h2 : KR R t) (h3 : ∀ u, sub s u = true → KR R u → sub t u = true) : t = clR m R s :=
  ht.anti (clR_isM m R s) (h3 _ (clR_ext hs) (clR_keeps hR)) (clR_le h1 h2)
theorem both_isM {m : Int} {a b : Ms} (ha : IsM m a) (hb : IsM m b) : IsM m (sortU (a ++ b)) := isM_of (fun x hx => by
  rcases List.mem_append.mp (sortU_mem.mp hx) with h | h
  · exact ha.up h
  · exact hb.up h) (sortU_sorted _)
theorem both_mem {a b : Ms} {x : Int} : x ∈ sortU (a ++ b) ↔ x ∈ a ∨ x ∈ b := by rw [sortU_mem, List.mem_append]
def passR (R : List Rl) (t : Ms) : Ms := R.foldl (fun f r => if sub r.1 f = true then sortU (f ++ r.2) else f) t
theorem passR_isM {m : Int} : ∀ {R : List Rl} {t : Ms}, RsM m R → IsM m t → IsM m (passR R t)
  | [], _, _, h => h
  | r :: R, t, hR, h => by
    unfold passR
    rw [List.foldl_cons]
    refine passR_isM (R := R) (fun q hq => hR q (List.mem_cons_of_mem _ hq)) ?_
    split
    · exact both_isM h (hR r List.mem_cons_self).2
    · exact h
theorem passR_ext : ∀ {R : List Rl} {t : Ms}, sub t (passR R t) = true
  | [], _ => sub_refl _
  | r :: R, t => by
    unfold passR
    rw [List.foldl_cons]
    refine sub_trans ?_ (passR_ext (R := R))
    split
    · exact sub_iff.mpr fun x hx => both_mem.mpr (.inl hx)
    · exact sub_refl _
theorem passR_le {u : Ms} : ∀ {R : List Rl} {t : Ms}, sub t u = true → KR R u → sub (passR R t) u = true
  | [], _, h, _ => h
  | r :: R, t, h, k => by
    unfold passR
    rw [List.foldl_cons]
    refine passR_le (R := R) ?_ fun q hq => k q (List.mem_cons_of_mem _ hq)
    split
    · rename_i hr
      refine sub_iff.mpr fun x hx => ?_
      rcases both_mem.mp hx with hx | hx
      · exact sub_iff.mp h x hx
      · exact sub_iff.mp (k r List.mem_cons_self (sub_trans hr h)) x hx
    · exact h
theorem passR_does : ∀ {R : List Rl} {t : Ms}, ∀ r ∈ R, sub r.1 t = true → sub r.2 (passR R t) = true
  | [], _, _, h, _ => by cases h
  | q :: R, t, r, h, hs => by
    unfold passR
    rw [List.foldl_cons]
    rcases List.mem_cons.mp h with rfl | h
    · rw [if_pos hs]
      exact sub_trans (sub_iff.mpr fun x hx => both_mem.mpr (.inr hx)) (passR_ext (R := R))
    · refine passR_does (R := R) r h (sub_trans hs ?_)
      split
      · exact sub_iff.mpr fun x hx => both_mem.mpr (.inl hx)
      · exact sub_refl _
/-! sorted by size, then row by row -/
theorem leLR : PySem.W.dataLe false (pr PyData.int mk) = fun a b => decide (a.1 < b.1 ∨ (a.1 = b.1 ∧ a.2 ≤ b.2)) := by
  funext a b
  show (!PySem.W.dataLt (.tuple [.int b.1, .tuple (b.2.map .int)]) (.tuple [.int a.1, .tuple (a.2.map .int)])) = _
  have h1 : PySem.W.alike (PyData.tuple (b.2.map .int)) (.tuple (a.2.map .int)) = true := by
    simp only [PySem.W.alike]; exact PySem.W.alike_ints _ _
  have h2 : PyData.eqv (PyData.tuple (b.2.map .int)) (.tuple (a.2.map .int)) = decide (b.2 = a.2) := Enc.eqv (f := mk) b.2 a.2
  have h3 : PySem.W.dataLt (PyData.tuple (b.2.map .int)) (.tuple (a.2.map .int)) = decide (b.2 < a.2) := by
    rw [PySem.W.dataLt_tuple]; exact PySem.W.dataLt_ints _ _
  rw [PySem.W.dataLt_pair (by simp only [PySem.W.alike]) h1, h2, h3, PySem.W.dataLt_int]
  simp only [PyData.eqv, beq_iff_eq]
  by_cases e : b.1 = a.1
  · rw [if_pos e]
    by_cases e2 : b.2 = a.2
    · simp [e, e2]
    · simp only [e2, decide_false, Bool.false_eq_true, if_false, e, Int.lt_irrefl, false_or, true_and]
      by_cases e3 : b.2 < a.2
      · have : ¬ a.2 ≤ b.2 := fun h => List.not_lt.mpr h e3
        simp [e3, this]
      · have : a.2 ≤ b.2 := List.not_lt.mp e3
        simp [e3, this]
  · rw [if_neg e]
    have e' : ¬ a.1 = b.1 := fun h => e h.symm
    simp only [e', false_and, or_false]
    by_cases e3 : b.1 < a.1
    · have : ¬ a.1 < b.1 := by omega
      simp [e3, this]
    · have : a.1 < b.1 := by omega
      simp [e3, this]
theorem sort_lr {l : List Ms} (h2 : l.length ≤ 64) : ∃ l', dSortD [lss (pr PyData.int mk) (l.map fun r => ((r.length : Int), r))] = some (lss (pr PyData.int mk) l') ∧ l'.Perm (l.map fun r => ((r.length : Int), r)) ∧ l'.Pairwise (fun a b => a.1 < b.1 ∨ (a.1 = b.1 ∧ a.2 ≤ b.2)) := by
  generalize hq : (l.map fun r => ((r.length : Int), r)) = q
  have hql : q.length ≤ 64 := by rw [← hq, List.length_map]; exact h2
  have ok : sortOk (q.map (pr PyData.int mk)) = true := by
    unfold sortOk
    simp only [Bool.and_eq_true, List.all_eq_true, List.mem_map]
    refine ⟨?_, ?_, ?_, ?_⟩
    · rintro d ⟨a, _, rfl⟩
      have h := Enc.ok (f := pr PyData.int mk) a
      exact ⟨h.1, decide_eq_true (Nat.le_trans h.2 (by decide))⟩
    · rintro d ⟨a, _, rfl⟩ e ⟨b, _, rfl⟩
      show PySem.W.alike (.tuple [.int a.1, .tuple (a.2.map .int)]) (.tuple [.int b.1, .tuple (b.2.map .int)]) = true
      simp only [PySem.W.alike, PySem.W.alikeAll, PySem.W.alike_ints, Bool.and_self]
    · rintro d ⟨a, _, rfl⟩
      rfl
    · rw [List.length_map]
      exact decide_eq_true (show q.length ≤ 1000000 by omega)
  refine ⟨q.mergeSort (PySem.W.dataLe false (pr PyData.int mk)), ?_, List.mergeSort_perm _ _, ?_⟩
  · show (if sortOk (q.map (pr PyData.int mk)) = true then some (PyData.list ((q.map (pr PyData.int mk)).mergeSort (PySem.W.dataLe false id))) else none) = _
    unfold lss
    rw [if_pos ok, List.map_mergeSort (r := PySem.W.dataLe false (pr PyData.int mk)) (s := PySem.W.dataLe false id) (f := pr PyData.int mk) (fun a _ b _ => rfl)]
  · have h := PySem.W.sort_pairwise (PySem.W.sortLe_total (PyProof.Rows.listOrd PyProof.Rows.itemOrd) false fun b : Int × Ms => PySem.W.keyToks (pr PyData.int mk b)) q
    refine List.Pairwise.imp ?_ h
    intro a b hab
    have hab' : PySem.W.dataLe false (pr PyData.int mk) a b = true := hab
    rw [leLR] at hab'
    exact of_decide_eq_true hab'
theorem filt_emp {α : Type} (p : α → Bool) (l : List α) : (l.filter p).isEmpty = l.all fun x => !p x := by
  induction l with
  | nil => rfl
  | cons x xs ih => cases h : p x <;> simp [h, ih]
/-! all marks -/
def subsTo (m : Int) : List Ms := (up m).foldl (fun b k => b ++ b.map fun r => r ++ [k]) [[]]
theorem up_succ (n : Nat) : up ((n : Int) + 1) = up n ++ [(n : Int)] := by
  unfold up
  rw [show ((n : Int) + 1).toNat = n + 1 from by omega, show ((n : Int)).toNat = n from by omega, List.range_succ, List.map_append]
  rfl
theorem subsTo_succ (n : Nat) : subsTo ((n : Int) + 1) = subsTo n ++ (subsTo n).map fun r => r ++ [(n : Int)] := by
  unfold subsTo
  rw [up_succ, List.foldl_append]
  rfl
theorem subsTo_len : ∀ n : Nat, (subsTo n).length = 2 ^ n
  | 0 => rfl
  | n + 1 => by
    rw [show ((n + 1 : Nat) : Int) = (n : Int) + 1 from rfl, subsTo_succ, List.length_append, List.length_map, subsTo_len n, Nat.pow_succ]
    omega
theorem subsTo_mem : ∀ (n : Nat) {r : Ms}, r ∈ subsTo n ↔ IsM n r
  | 0, r => by
    show r ∈ [[]] ↔ _
    rw [List.mem_singleton]
    exact ⟨fun h => by rw [h]; rfl, fun h => h⟩
  | n + 1, r => by
    rw [show ((n + 1 : Nat) : Int) = (n : Int) + 1 from rfl, subsTo_succ, List.mem_append, List.mem_map]
    constructor
    · rintro (h | ⟨q, h, rfl⟩)
      · have h1 := (subsTo_mem n).mp h
        exact isM_of (fun x hx => by have := up_mem.mp (h1.up hx); exact up_mem.mpr (by omega)) h1.sorted
      · have h1 := (subsTo_mem n).mp h
        refine isM_of (fun x hx => ?_) ?_
        · rcases List.mem_append.mp hx with hx | hx
          · have := up_mem.mp (h1.up hx); exact up_mem.mpr (by omega)
          · rw [List.mem_singleton.mp hx]; exact up_mem.mpr (by omega)
        · rw [List.pairwise_append]
          refine ⟨h1.sorted, List.pairwise_singleton _ _, fun x hx y hy => ?_⟩
          rw [List.mem_singleton.mp hy]
          exact (up_mem.mp (h1.up hx)).2
    · intro h
      have hs := h.sorted
      by_cases hn : (n : Int) ∈ r
      · refine .inr ⟨r.filter fun x => decide (x < n), (subsTo_mem n).mpr (isM_of (fun x hx => ?_) (hs.filter _)), ?_⟩
        · obtain ⟨h1, h2⟩ := List.mem_filter.mp hx
          have := up_mem.mp (h.up h1)
          exact up_mem.mpr ⟨this.1, of_decide_eq_true h2⟩
        · refine strict_uniq ?_ hs fun x => ?_
          · rw [List.pairwise_append]
            refine ⟨hs.filter _, List.pairwise_singleton _ _, fun x hx y hy => ?_⟩
            rw [List.mem_singleton.mp hy]
            exact of_decide_eq_true (List.mem_filter.mp hx).2
          · rw [List.mem_append, List.mem_filter, List.mem_singleton]
            constructor
            · rintro (h1 | rfl)
              · exact h1.1
              · exact hn
            · intro hx
              have := up_mem.mp (h.up hx)
              by_cases e : x = n
              · exact .inr e
              · exact .inl ⟨hx, decide_eq_true (by omega)⟩
      · refine .inl ((subsTo_mem n).mpr (isM_of (fun x hx => ?_) hs))
        have := up_mem.mp (h.up hx)
        have hne : x ≠ n := fun e => hn (e ▸ hx)
        exact up_mem.mpr (by omega)
/-! all marks in order -/
def rowsUp (m : Int) (ring : List Ms) : List Ms := ring.flatMap fun r => (up2 (match r.getLast? with | some x => x + 1 | none => 0) m).map fun k => r ++ [k]
def ringN (m : Int) : Nat → List Ms
  | 0 => [[]]
  | n + 1 => rowsUp m (ringN m n)
def allM (m : Int) : List Ms := (List.range (m.toNat + 1)).flatMap (ringN m)
abbrev ordM (a b : Ms) : Prop := a.length < b.length ∨ (a.length = b.length ∧ a ≤ b)
theorem six {m : Int} (h : 0 ≤ m ∧ m ≤ 6) : m = 0 ∨ m = 1 ∨ m = 2 ∨ m = 3 ∨ m = 4 ∨ m = 5 ∨ m = 6 := by omega
theorem allM_perm {m : Int} (h : 0 ≤ m ∧ m ≤ 6) : (allM m).Perm (subsTo m) := by
  rcases six h with rfl | rfl | rfl | rfl | rfl | rfl | rfl <;> decide +kernel
theorem allM_ord {m : Int} (h : 0 ≤ m ∧ m ≤ 6) : (allM m).Pairwise ordM := by
  rcases six h with rfl | rfl | rfl | rfl | rfl | rfl | rfl <;> decide +kernel
theorem allM_nodup {m : Int} (h : 0 ≤ m ∧ m ≤ 6) : (allM m).Nodup := by
  rcases six h with rfl | rfl | rfl | rfl | rfl | rfl | rfl <;> decide +kernel
theorem allM_len {m : Int} (h : 0 ≤ m ∧ m ≤ 6) : (allM m).length ≤ 64 := by
  rcases six h with rfl | rfl | rfl | rfl | rfl | rfl | rfl <;> decide +kernel
theorem allM_uniq {m : Int} {E : List Ms} (h : 0 ≤ m ∧ m ≤ 6) (p : E.Perm (subsTo m)) (o : E.Pairwise ordM) : E = allM m := by
  refine List.Perm.eq_of_pairwise (fun a b _ _ h1 h2 => ?_) o (allM_ord h) (p.trans (allM_perm h).symm)
  have hl : a.length = b.length := by
    rcases h1 with h1 | h1 <;> rcases h2 with h2 | h2 <;> omega
  have h3 : a ≤ b := by
    rcases h1 with h1 | h1
    · omega
    · exact h1.2
  have h4 : b ≤ a := by
    rcases h2 with h2 | h2
    · omega
    · exact h2.2
  exact List.le_antisymm h3 h4
theorem allM_mem {m : Int} {s : Ms} (h : 0 ≤ m ∧ m ≤ 6) : s ∈ allM m ↔ IsM m s := by
  have e : ((m.toNat : Nat) : Int) = m := by omega
  rw [(allM_perm h).mem_iff, ← e, subsTo_mem]
theorem foldl_if {α β : Type} (c : α → Bool) (h : α → β) : ∀ (l : List α) (b : List β), l.foldl (fun b x => if c x = true then b ++ [h x] else b) b = b ++ (l.filter c).map h
  | [], b => by simp
  | x :: xs, b => by
    rw [List.foldl_cons, foldl_if c h xs]
    cases e : c x <;> simp [e]
theorem st_own {i : Nat} {fs : List XE} {ds : List D} {rest : XS} {ρ : Nv} {o : Option Out} (h : xArgs fs ρ = some ds) (k : rest (ρ.set i (some (.list ds))) = o) : sSeq (sOwn i fs) rest ρ = o := by
  unfold sSeq sOwn
  rw [h]
  exact k
/-! notions -/
def nts (m : Int) (L : List Ms) : List Rl := ((allM m).filter fun s => decide (cl m L s = s)).map fun s => (hv L s, s)
theorem idx_of [DecidableEq α] {f : α → D} {n : Nat} [Enc f n] {l : List α} {c : α} (h : c ∈ l) (hn : n + 1 ≤ 64) (d : α) : ∃ j : Nat, dIndex (lss f l) (f c) = some (.int (j : Int)) ∧ j < l.length ∧ getI d l j = c := by
  have h1 := (Enc.ok (f := f) c).sh (Nat.le_trans (Nat.le_succ _) hn)
  have h2 := (Enc.ok (f := lss f) l).sh hn
  have h3 : (l.map f).findIdx? (fun z => PyData.eqv z (f c)) = l.findIdx? fun x => decide (x = c) := by
    rw [List.findIdx?_map]
    congr 1
    funext x
    exact Enc.eqv x c
  cases hf : l.findIdx? fun x => decide (x = c) with
  | none =>
    have := List.findIdx?_eq_none_iff.mp hf c h
    simp at this
  | some j =>
    obtain ⟨hj, hj2, _⟩ := List.findIdx?_eq_some_iff_getElem.mp hf
    refine ⟨j, ?_, hj, ?_⟩
    · show dIndex (.list (l.map f)) (f c) = _
      unfold dIndex lss at *
      simp only [h1, h2, h3, hf, Bool.and_self, if_true, Option.map_some]
    · unfold getI
      have := of_decide_eq_true hj2
      simp [hj, this]

/-! ML2: bases of rules, in plain terms. -/
structure Clo (m : Int) (c : Ms → Ms) : Prop where
  isM : ∀ s, IsM m (c s)
  ext : ∀ s, IsM m s → sub s (c s) = true
  mono : ∀ s t, sub s t = true → sub (c s) (c t) = true
  idem : ∀ s, IsM m s → c (c s) = c s
theorem clo_cl (m : Int) (L : List Ms) : Clo m (cl m L) := ⟨fun s => cl_isM m L s, fun s h => cl_ext h, fun s t h => cl_mono h, fun s h => cl_idem h⟩
theorem clo_clR {m : Int} {R : List Rl} (hR : RsM m R) : Clo m (clR m R) := ⟨fun s => clR_isM m R s, fun s h => clR_ext h, fun s t h => sub_iff.mpr fun x hx => by
    rw [clR_mem] at hx ⊢
    exact ⟨hx.1, fun u hu hk => hx.2 u (sub_trans h hu) hk⟩, fun s h => (clR_isM _ _ _).anti (clR_isM _ _ _) (clR_le (sub_refl _) (clR_keeps hR)) (clR_ext (clR_isM _ _ _))⟩
def isL (a b : Ms) : Bool := !decide (a = b) && sub a b
def addM (a b : Ms) : Ms := b.filter fun x => !decide (x ∈ a)
def kpB (u : Ms) (R : List Rl) : Bool := R.all fun r => !isL r.1 u || sub r.2 u
def bsF (c : Ms → Ms) (b : List Rl) (s : Ms) : List Rl := if (!decide (c s = s) && kpB s b) = true then b ++ [(s, addM s (c s))] else b
def bsE (c : Ms → Ms) (l : List Ms) : List Rl := l.foldl (bsF c) []
def goodN (c : Ms → Ms) (b : List Ms) (s : Ms) : Bool := !decide (c s = s) && b.all fun o => !(!decide (o = s) && (sub o s && !sub (c o) s))
def nrF (c : Ms → Ms) (b : List Ms) (s : Ms) : List Ms := if goodN c b s = true then b ++ [s] else b
def nearly (c : Ms → Ms) (l : List Ms) : List Ms := l.foldl (nrF c) []
def toR (c : Ms → Ms) (s : Ms) : Rl := (s, addM s (c s))
theorem addM_mem {a b : Ms} {x : Int} : x ∈ addM a b ↔ x ∈ b ∧ x ∉ a := by
  unfold addM; rw [List.mem_filter]; simp
theorem addM_isM {m : Int} {a b : Ms} (h : IsM m b) : IsM m (addM a b) := isM_of (fun x hx => h.up (addM_mem.mp hx).1) (h.sorted.filter _)
theorem addM_sub {o s b : Ms} (h : sub o s = true) : sub (addM o b) s = sub b s := by
  rw [Bool.eq_iff_iff, sub_iff, sub_iff]
  constructor
  · intro h2 x hx
    by_cases e : x ∈ o
    · exact sub_iff.mp h x e
    · exact h2 x (addM_mem.mpr ⟨hx, e⟩)
  · intro h2 x hx
    exact h2 x (addM_mem.mp hx).1
theorem kp_good (c : Ms → Ms) (b : List Ms) (s : Ms) : (!decide (c s = s) && kpB s (b.map (toR c))) = goodN c b s := by
  unfold goodN kpB
  rw [List.all_map]
  congr 1
  refine congrArg (fun q => b.all q) (funext fun o => ?_)
  show (!isL o s || sub (addM o (c o)) s) = _
  unfold isL
  cases h : sub o s with
  | false => simp
  | true => rw [addM_sub h]; cases decide (o = s) <;> cases sub (c o) s <;> rfl
theorem bsE_gen (c : Ms → Ms) : ∀ (l b : List Ms), l.foldl (bsF c) (b.map (toR c)) = (l.foldl (nrF c) b).map (toR c)
  | [], _ => rfl
  | s :: l, b => by
    rw [List.foldl_cons, List.foldl_cons]
    have e : bsF c (b.map (toR c)) s = (nrF c b s).map (toR c) := by
      unfold bsF nrF
      rw [kp_good]
      cases goodN c b s with
      | true => rw [if_pos rfl, if_pos rfl, List.map_append]; rfl
      | false => rw [if_neg (by decide), if_neg (by decide)]
    rw [e]
    exact bsE_gen c l _
theorem bsE_eq (c : Ms → Ms) (l : List Ms) : bsE c l = (nearly c l).map (toR c) := bsE_gen c l []
def okP (c : Ms → Ms) (o p : Ms) : Prop := o ≠ p → sub o p = true → sub (c o) p = true
theorem goodN_iff {c : Ms → Ms} {b : List Ms} {s : Ms} : goodN c b s = true ↔ c s ≠ s ∧ ∀ o ∈ b, okP c o s := by
  unfold goodN okP
  rw [Bool.and_eq_true, List.all_eq_true]
  refine and_congr (by simp) (forall_congr' fun o => imp_congr_right fun _ => ?_)
  by_cases h1 : o = s <;> cases h2 : sub o s <;> cases h3 : sub (c o) s <;> simp [h1]
theorem near_ext (c : Ms → Ms) : ∀ (l b : List Ms), ∃ e, l.foldl (nrF c) b = b ++ e ∧ e.Sublist l
  | [], b => ⟨[], by simp, List.Sublist.refl _⟩
  | s :: l, b => by
    rw [List.foldl_cons]
    obtain ⟨e, h1, h2⟩ := near_ext c l (nrF c b s)
    rw [h1]
    unfold nrF
    split
    · exact ⟨s :: e, by simp, h2.cons_cons s⟩
    · exact ⟨e, rfl, h2.cons s⟩
theorem near_sub (c : Ms → Ms) (l : List Ms) : (nearly c l).Sublist l := by
  obtain ⟨e, h1, h2⟩ := near_ext c l []
  unfold nearly
  rw [h1, List.nil_append]
  exact h2
theorem near_keep (c : Ms → Ms) : ∀ (l b : List Ms), (∀ p ∈ b, c p ≠ p) → b.Pairwise (okP c) → (∀ p ∈ l.foldl (nrF c) b, c p ≠ p) ∧ (l.foldl (nrF c) b).Pairwise (okP c)
  | [], _, h1, h2 => ⟨h1, h2⟩
  | s :: l, b, h1, h2 => by
    rw [List.foldl_cons]
    refine near_keep c l _ ?_ ?_
    · unfold nrF
      split
      · rename_i hg
        have hg := goodN_iff.mp hg
        intro p hp
        rcases List.mem_append.mp hp with hp | hp
        · exact h1 p hp
        · rw [List.mem_singleton.mp hp]; exact hg.1
      · exact h1
    · unfold nrF
      split
      · rename_i hg
        have hg := goodN_iff.mp hg
        rw [List.pairwise_append]
        refine ⟨h2, List.pairwise_singleton _ _, fun o ho p hp => ?_⟩
        rw [List.mem_singleton.mp hp]
        exact hg.2 o ho
      · exact h2
theorem near_in (c : Ms → Ms) {t : Ms} (h : c t ≠ t) : ∀ (l b : List Ms), t ∈ l → (∀ o ∈ l.foldl (nrF c) b, okP c o t) → t ∈ l.foldl (nrF c) b
  | [], _, ht, _ => by cases ht
  | s :: l, b, ht, ho => by
    rw [List.foldl_cons] at ho ⊢
    obtain ⟨e, h1, _⟩ := near_ext c l (nrF c b s)
    by_cases q : t = s
    · subst q
      have hb : ∀ o ∈ nrF c b t, okP c o t := fun o hq => ho o (by rw [h1]; exact List.mem_append_left _ hq)
      have hin : t ∈ nrF c b t := by
        unfold nrF at hb ⊢
        cases hg : goodN c b t with
        | true => rw [if_pos rfl]; exact List.mem_append_right _ (List.mem_singleton.mpr rfl)
        | false =>
          exfalso
          rw [hg, if_neg (by decide)] at hb
          have := goodN_iff.mpr ⟨h, hb⟩
          rw [hg] at this
          cases this
      rw [h1]
      exact List.mem_append_left _ hin
    · exact near_in c h l _ ((List.mem_cons.mp ht).resolve_left q) ho
theorem bsE_RsM {m : Int} {c : Ms → Ms} {l : List Ms} (C : Clo m c) (hl : ∀ s ∈ l, IsM m s) : RsM m (bsE c l) := fun r hr => by
  rw [bsE_eq] at hr
  obtain ⟨p, hp, rfl⟩ := List.mem_map.mp hr
  exact ⟨hl p ((near_sub c l).mem hp), addM_isM (C.isM p)⟩
theorem kr_bsE {c : Ms → Ms} {l : List Ms} {t : Ms} : KR (bsE c l) t ↔ ∀ o ∈ nearly c l, sub o t = true → sub (c o) t = true := by
  rw [bsE_eq]
  unfold KR
  constructor
  · intro h o ho hs
    have := h (toR c o) (List.mem_map.mpr ⟨o, ho, rfl⟩) hs
    rw [← addM_sub (b := c o) hs]
    exact this
  · intro h r hr hs
    obtain ⟨o, ho, rfl⟩ := List.mem_map.mp hr
    have hs' : sub o t = true := hs
    show sub (addM o (c o)) t = true
    rw [addM_sub hs']
    exact h o ho hs'
/-- what keeps all rules of the base is closed -/
theorem base_closed {m : Int} {c : Ms → Ms} {l : List Ms} (C : Clo m c) {t : Ms} (ht : t ∈ l) (hm : IsM m t) (k : KR (bsE c l) t) : c t = t := by
  rw [kr_bsE] at k
  by_cases h : c t = t
  · exact h
  · have hin := near_in c h l [] ht fun o ho _ hs => k o ho hs
    exact ((C.isM t).anti hm (k t hin (sub_refl t)) (C.ext t hm))
theorem base_keeps {m : Int} {c : Ms → Ms} {l : List Ms} (C : Clo m c) (hl : ∀ s ∈ l, IsM m s) {s : Ms} (hs : IsM m s) : KR (bsE c l) (c s) := by
  rw [kr_bsE]
  intro o ho h
  have := C.mono o (c s) h
  rw [C.idem s hs] at this
  exact this
theorem base_cl {m : Int} {c : Ms → Ms} {l : List Ms} (C : Clo m c) (hl : ∀ s, s ∈ l ↔ IsM m s) {s : Ms} (hs : IsM m s) : clR m (bsE c l) s = c s := by
  have hR := bsE_RsM (l := l) C fun s h => (hl s).mp h
  have hk := base_closed (l := l) C ((hl _).mpr (clR_isM m (bsE c l) s)) (clR_isM _ _ _) (clR_keeps hR)
  refine (clR_isM _ _ _).anti (C.isM s) (clR_le (C.ext s hs) (base_keeps C (fun s h => (hl s).mp h) hs)) ?_
  rw [← hk]
  exact C.mono s _ (clR_ext hs)
theorem sub_len {m : Int} {a b : Ms} (ha : IsM m a) (hb : IsM m b) (h : sub a b = true) (hn : a ≠ b) : a.length < b.length := ha.lt hb h (fun e => hn e.symm)
/-- no rule of it follows from the others -/
theorem base_lean {m : Int} {c : Ms → Ms} {l : List Ms} (C : Clo m c) (hl : ∀ s ∈ l, IsM m s) (ho : l.Pairwise ordM) (hd : l.Nodup) {k : Nat} {r : Rl} (hk : (bsE c l)[k]? = some r) :
    sub r.2 (clR m ((bsE c l).take k ++ (bsE c l).drop (k + 1)) r.1) = false := by
  rw [bsE_eq] at hk ⊢
  rw [List.getElem?_map] at hk
  have hsub := near_sub c l
  have hpw := (near_keep c l [] (by simp) List.Pairwise.nil)
  have hord : (nearly c l).Pairwise ordM := ho.sublist hsub
  have hnd : (nearly c l).Nodup := hd.sublist hsub
  have hN : ∀ p ∈ nearly c l, IsM m p := fun p hp => hl p (hsub.mem hp)
  have h1 : ∀ p ∈ nearly c l, c p ≠ p := hpw.1
  have h2 : (nearly c l).Pairwise (okP c) := hpw.2
  generalize nearly c l = n at hk hord hnd hN h1 h2
  cases e : n[k]? with
  | none => rw [e] at hk; cases hk
  | some p =>
    rw [e] at hk
    have hr : toR c p = r := Option.some.inj hk
    subst hr
    obtain ⟨hkl, hkp⟩ := List.getElem?_eq_some_iff.mp e
    have hpm : p ∈ n := List.mem_of_getElem? e
    have hmem : ∀ o, o ∈ n.take k ++ n.drop (k + 1) → o ∈ n ∧ o ≠ p ∧ (sub o p = true → sub (c o) p = true) := by
      intro o hq
      rcases List.mem_append.mp hq with hq | hq
      · obtain ⟨j, hj, rfl⟩ := List.getElem_of_mem hq
        rw [List.length_take] at hj
        have hj1 : j < k := by omega
        have hj2 : j < n.length := by omega
        have ej : (n.take k)[j]'(by rw [List.length_take]; exact hj) = n[j] := List.getElem_take
        rw [ej]
        have hne : n[j] ≠ p := by
          rw [← hkp]
          exact fun q => by
            have := (List.pairwise_iff_getElem.mp hnd) j k hj2 hkl hj1
            exact this q
        refine ⟨List.getElem_mem hj2, hne, fun hs => ?_⟩
        have := (List.pairwise_iff_getElem.mp h2) j k hj2 hkl hj1
        rw [hkp] at this
        exact this hne hs
      · obtain ⟨j, hj, rfl⟩ := List.getElem_of_mem hq
        rw [List.length_drop] at hj
        have hj2 : k + 1 + j < n.length := by omega
        have ej : (n.drop (k + 1))[j]'(by rw [List.length_drop]; exact hj) = n[k + 1 + j] := List.getElem_drop
        rw [ej]
        have hlt : k < k + 1 + j := by omega
        have hne : n[k + 1 + j] ≠ p := by
          rw [← hkp]
          exact fun q => by
            have := (List.pairwise_iff_getElem.mp hnd) k (k + 1 + j) hkl hj2 hlt
            exact this q.symm
        refine ⟨List.getElem_mem hj2, hne, fun hs => ?_⟩
        exfalso
        have h3 := sub_len (hN _ (List.getElem_mem hj2)) (hN p hpm) hs hne
        have h4 := (List.pairwise_iff_getElem.mp hord) k (k + 1 + j) hkl hj2 hlt
        rw [hkp] at h4
        rcases h4 with h4 | h4 <;> omega
    have hkr : KR ((n.map (toR c)).take k ++ (n.map (toR c)).drop (k + 1)) p := by
      intro r hr hs
      rw [← List.map_take, ← List.map_drop, ← List.map_append] at hr
      obtain ⟨o, ho, rfl⟩ := List.mem_map.mp hr
      have hs' : sub o p = true := hs
      show sub (addM o (c o)) p = true
      rw [addM_sub hs']
      exact (hmem o ho).2.2 hs'
    cases q : sub (toR c p).2 (clR m ((n.map (toR c)).take k ++ (n.map (toR c)).drop (k + 1)) (toR c p).1) with
    | false => rfl
    | true =>
      exfalso
      have h3 : sub (addM p (c p)) p = true := sub_trans q (clR_le (sub_refl p) hkr)
      rw [addM_sub (sub_refl p)] at h3
      exact h1 p hpm ((C.isM p).anti (hN p hpm) h3 (C.ext p (hN p hpm)))
/-! rules gone through again and again -/
def passL (R : List Rl) (t : Ms) : Ms := R.foldl (fun f r => if sub r.1 f = true then f ++ addM f r.2 else f) t
structure LOk (m : Int) (t : Ms) : Prop where
  up : ∀ x ∈ t, x ∈ DL.up m
  nd : t.Nodup
theorem LOk.add {m : Int} {f b : Ms} (h : LOk m f) (hb : IsM m b) : LOk m (f ++ addM f b) := ⟨fun x hx => by
    rcases List.mem_append.mp hx with h1 | h1
    · exact h.up x h1
    · exact hb.up (addM_mem.mp h1).1, by
    rw [List.nodup_append]
    refine ⟨h.nd, List.Pairwise.filter _ (hb.sorted.imp fun h q => by omega), fun x hx y hy e => ?_⟩
    subst e
    exact (addM_mem.mp hy).2 hx⟩
theorem passL_ok {m : Int} : ∀ {R : List Rl} {t : Ms}, RsM m R → LOk m t → LOk m (passL R t)
  | [], _, _, h => h
  | r :: R, t, hR, h => by
    unfold passL
    rw [List.foldl_cons]
    refine passL_ok (R := R) (fun q hq => hR q (List.mem_cons_of_mem _ hq)) ?_
    split
    · exact h.add (hR r List.mem_cons_self).2
    · exact h
theorem passL_pre : ∀ {R : List Rl} {t : Ms}, ∃ e, passL R t = t ++ e
  | [], t => ⟨[], by simp [passL]⟩
  | r :: R, t => by
    unfold passL
    rw [List.foldl_cons]
    split
    · obtain ⟨e, h⟩ := passL_pre (R := R) (t := t ++ addM t r.2)
      unfold passL at h
      exact ⟨addM t r.2 ++ e, by rw [h, List.append_assoc]⟩
    · obtain ⟨e, h⟩ := passL_pre (R := R) (t := t)
      unfold passL at h
      exact ⟨e, h⟩
theorem passL_ext {R : List Rl} {t : Ms} : sub t (passL R t) = true := by
  obtain ⟨e, h⟩ := passL_pre (R := R) (t := t)
  rw [h]
  exact sub_iff.mpr fun x hx => List.mem_append_left _ hx
theorem passL_le {u : Ms} : ∀ {R : List Rl} {t : Ms}, sub t u = true → KR R u → sub (passL R t) u = true
  | [], _, h, _ => h
  | r :: R, t, h, k => by
    unfold passL
    rw [List.foldl_cons]
    refine passL_le (R := R) ?_ fun q hq => k q (List.mem_cons_of_mem _ hq)
    split
    · rename_i hr
      refine sub_iff.mpr fun x hx => ?_
      rcases List.mem_append.mp hx with hx | hx
      · exact sub_iff.mp h x hx
      · exact sub_iff.mp (k r List.mem_cons_self (sub_trans hr h)) x (addM_mem.mp hx).1
    · exact h
theorem addM_all {f b : Ms} : sub b (f ++ addM f b) = true := sub_iff.mpr fun x hx => by
  by_cases e : x ∈ f
  · exact List.mem_append_left _ e
  · exact List.mem_append_right _ (addM_mem.mpr ⟨hx, e⟩)
theorem passL_does : ∀ {R : List Rl} {t : Ms}, ∀ r ∈ R, sub r.1 t = true → sub r.2 (passL R t) = true
  | [], _, _, h, _ => by cases h
  | q :: R, t, r, h, hs => by
    unfold passL
    rw [List.foldl_cons]
    rcases List.mem_cons.mp h with rfl | h
    · rw [if_pos hs]
      exact sub_trans addM_all (passL_ext (R := R))
    · refine passL_does (R := R) r h (sub_trans hs ?_)
      split
      · exact sub_iff.mpr fun x hx => List.mem_append_left _ hx
      · exact sub_refl _
def passN (R : List Rl) : Nat → Ms → Ms
  | 0, t => t
  | n + 1, t => passN R n (passL R t)
theorem passN_ok {m : Int} {R : List Rl} (hR : RsM m R) : ∀ n {t : Ms}, LOk m t → LOk m (passN R n t)
  | 0, _, h => h
  | n + 1, _, h => passN_ok hR n (passL_ok hR h)
theorem passN_ext {R : List Rl} : ∀ n {t : Ms}, sub t (passN R n t) = true
  | 0, _ => sub_refl _
  | n + 1, t => sub_trans passL_ext (passN_ext (R := R) n)
theorem passN_le {R : List Rl} {u : Ms} (k : KR R u) : ∀ n {t : Ms}, sub t u = true → sub (passN R n t) u = true
  | 0, _, h => h
  | n + 1, _, h => passN_le k n (passL_le h k)
theorem passN_fix {R : List Rl} {t : Ms} (h : passL R t = t) : ∀ n, passN R n t = t
  | 0 => rfl
  | n + 1 => by
    unfold passN
    rw [h]
    exact passN_fix h n
theorem passN_stop {R : List Rl} : ∀ n {t : Ms}, passL R (passN R n t) = passN R n t ∨ t.length + n ≤ (passN R n t).length
  | 0, t => .inr (Nat.le_refl _)
  | n + 1, t => by
    unfold passN
    obtain ⟨e, he⟩ := passL_pre (R := R) (t := t)
    cases e with
    | nil =>
      rw [List.append_nil] at he
      rw [he, passN_fix he]
      exact .inl he
    | cons x xs =>
      rcases passN_stop (R := R) n (t := passL R t) with h | h
      · exact .inl h
      · refine .inr (Nat.le_trans ?_ h)
        rw [he, List.length_append, List.length_cons]
        omega
theorem nodup_len {m : Int} {t : Ms} (h : LOk m t) : t.length ≤ m.toNat := by
  have hp := sortI_perm t
  have hIs : IsM m (sortI t) := by
    refine isM_of (fun x hx => h.up x (hp.mem_iff.mp hx)) ?_
    have hnd : (sortI t).Nodup := hp.nodup_iff.mpr h.nd
    exact ((sortI_sorted t).and hnd).imp fun ⟨h1, h2⟩ => by omega
  rw [← hp.length_eq]
  exact hIs.len
theorem ruled_eq {m : Int} {R : List Rl} {s : Ms} (hm : m.toNat ≤ 6) (hR : RsM m R) (hs : IsM m s) : sortI (passN R 7 s) = clR m R s := by
  have h0 : LOk m s := ⟨fun x hx => hs.up hx, hs.sorted.imp fun h q => by omega⟩
  have h7 := passN_ok hR 7 h0
  have hfix : passL R (passN R 7 s) = passN R 7 s := by
    rcases passN_stop (R := R) 7 (t := s) with h | h
    · exact h
    · have := nodup_len h7
      omega
  have hp := sortI_perm (passN R 7 s)
  have hIs : IsM m (sortI (passN R 7 s)) := by
    refine isM_of (fun x hx => h7.up x (hp.mem_iff.mp hx)) ?_
    have hnd : (sortI (passN R 7 s)).Nodup := hp.nodup_iff.mpr h7.nd
    exact ((sortI_sorted _).and hnd).imp fun ⟨h1, h2⟩ => by omega
  have hsub : ∀ u : Ms, sub (sortI (passN R 7 s)) u = sub (passN R 7 s) u := fun u => by
    rw [Bool.eq_iff_iff, sub_iff, sub_iff]
    exact forall_congr' fun x => by rw [hp.mem_iff]
  have hsub2 : ∀ u : Ms, sub u (sortI (passN R 7 s)) = sub u (passN R 7 s) := fun u => by
    rw [Bool.eq_iff_iff, sub_iff, sub_iff]
    exact forall_congr' fun x => by rw [hp.mem_iff]
  refine clR_uniq hR hs hIs ?_ ?_ ?_
  · rw [hsub2]; exact passN_ext 7
  · intro r hr h
    rw [hsub2] at h ⊢
    rw [← hfix]
    exact passL_does r hr h
  · intro u hu hk
    rw [hsub]
    exact passN_le hk 7 hu
/-! dicts of marks -/
def kmk (s : Ms) : List Key := s.map Sum.inl
theorem keysD_mk (s : Ms) : keysD (mk s) = some (kmk s) := by
  have h : (s.map PyData.int) = (kmk s).map kD := by unfold kmk; rw [List.map_map]; rfl
  show keysD (.tuple (s.map .int)) = _
  rw [h]
  exact keysD_tup _
theorem kmk_inj {a b : Ms} (h : kmk a = kmk b) : a = b := by
  unfold kmk at h
  exact (List.map_inj_right (fun x y e => Sum.inl.inj e)).mp h
theorem mk_key (s : Ms) : PyData.tuple ((kmk s).map kD) = mk s := by
  show PyData.tuple ((kmk s).map kD) = .tuple (s.map .int)
  unfold kmk
  rw [List.map_map]
  rfl
def dc (c : Ms → Ms) (l : List Ms) : D := .dict (l.map fun s => (mk s, mk (c s)))
theorem getE_in {c : Ms → Ms} {s : Ms} : ∀ {l : List Ms}, s ∈ l → getE (l.map fun s => (mk s, mk (c s))) (kmk s) = some (mk (c s))
  | [], h => by cases h
  | x :: l, h => by
    rw [List.map_cons]
    unfold getE
    simp only [keysD_mk, Option.some.injEq]
    by_cases e : x = s
    · rw [if_pos (by rw [e]), e]
    · rw [if_neg (fun q => e (kmk_inj q))]
      exact getE_in ((List.mem_cons.mp h).resolve_left fun q => e q.symm)
theorem getE_out {c : Ms → Ms} {s : Ms} : ∀ {l : List Ms}, s ∉ l → getE (l.map fun s => (mk s, mk (c s))) (kmk s) = none
  | [], _ => rfl
  | x :: l, h => by
    rw [List.map_cons]
    unfold getE
    simp only [keysD_mk, Option.some.injEq]
    rw [if_neg (fun q => h (by rw [kmk_inj q]; exact List.mem_cons_self))]
    exact getE_out fun q => h (List.mem_cons_of_mem _ q)
theorem dGet_dc {c : Ms → Ms} {l : List Ms} {s : Ms} (h : s ∈ l) : dGet (dc c l) (mk s) = some (mk (c s)) := by
  show (keysD (mk s)).bind _ = _
  rw [keysD_mk]
  exact getE_in h
theorem putD_dc {c : Ms → Ms} {l : List Ms} {s : Ms} (h : s ∉ l) (hl : l.length < big) : putD (mk s) (mk (c s)) (dc c l) = some (dc c (l ++ [s])) := by
  have hi : isIns (l.map fun s => (mk s, mk (c s))) = false := by cases l <;> rfl
  show (if (l.map fun s => (mk s, mk (c s))).length < big ∧ isIns (l.map fun s => (mk s, mk (c s))) = false then (keysD (mk s)).bind fun ks => some (PyData.dict (putE (l.map fun s => (mk s, mk (c s))) ks (mk (c s)))) else none) = _
  rw [List.length_map, if_pos ⟨hl, hi⟩, keysD_mk, Option.bind_some]
  unfold putE dc
  rw [getE_out h, if_neg (by simp), mk_key, List.map_append]
  rfl
theorem dKeys_dc {c : Ms → Ms} {l : List Ms} (h : ∀ s ∈ l, s.length ≤ 100) : dKeys (dc c l) = some (l.map mk) := by
  show (if ((l.map fun s => (mk s, mk (c s))).all fun p => keyOk p.1) = true then some ((l.map fun s => (mk s, mk (c s))).map Prod.fst) else none) = _
  rw [if_pos, List.map_map]
  · rfl
  · rw [List.all_map, List.all_eq_true]
    intro s hs
    show decide ((s.map PyData.int).length ≤ big) = true
    rw [List.length_map]
    exact decide_eq_true (Nat.le_trans (h s hs) (by decide))
theorem st_dnew {i : Nat} {rest : XS} {ρ : Nv} {o : Option Out} (k : rest (ρ.set i (some (.dict []))) = o) : sSeq (sDNew i) rest ρ = o := k
theorem st_tell {s : XS} {ρ : Nv} {d : D} (h : s ρ = some (.rt d)) : sTell s ρ = some (.rt d) := by
  unfold sTell
  rw [h]
  rfl
theorem st_forD {α β : Type} {f : α → D} {i : Nat} {dd : D} {t : Tgt} {body rest : XS} {ρ : Nv} {o : Option Out} (P : Nat → β → Nv → Prop) (g : β → α → β) (l : List α) (b : β) (hd : xVar i ρ = some dd) (hs : dKeys dd = some (l.map f)) (h0 : P 0 b ρ)
    (step : ∀ j b ρ x, l[j]? = some x → P j b ρ → ∃ ρ1 ρ2, t ρ (f x) = some ρ1 ∧ body ρ1 = some (.nx ρ2) ∧ P (j + 1) (g b x) ρ2) (k : ∀ ρ', P l.length (l.foldl g b) ρ' → rest ρ' = o) : sSeq (sForD i t body) rest ρ = o := by
  obtain ⟨ρ', h1, h2⟩ := forGo_rel P g l b ρ step h0
  unfold sSeq sForD
  rw [hd, Option.bind_some, hs, Option.bind_some, h1]
  exact k ρ' h2
/-- a dict is filled, mark by mark -/
theorem take_step {l : List Ms} {j : Nat} {s : Ms} (hs : l[j]? = some s) (hn : l.Nodup) : s ∉ l.take j ∧ l.take j ++ [s] = l.take (j + 1) := by
  obtain ⟨hj, e⟩ := List.getElem?_eq_some_iff.mp hs
  constructor
  · intro h
    obtain ⟨k, hk, ek⟩ := List.getElem_of_mem h
    rw [List.length_take] at hk
    have hkj : k < j := by omega
    have e2 : (l.take j)[k] = l[k]'(by omega) := List.getElem_take
    rw [e2] at ek
    have := (List.pairwise_iff_getElem.mp hn) k j (by omega) hj hkj
    rw [ek, e] at this
    exact this rfl
  · rw [List.take_add_one, hs]
    rfl
/-! slices -/
theorem sl_to {α : Type} {f : α → D} {l : List α} {k : Int} (h : 0 ≤ k) (hk : k ≤ l.length) : dSl none (some k) (tpl f l) = some (tpl f (l.take k.toNat)) := by
  show some (PyData.tuple (cutD (l.map f) none (some k))) = _
  unfold cutD HT.sIx tpl
  have h1 : ¬ k < 0 := by omega
  simp only [h1, if_false, List.length_map, List.drop_zero, Nat.sub_zero, List.map_take]
  rw [Nat.min_eq_left (by omega)]
theorem sl_from {α : Type} {f : α → D} {l : List α} {k : Int} (h : 0 ≤ k) (hk : k ≤ l.length) : dSl (some k) none (tpl f l) = some (tpl f (l.drop k.toNat)) := by
  show some (PyData.tuple (cutD (l.map f) (some k) none)) = _
  unfold cutD HT.sIx tpl
  have h1 : ¬ k < 0 := by omega
  simp only [h1, if_false, List.length_map, List.map_drop]
  rw [Nat.min_eq_left (by omega), List.take_of_length_le (by rw [List.length_drop, List.length_map]; omega)]
theorem sll_to {α : Type} {f : α → D} {l : List α} {k : Int} (h : 0 ≤ k) (hk : k ≤ l.length) : dSl none (some k) (lss f l) = some (lss f (l.take k.toNat)) := by
  show some (PyData.list (cutD (l.map f) none (some k))) = _
  unfold cutD HT.sIx lss
  have h1 : ¬ k < 0 := by omega
  simp only [h1, if_false, List.length_map, List.drop_zero, Nat.sub_zero, List.map_take]
  rw [Nat.min_eq_left (by omega)]
theorem sll_from {α : Type} {f : α → D} {l : List α} {k : Int} (h : 0 ≤ k) (hk : k ≤ l.length) : dSl (some k) none (lss f l) = some (lss f (l.drop k.toNat)) := by
  show some (PyData.list (cutD (l.map f) (some k) none)) = _
  unfold cutD HT.sIx lss
  have h1 : ¬ k < 0 := by omega
  simp only [h1, if_false, List.length_map, List.map_drop]
  rw [Nat.min_eq_left (by omega), List.take_of_length_le (by rw [List.length_drop, List.length_map]; omega)]
theorem sorted_lss (l : Ms) : dSorted [lss .int l] = some (lss .int (sortI l)) := by
  show (intsOf (l.map .int)).bind _ = _
  rw [intsOf_map]
  rfl
/-! the fewest rules -/
theorem nodup_le {α : Type} [DecidableEq α] : ∀ {a b : List α}, a.Nodup → (∀ x ∈ a, x ∈ b) → a.length ≤ b.length
  | [], _, _, _ => Nat.zero_le _
  | x :: a, b, hn, h => by
    rw [List.nodup_cons] at hn
    have hx := h x List.mem_cons_self
    have h2 := nodup_le (a := a) (b := b.erase x) hn.2 fun y hy => by
      have hne : y ≠ x := fun e => hn.1 (e ▸ hy)
      exact (List.mem_erase_of_ne hne).mpr (h y (List.mem_cons_of_mem _ hy))
    rw [List.length_erase_of_mem hx] at h2
    have := List.length_pos_of_mem hx
    rw [List.length_cons]
    omega
theorem near_all {m : Int} {c : Ms → Ms} {l : List Ms} (hl : ∀ s ∈ l, IsM m s) (ho : l.Pairwise ordM) : ∀ o ∈ nearly c l, ∀ p ∈ nearly c l, okP c o p := by
  have hsub := near_sub c l
  have h2 : (nearly c l).Pairwise (okP c) := (near_keep c l [] (by simp) List.Pairwise.nil).2
  have hord : (nearly c l).Pairwise ordM := ho.sublist hsub
  intro o hom p hpm hne hs
  obtain ⟨i, hi, rfl⟩ := List.getElem_of_mem hom
  obtain ⟨j, hj, rfl⟩ := List.getElem_of_mem hpm
  rcases Nat.lt_trichotomy i j with h | h | h
  · exact (List.pairwise_iff_getElem.mp h2) i j hi hj h hne hs
  · subst h; exact absurd rfl hne
  · exfalso
    have h3 := sub_len (hl _ (hsub.mem hom)) (hl _ (hsub.mem hpm)) hs hne
    have h4 := (List.pairwise_iff_getElem.mp hord) j i hj hi h
    rcases h4 with h4 | h4 <;> omega
theorem inter_isM {m : Int} {p q : Ms} (hp : IsM m p) : IsM m (p.filter fun x => decide (x ∈ q)) := isM_of (fun x hx => hp.up (List.mem_filter.mp hx).1) (hp.sorted.filter _)
theorem inter_mem {p q : Ms} {x : Int} : x ∈ (p.filter fun x => decide (x ∈ q)) ↔ x ∈ p ∧ x ∈ q := by rw [List.mem_filter]; simp
/-- two nearly closed ones have no rule in common -/
theorem near_apart {m : Int} {c : Ms → Ms} {l : List Ms} (C : Clo m c) (hl : ∀ s, s ∈ l ↔ IsM m s) (ho : l.Pairwise ordM) {p q : Ms} (hp : p ∈ nearly c l) (hq : q ∈ nearly c l) (hne : p ≠ q) {a b : Ms} (hab : sub b (c a) = true) (h1 : sub a p = true) (h2 : sub a q = true)
    (h3 : sub b p = false) (h4 : sub b q = false) : False := by
  have hl' : ∀ s ∈ l, IsM m s := fun s h => (hl s).mp h
  have hsub := near_sub c l
  have hall := near_all (c := c) hl' ho
  have Ip := hl' p (hsub.mem hp)
  have Iq := hl' q (hsub.mem hq)
  have hc : ∀ t, sub a t = true → c t = t → sub b t = true := fun t ht e => by
    have := C.mono a t ht
    rw [e] at this
    exact sub_trans hab this
  by_cases hpq : sub p q = true
  · have := sub_trans (C.mono a p h1) (hall p hp q hq hne hpq)
    rw [sub_trans hab this] at h4
    cases h4
  · by_cases hqp : sub q p = true
    · have := sub_trans (C.mono a q h2) (hall q hq p hp (fun e => hne e.symm) hqp)
      rw [sub_trans hab this] at h3
      cases h3
    · have Ii := inter_isM (q := q) Ip
      generalize hi : (p.filter fun x => decide (x ∈ q)) = i at Ii
      have him : ∀ x, x ∈ i ↔ x ∈ p ∧ x ∈ q := fun x => by rw [← hi]; exact inter_mem
      have hip : sub i p = true := sub_iff.mpr fun x hx => ((him x).mp hx).1
      have hiq : sub i q = true := sub_iff.mpr fun x hx => ((him x).mp hx).2
      have hci : c i = i := base_closed (l := l) C ((hl i).mpr Ii) Ii (kr_bsE.mpr fun o ho' hs => by
        have hop : o ≠ p := fun e => hpq (by rw [← e]; exact sub_trans hs hiq)
        have hoq : o ≠ q := fun e => hqp (by rw [← e]; exact sub_trans hs hip)
        have e1 := hall o ho' p hp hop (sub_trans hs hip)
        have e2 := hall o ho' q hq hoq (sub_trans hs hiq)
        exact sub_iff.mpr fun x hx => (him x).mpr ⟨sub_iff.mp e1 x hx, sub_iff.mp e2 x hx⟩)
      have hai : sub a i = true := sub_iff.mpr fun x hx => (him x).mpr ⟨sub_iff.mp h1 x hx, sub_iff.mp h2 x hx⟩
      have := sub_trans (hc i hai hci) hip
      rw [this] at h3
      cases h3
theorem base_fewest {m : Int} {c : Ms → Ms} {l : List Ms} (C : Clo m c) (hl : ∀ s, s ∈ l ↔ IsM m s) (ho : l.Pairwise ordM) (hd : l.Nodup) {R : List Rl} (hR : RsM m R) (hk : ∀ t, IsM m t → (KR R t ↔ c t = t)) : (nearly c l).length ≤ R.length := by
  have hsub := near_sub c l
  have hnc : ∀ p ∈ nearly c l, c p ≠ p := (near_keep c l [] (by simp) List.Pairwise.nil).1
  have hN : ∀ p ∈ nearly c l, IsM m p := fun p hp => (hl p).mp (hsub.mem hp)
  let φ : Ms → Rl := fun p => (R.find? fun r => sub r.1 p && !sub r.2 p).getD ([], [])
  have hφ : ∀ p ∈ nearly c l, φ p ∈ R ∧ sub (φ p).1 p = true ∧ sub (φ p).2 p = false := fun p hp => by
    cases e : R.find? fun r => sub r.1 p && !sub r.2 p with
    | none =>
      exfalso
      refine hnc p hp ((hk p (hN p hp)).mp fun r hr hs => ?_)
      have := List.find?_eq_none.mp e r hr
      rw [hs] at this
      cases q : sub r.2 p with
      | true => rfl
      | false => rw [q] at this; exact absurd rfl this
    | some r =>
      have h1 := List.find?_some e
      have h2 := List.mem_of_find?_eq_some e
      have h3 : φ p = r := by show (R.find? fun r => sub r.1 p && !sub r.2 p).getD ([], []) = r; rw [e]; rfl
      rw [h3]
      rw [Bool.and_eq_true] at h1
      exact ⟨h2, h1.1, by have := h1.2; simpa using this⟩
  have hval : ∀ r ∈ R, sub r.2 (c r.1) = true := fun r hr => (hk _ (C.isM r.1)).mpr (C.idem r.1 (hR r hr).1) r hr (C.ext r.1 (hR r hr).1)
  have hnd : ((nearly c l).map φ).Nodup := by
    have hn : (nearly c l).Nodup := hd.sublist hsub
    refine List.pairwise_map.mpr (hn.imp_of_mem fun {p q} hp hq hne e => ?_)
    obtain ⟨p1, p2, p3⟩ := hφ p hp
    obtain ⟨q1, q2, q3⟩ := hφ q hq
    rw [← e] at q2 q3
    exact near_apart C hl ho hp hq hne (hval _ p1) p2 q2 p3 q3
  have := nodup_le hnd fun r hr => by
    obtain ⟨p, hp, rfl⟩ := List.mem_map.mp hr
    exact (hφ p hp).1
  rw [List.length_map] at this
  exact this
theorem clR_of {m : Int} {c : Ms → Ms} (C : Clo m c) {R : List Rl} (hR : RsM m R) (hk : ∀ t, IsM m t → (KR R t ↔ c t = t)) {s : Ms} (hs : IsM m s) : clR m R s = c s := by
  refine (clR_isM _ _ _).anti (C.isM s) (clR_le (C.ext s hs) ((hk _ (C.isM s)).mpr (C.idem s hs))) ?_
  have h := (hk _ (clR_isM m R s)).mp (clR_keeps hR)
  rw [← h]
  exact C.mono s _ (clR_ext hs)
theorem up_get {m : Int} {j : Nat} {k : Int} (h : (up m)[j]? = some k) : k = (j : Int) ∧ j < m.toNat := by
  obtain ⟨hj, _⟩ := List.getElem?_eq_some_iff.mp h
  have hj2 : j < m.toNat := by rw [up_len] at hj; exact hj
  have h' : ((List.range m.toNat).map fun i : Nat => (i : Int))[j]? = some k := h
  rw [List.getElem?_map, List.getElem?_range hj2] at h'
  exact ⟨(Option.some.inj h').symm, hj2⟩
theorem getI_some {α : Type} {l : List α} {j : Nat} {d : α} (h : j < l.length) : l[j]? = some (getI d l (j : Int)) := by
  unfold getI
  have : ((j : Nat) : Int).toNat = j := by omega
  rw [this]
  simp [h]
theorem bsE_congr {c c' : Ms → Ms} : ∀ {l : List Ms}, (∀ s ∈ l, c s = c' s) → bsE c l = bsE c' l := by
  have h : ∀ (l : List Ms) (b : List Rl), (∀ s ∈ l, c s = c' s) → l.foldl (bsF c) b = l.foldl (bsF c') b := by
    intro l
    induction l with
    | nil => intro b _; rfl
    | cons s l ih =>
      intro b h
      have e : bsF c b s = bsF c' b s := by unfold bsF; rw [h s List.mem_cons_self]
      rw [List.foldl_cons, List.foldl_cons, e]
      exact ih _ fun q hq => h q (List.mem_cons_of_mem _ hq)
  exact fun {l} hl => h l [] hl
theorem cl_rows {m : Int} {c : Ms → Ms} {l : List Ms} (C : Clo m c) (hl : ∀ s, s ∈ l ↔ IsM m s) {s : Ms} (hs : IsM m s) : cl m (l.filter fun s => decide (c s = s)) s = c s := by
  refine (cl_isM _ _ _).ext (C.isM s) fun x => ?_
  rw [cl_mem]
  constructor
  · rintro ⟨_, h⟩
    exact h (c s) (List.mem_filter.mpr ⟨(hl _).mpr (C.isM s), decide_eq_true (C.idem s hs)⟩) (C.ext s hs)
  · intro hx
    refine ⟨(C.isM s).up hx, fun r hr hsr => ?_⟩
    have h2 := of_decide_eq_true (List.mem_filter.mp hr).2
    have := C.mono s r hsr
    rw [h2] at this
    exact sub_iff.mp this x hx
theorem ix_last {α : Type} {f : α → D} {l : List α} {x : α} : dIx (lss f (l ++ [x])) (.int (-1)) = some (f x) := by
  show atI ((l ++ [x]).map f) (-1) = _
  unfold atI ixN
  rw [if_neg (by decide), List.length_map, List.length_append, List.length_singleton, if_pos (by omega), Option.bind_some]
  have : ((-1 : Int) + ((l.length + 1 : Nat) : Int)).toNat = l.length := by omega
  rw [this, List.map_append, List.getElem?_append_right (by rw [List.length_map]; exact Nat.le_refl _)]
  simp
theorem sll_init {α : Type} {f : α → D} {l : List α} {x : α} : dSl none (some (-1)) (lss f (l ++ [x])) = some (lss f l) := by
  show some (PyData.list (cutD ((l ++ [x]).map f) none (some (-1)))) = _
  unfold cutD HT.sIx lss
  simp
  have : (-1 + ((l.length : Int) + 1)).toNat = l.length := by omega
  rw [this]
  rw [← List.length_map (f := f), List.take_left]
theorem rev_lss {α : Type} {f : α → D} {l : List α} : dRev (lss f l) = some (lss f l.reverse) := by
  show some (PyData.list (l.map f).reverse) = some (.list (l.reverse.map f))
  rw [List.map_reverse]
theorem one_isM {m : Int} {b : Ms} {x : Int} (h : IsM m b) (hx : x ∈ b) : IsM m [x] := isM_of (fun y hy => by rw [List.mem_singleton.mp hy]; exact h.up hx) (List.pairwise_singleton _ _)
theorem last_of {α : Type} : ∀ (r : α) (R : List α), ∃ l x, r :: R = l ++ [x]
  | r, [] => ⟨[], r, rfl⟩
  | r, q :: R => by
    obtain ⟨l, x, h⟩ := last_of q R
    exact ⟨r :: l, x, by rw [h]; rfl⟩

/-! ML3: any data, their checks. -/
theorem isT_int_n : isT "int" .none = some (.bool false) := by
  have h : kitB "NoneType" "int" = some false := by kernel_rfl
  unfold isT
  simp only [tyD, h, Option.bind_some]
theorem isT_int_b (x : Bool) : isT "int" (.bool x) = some (.bool true) := by
  have h : kitB "bool" "int" = some true := by kernel_rfl
  unfold isT
  simp only [tyD, h, Option.bind_some]
theorem isT_int_i (x : Int) : isT "int" (.int x) = some (.bool true) := by
  have h : kitB "int" "int" = some true := by kernel_rfl
  unfold isT
  simp only [tyD, h, Option.bind_some]
theorem isT_int_s (x : Str) : isT "int" (.str x) = some (.bool false) := by
  have h : kitB "str" "int" = some false := by kernel_rfl
  unfold isT
  simp only [tyD, h, Option.bind_some]
theorem isT_int_l (x : List D) : isT "int" (.list x) = some (.bool false) := by
  have h : kitB "list" "int" = some false := by kernel_rfl
  unfold isT
  simp only [tyD, h, Option.bind_some]
theorem isT_int_t (x : List D) : isT "int" (.tuple x) = some (.bool false) := by
  have h : kitB "tuple" "int" = some false := by kernel_rfl
  unfold isT
  simp only [tyD, h, Option.bind_some]
theorem isT_bool_n : isT "bool" .none = some (.bool false) := by
  have h : kitB "NoneType" "bool" = some false := by kernel_rfl
  unfold isT
  simp only [tyD, h, Option.bind_some]
theorem isT_bool_b (x : Bool) : isT "bool" (.bool x) = some (.bool true) := by
  have h : kitB "bool" "bool" = some true := by kernel_rfl
  unfold isT
  simp only [tyD, h, Option.bind_some]
theorem isT_bool_i (x : Int) : isT "bool" (.int x) = some (.bool false) := by
  have h : kitB "int" "bool" = some false := by kernel_rfl
  unfold isT
  simp only [tyD, h, Option.bind_some]
theorem isT_bool_s (x : Str) : isT "bool" (.str x) = some (.bool false) := by
  have h : kitB "str" "bool" = some false := by kernel_rfl
  unfold isT
  simp only [tyD, h, Option.bind_some]
theorem isT_bool_l (x : List D) : isT "bool" (.list x) = some (.bool false) := by
  have h : kitB "list" "bool" = some false := by kernel_rfl
  unfold isT
  simp only [tyD, h, Option.bind_some]
theorem isT_bool_t (x : List D) : isT "bool" (.tuple x) = some (.bool false) := by
  have h : kitB "tuple" "bool" = some false := by kernel_rfl
  unfold isT
  simp only [tyD, h, Option.bind_some]
theorem isT_tuple_n : isT "tuple" .none = some (.bool false) := by
  have h : kitB "NoneType" "tuple" = some false := by kernel_rfl
  unfold isT
  simp only [tyD, h, Option.bind_some]
theorem isT_tuple_b (x : Bool) : isT "tuple" (.bool x) = some (.bool false) := by
  have h : kitB "bool" "tuple" = some false := by kernel_rfl
  unfold isT
  simp only [tyD, h, Option.bind_some]
theorem isT_tuple_i (x : Int) : isT "tuple" (.int x) = some (.bool false) := by
  have h : kitB "int" "tuple" = some false := by kernel_rfl
  unfold isT
  simp only [tyD, h, Option.bind_some]
theorem isT_tuple_s (x : Str) : isT "tuple" (.str x) = some (.bool false) := by
  have h : kitB "str" "tuple" = some false := by kernel_rfl
  unfold isT
  simp only [tyD, h, Option.bind_some]
theorem isT_tuple_l (x : List D) : isT "tuple" (.list x) = some (.bool false) := by
  have h : kitB "list" "tuple" = some false := by kernel_rfl
  unfold isT
  simp only [tyD, h, Option.bind_some]
theorem isT_tuple_t (x : List D) : isT "tuple" (.tuple x) = some (.bool true) := by
  have h : kitB "tuple" "tuple" = some true := by kernel_rfl
  unfold isT
  simp only [tyD, h, Option.bind_some]
mutual
def wid : D → Bool
  | .list ds => widAll ds && decide (ds.length ≤ 1000)
  | .tuple ds => widAll ds && decide (ds.length ≤ 1000)
  | .dict _ => false
  | _ => true
def widAll : List D → Bool
  | [] => true
  | d :: ds => wid d && widAll ds
end
theorem widAll_iff : ∀ {ds : List D}, widAll ds = true ↔ ∀ d ∈ ds, wid d = true
  | [] => by simp [widAll]
  | d :: ds => by
    simp only [widAll, Bool.and_eq_true, List.mem_cons, forall_eq_or_imp]
    rw [widAll_iff]
def GD (n : Nat) (d : D) : Prop := okD n d ∧ wid d = true
theorem okAll_mem : ∀ {ds : List D} {n : Nat}, PyData.canLayAll0 ds = true → PyData.depthAll ds ≤ n → ∀ d ∈ ds, okD n d
  | [], _, _, _, d, h => by cases h
  | x :: xs, n, h1, h2, d, h => by
    simp only [PyData.canLayAll0, Bool.and_eq_true] at h1
    simp only [PyData.depthAll] at h2
    rcases List.mem_cons.mp h with rfl | h
    · exact ⟨h1.1, by omega⟩
    · exact okAll_mem h1.2 (by omega) d h
theorem GD.le {n m : Nat} {d : D} (h : GD n d) (e : n ≤ m) : GD m d := ⟨h.1.le e, h.2⟩
theorem GD.mem {n : Nat} {ds : List D} (h : GD n (.tuple ds)) : ∀ d ∈ ds, GD n d := fun d hd => by
  obtain ⟨⟨h1, h2⟩, h3⟩ := h
  simp only [PyData.canLay0] at h1
  simp only [PyData.depth] at h2
  simp only [wid, Bool.and_eq_true] at h3
  exact ⟨okAll_mem h1 (by omega) d hd, widAll_iff.mp h3.1 d hd⟩
theorem GD.len {n : Nat} {ds : List D} (h : GD n (.tuple ds)) : ds.length ≤ 1000 := by
  have h3 := h.2
  simp only [wid, Bool.and_eq_true] at h3
  exact of_decide_eq_true h3.2
theorem GD.tup {n : Nat} {ds : List D} (h : ∀ d ∈ ds, GD n d) (hl : ds.length ≤ 1000) : GD (n + 1) (.tuple ds) := ⟨okD_tup fun d hd => (h d hd).1, by
  simp only [wid, Bool.and_eq_true]
  exact ⟨widAll_iff.mpr fun d hd => (h d hd).2, decide_eq_true hl⟩⟩
theorem GD.lst {n : Nat} {ds : List D} (h : ∀ d ∈ ds, GD n d) (hl : ds.length ≤ 1000) : GD (n + 1) (.list ds) := ⟨okD_lst fun d hd => (h d hd).1, by
  simp only [wid, Bool.and_eq_true]
  exact ⟨widAll_iff.mpr fun d hd => (h d hd).2, decide_eq_true hl⟩⟩
theorem GD.int (n : Nat) (i : Int) : GD n (.int i) := ⟨⟨by simp only [PyData.canLay0], by simp only [PyData.depth]; exact Nat.zero_le _⟩, by simp only [wid]⟩
theorem GD.bool (n : Nat) (i : Bool) : GD n (.bool i) := ⟨⟨by simp only [PyData.canLay0], by simp only [PyData.depth]; exact Nat.zero_le _⟩, by simp only [wid]⟩
theorem GD.none (n : Nat) : GD n .none := ⟨⟨by simp only [PyData.canLay0], by simp only [PyData.depth]; exact Nat.zero_le _⟩, by simp only [wid]⟩
theorem GD.notDict {n : Nat} {es : List (D × D)} (h : GD n (.dict es)) : False := by
  have := h.2
  simp only [wid] at this
  cases this
/-! raw lists -/
theorem lcGo_R {j : Nat} {T E : XE} {ρ : Nv} (l : List D) : lcGo (tN j) T E ρ l = lcM (fun x => T (ρ.set j (some x))) (fun x => E (ρ.set j (some x))) l := by
  have := lcGo_N (f := fun x : D => x) (j := j) (T := T) (E := E) (ρ := ρ) l
  rw [List.map_id'] at this
  exact this
theorem raw_nil {n : Nat} {l : List D} (h : ∀ d ∈ l, okD n d) (hn : n ≤ 60) : dEq (.list l) (.list []) = some (.bool l.isEmpty) ∧ dNe (.list l) (.list []) = some (.bool !l.isEmpty) := by
  have h1 := (okD_lst h).sh (show n + 1 ≤ 64 by omega)
  have h2 : SeqAt.shaped (.list []) = true := (okD_lst (n := 0) (l := []) (by simp)).sh (by decide)
  have h3 : PyData.eqv (.list l) (.list []) = l.isEmpty := by
    rw [PyData.eqv]
    cases l <;> simp [PyData.eqvAll]
  unfold dEq dNe
  rw [h1, h2, h3]
  exact ⟨rfl, rfl⟩
/-! the checks -/
def numB (lo hi : Int) : D → Bool
  | .int i => decide (lo ≤ i) && decide (i ≤ hi)
  | _ => false
def chB (m : Int) : Int → List D → Bool
  | _, [] => true
  | last, .int i :: ds => decide (last + 1 ≤ i) && decide (i ≤ m - 1) && chB m i ds
  | _, _ :: _ => false
def amB (m : Int) : D → Bool
  | .tuple ds => chB m (-1) ds
  | _ => false
def intOf : D → Int
  | .int i => i
  | _ => 0
def rowsB (m : Int) : D → Bool
  | .tuple rows => decide (rows.length ≤ 64) && rows.all (amB m)
  | _ => false
def itB : D → Bool
  | .tuple [a, b] => numB 1 6 a && rowsB (intOf a) b
  | _ => false
def irB (m : Int) : D → Bool
  | .tuple [a, b] => amB m a && amB m b
  | _ => false
def arB (m : Int) : D → Bool
  | .tuple rs => decide (rs.length ≤ 64) && rs.all (irB m)
  | _ => false
theorem chB_num {m : Int} : ∀ {last : Int} {ds : List D}, -1 ≤ last → chB m last ds = true → ∀ d ∈ ds, numB 0 (m - 1) d = true
  | _, [], _, _, d, h => by cases h
  | last, .int i :: ds, hl, h, d, hd => by
    simp only [chB, Bool.and_eq_true, decide_eq_true_eq] at h
    rcases List.mem_cons.mp hd with rfl | hd
    · simp only [numB, Bool.and_eq_true, decide_eq_true_eq]
      omega
    · exact chB_num (last := i) (by omega) h.2 d hd
  | _, .none :: _, _, h, _, _ => by simp [chB] at h
  | _, .bool _ :: _, _, h, _, _ => by simp [chB] at h
  | _, .str _ :: _, _, h, _, _ => by simp [chB] at h
  | _, .list _ :: _, _, h, _, _ => by simp [chB] at h
  | _, .tuple _ :: _, _, h, _, _ => by simp [chB] at h
  | _, .dict _ :: _, _, h, _, _ => by simp [chB] at h
theorem nums_ints {lo hi : Int} : ∀ {ds : List D}, (∀ d ∈ ds, numB lo hi d = true) → ∃ is : List Int, ds = is.map .int ∧ ∀ i ∈ is, lo ≤ i ∧ i ≤ hi
  | [], _ => ⟨[], rfl, by simp⟩
  | d :: ds, h => by
    obtain ⟨is, h1, h2⟩ := nums_ints (ds := ds) fun x hx => h x (List.mem_cons_of_mem _ hx)
    have h3 := h d List.mem_cons_self
    unfold numB at h3
    split at h3
    · rename_i i
      simp only [Bool.and_eq_true, decide_eq_true_eq] at h3
      refine ⟨i :: is, by rw [h1]; rfl, fun x hx => ?_⟩
      rcases List.mem_cons.mp hx with rfl | hx
      · exact h3
      · exact h2 x hx
    · cases h3
def incB : Int → List Int → Bool
  | _, [] => true
  | last, i :: is => decide (last < i) && incB i is
theorem chB_inc {m : Int} : ∀ {is : List Int} {last : Int}, (∀ i ∈ is, i ≤ m - 1) → chB m last (is.map .int) = incB last is
  | [], _, _ => rfl
  | i :: is, last, h => by
    have h1 := h i List.mem_cons_self
    have ih := chB_inc (is := is) (last := i) fun x hx => h x (List.mem_cons_of_mem _ hx)
    simp only [List.map_cons, chB, incB, ih, decide_eq_true h1, Bool.and_true]
    congr 1
/-- neighbours, by their places -/
theorem inc_places : ∀ (is : List Int) (i : Int), incB i is = (List.range is.length).all fun k => !decide ((i :: is).getD (k + 1) 0 ≤ (i :: is).getD k 0)
  | [], _ => rfl
  | j :: is, i => by
    unfold incB
    rw [inc_places is j, List.length_cons, List.range_succ_eq_map, List.all_cons, List.all_map]
    congr 1
    · simp only [List.getD_cons_zero, List.getD_cons_succ, Nat.zero_add]
      by_cases h : i < j
      · have h' : ¬ j ≤ i := by omega
        simp [h, h']
      · have h' : j ≤ i := by omega
        simp [h, h']
theorem items_rawT (ds : List D) : dItems (.tuple ds) = some ds := rfl
theorem items_rawL (ds : List D) : dItems (.list ds) = some ds := rfl
theorem dLen_rawT (ds : List D) : dLen [.tuple ds] = some (.int ds.length) := rfl
theorem dTuple_rawL (ds : List D) : dTuple [.list ds] = some (.tuple ds) := rfl
theorem st_ret {c : XE} {s rest : XS} {ρ : Nv} {d : D} (h1 : c ρ = some (.bool true)) (h2 : s ρ = some (.rt d)) : sSeq (sIf c s sNext) rest ρ = some (.rt d) := by
  unfold sSeq sIf
  rw [h1]
  show (s ρ).bind _ = _
  rw [h2]
  rfl
/-! what is spoilt: trees of tuples and numbers -/
def PT : Nat → D → Prop
  | 0, d => ∃ i : Int, 0 ≤ i ∧ i ≤ 100 ∧ d = .int i
  | n + 1, d => (∃ i : Int, 0 ≤ i ∧ i ≤ 100 ∧ d = .int i) ∨ ∃ ds, d = .tuple ds ∧ ds.length ≤ 64 ∧ ∀ x ∈ ds, PT n x
theorem PT.gd : ∀ {n : Nat} {d : D}, PT n d → GD n d
  | 0, _, ⟨i, _, _, e⟩ => by rw [e]; exact GD.int 0 i
  | n + 1, _, .inl ⟨i, _, _, e⟩ => by rw [e]; exact GD.int _ i
  | n + 1, _, .inr ⟨ds, e, hl, h⟩ => by
    rw [e]
    exact GD.tup (fun x hx => PT.gd (h x hx)) (by omega)
theorem PT.cases : ∀ {n : Nat} {d : D}, PT n d → (∃ i : Int, 0 ≤ i ∧ i ≤ 100 ∧ d = .int i) ∨ ∃ k ds, n = k + 1 ∧ d = .tuple ds ∧ ds.length ≤ 64 ∧ ∀ x ∈ ds, PT k x
  | 0, _, h => .inl h
  | n + 1, _, .inl h => .inl h
  | n + 1, _, .inr ⟨ds, h1, h2, h3⟩ => .inr ⟨n, ds, rfl, h1, h2, h3⟩
theorem pt_mk {n : Nat} {m : Int} {s : Ms} (h : IsM m s) (hm : m ≤ 60) : PT (n + 1) (mk s) := .inr ⟨s.map .int, rfl, by have := h.len; rw [List.length_map]; omega, fun x hx => by
    obtain ⟨i, hi, rfl⟩ := List.mem_map.mp hx
    have := up_mem.mp (h.up hi)
    cases n with
    | zero => exact ⟨i, this.1, by omega, rfl⟩
    | succ n => exact .inl ⟨i, this.1, by omega, rfl⟩⟩
theorem atI_some {ds : List D} {k : Int} (h0 : 0 ≤ k) (h1 : k < ds.length) : ∃ d, atI ds k = some d ∧ d ∈ ds ∧ ds[k.toNat]? = some d := by
  have hk : k.toNat < ds.length := by omega
  refine ⟨ds[k.toNat], ?_, List.getElem_mem hk, List.getElem?_eq_getElem hk⟩
  unfold atI ixN
  rw [if_pos h0, if_pos h1, Option.bind_some, List.getElem?_eq_getElem hk]
theorem sl_raw (lo hi : Option Int) (ds : List D) : dSl lo hi (.tuple ds) = some (.tuple (cutD ds lo hi)) := rfl
theorem cutD_mem {lo hi : Option Int} {ds : List D} {x : D} (h : x ∈ cutD ds lo hi) : x ∈ ds := List.mem_of_mem_drop (List.mem_of_mem_take h)
theorem dAdd_rawT {a b : List D} (h : a.length + b.length ≤ big) : dAdd (.tuple a) (.tuple b) = some (.tuple (a ++ b)) := if_pos h
theorem dMul_rawT {a : List D} {k : Int} (h : a ≠ [] ∧ 2 ≤ k ∧ k ≤ 1000 ∧ a.length ≤ 1000) : dMul (.tuple a) (.int k) = some (.tuple (List.replicate k.toNat a).flatten) := if_pos h
theorem rev_rawT (ds : List D) : dRev (.tuple ds) = some (.tuple ds.reverse) := rfl
theorem list_rawT (ds : List D) : dList [.tuple ds] = some (.list ds) := rfl
theorem x2_of {g : D → D → Option D} {a b : XE} {ρ : Nv} {x y z : D} (h1 : a ρ = some x) (h2 : b ρ = some y) (h3 : g x y = some z) : x2 g a b ρ = some z := by
  unfold x2
  rw [h1, Option.bind_some, h2, Option.bind_some, h3]
theorem sRet_of {f : XE} {ρ : Nv} {d : D} (h : f ρ = some d) : sRet f ρ = some (.rt d) := by
  unfold sRet
  rw [h]
  rfl

/-! ML4: pairs, groups, the order of notions. -/
abbrev Pr := Int × Int
abbrev pij : Pr → D := pr PyData.int PyData.int
theorem tup_ii {a b : Int} : PyData.tuple [.int a, .int b] = pr PyData.int PyData.int (a, b) := rfl
theorem lcM_rows {α : Type} {p : α → Bool} {h : α → Pr} (l : List α) : lcM (fun x => some (.bool (p x))) (fun x => some (pij (h x))) l = some (((l.filter p).map h).map pij) := lcM_pr l
theorem foldl_ext {α β : Type} (h : α → List β) : ∀ (l : List α) (b : List β), l.foldl (fun b x => b ++ h x) b = b ++ l.flatMap h
  | [], b => by simp
  | x :: xs, b => by rw [List.foldl_cons, foldl_ext h xs]; simp
/-! groups -/
def btw (es : List (Int × List D)) (i : Int) : List D := match es with
  | [] => []
  | e :: r => if e.1 = i then e.2 else btw r i
def has (es : List (Int × List D)) (i : Int) : Bool := es.any fun e => decide (e.1 = i)
theorem btw_add (i : Int) (d : D) (k : Int) : ∀ es : List (Int × List D), btw (addG es i d) k = (if k = i then btw es i ++ [d] else btw es k)
  | [] => by
    unfold addG btw
    by_cases h : k = i
    · simp [h, btw]
    · have h' : ¬ i = k := fun e => h e.symm
      simp [h, h', btw]
  | (q, ds) :: r => by
    have ih := btw_add i d k r
    unfold addG
    by_cases e : q = i
    · subst e
      rw [if_pos rfl]
      unfold btw
      by_cases h : k = q
      · subst h; simp
      · have h' : ¬ q = k := fun z => h z.symm
        simp [h, h']
    · rw [if_neg e]
      unfold btw
      by_cases h : k = i
      · subst h
        rw [if_pos rfl] at ih
        rw [if_neg e, if_neg e, if_pos rfl, ih]
      · rw [if_neg h] at ih
        rw [if_neg h]
        by_cases h2 : q = k
        · rw [if_pos h2, if_pos h2]
        · rw [if_neg h2, if_neg h2, ih]
theorem has_add (i : Int) (d : D) (k : Int) : ∀ es : List (Int × List D), has (addG es i d) k = (decide (k = i) || has es k)
  | [] => by
    unfold addG has
    by_cases h : k = i
    · simp [h]
    · have h' : ¬ i = k := fun e => h e.symm
      simp [h, h']
  | (q, ds) :: r => by
    have ih := has_add i d k r
    unfold addG
    by_cases e : q = i
    · subst e
      rw [if_pos rfl]
      unfold has
      simp only [List.any_cons]
      by_cases h : k = q
      · subst h; simp
      · simp [h]
    · rw [if_neg e]
      unfold has at ih ⊢
      simp only [List.any_cons, ih]
      cases decide (q = k) <;> cases decide (k = i) <;> rfl
theorem grpAll_pairs : ∀ (P : List Pr) (es : List (Int × List D)), ∃ es', grpAll (P.map pij) es = some es' ∧ (∀ i, btw es' i = btw es i ++ (P.filter fun p => decide (p.1 = i)).map fun p => .int p.2) ∧ (∀ i, has es' i = (has es i || P.any fun p => decide (p.1 = i)))
  | [], es => ⟨es, rfl, fun i => by simp, fun i => by simp⟩
  | p :: P, es => by
    obtain ⟨es', h1, h2, h3⟩ := grpAll_pairs P (addG es p.1 (.int p.2))
    refine ⟨es', h1, fun i => ?_, fun i => ?_⟩
    · rw [h2, btw_add]
      by_cases e : i = p.1
      · subst e; simp
      · have e' : ¬ p.1 = i := fun q => e q.symm
        simp [e, e']
    · rw [h3, has_add, List.any_cons]
      by_cases e : i = p.1
      · subst e; simp
      · have e' : ¬ p.1 = i := fun q => e q.symm
        simp [e, e']
theorem getK_esD (i : Int) : ∀ es : List (Int × List D), getK (esD es) (.inl i) = if has es i = true then some (.list (btw es i)) else none
  | [] => rfl
  | e :: r => by
    have ih := getK_esD i r
    unfold esD at ih ⊢
    rw [List.map_cons]
    have hh : has (e :: r) i = (decide (e.1 = i) || has r i) := rfl
    rw [hh]
    unfold getK btw
    simp only [keyD, Option.some.injEq, Sum.inl.injEq]
    by_cases h : e.1 = i
    · simp [h]
    · simp only [h, if_false, decide_false, Bool.false_or]
      exact ih
theorem esD_keys (es : List (Int × List D)) : ((esD es).all fun p => (keyD p.1).isSome) = true := by
  unfold esD
  rw [List.all_map, List.all_eq_true]
  intro e _
  rfl
theorem btw_none : ∀ {es : List (Int × List D)} {i : Int}, has es i = false → btw es i = []
  | [], _, _ => rfl
  | e :: r, i, h => by
    unfold has at h
    rw [List.any_cons, Bool.or_eq_false_iff] at h
    unfold btw
    rw [if_neg (of_decide_eq_false h.1)]
    exact btw_none h.2
theorem esD_emp {es : List (Int × List D)} (h : es.isEmpty = false) : (esD es).isEmpty = false := by
  cases es with
  | nil => cases h
  | cons e es => rfl
theorem iget_es {es : List (Int × List D)} {i : Int} (h0 : es.isEmpty = false) (h : has es i = true) : dGetI (.dict (esD es)) (.int i) = some (.list (btw es i)) := by
  show (if (esD es).isEmpty = true then none else if ((esD es).all fun p => (keyD p.1).isSome) = true then getK (esD es) (.inl i) else none) = _
  rw [esD_emp h0, if_neg (by decide), if_pos (esD_keys es), getK_esD, if_pos h]
theorem igetor_es {es : List (Int × List D)} {i : Int} (h0 : es.isEmpty = false) : dGetOr (.dict (esD es)) (.int i) (.list []) = some (.list (btw es i)) := by
  show (if (esD es).isEmpty = true then none else if ((esD es).all fun p => (keyD p.1).isSome) = true then some ((getK (esD es) (.inl i)).getD (.list [])) else none) = _
  rw [esD_emp h0, if_neg (by decide), if_pos (esD_keys es), getK_esD]
  cases h : has es i with
  | true => rw [if_pos rfl]; rfl
  | false => rw [if_neg (by decide), btw_none h]; rfl
theorem has_ne {es : List (Int × List D)} {i : Int} (h : has es i = true) : es.isEmpty = false := by
  cases es with
  | nil => cases h
  | cons e es => rfl
/-! the order of notions -/
def tsAt (m : Int) (L : List Ms) (i : Int) : Ms := (getI ([], []) (nts m L) i).1
def msAt (m : Int) (L : List Ms) (i : Int) : Ms := (getI ([], []) (nts m L) i).2
def prs (m : Int) (L : List Ms) : List Pr := (up (nts m L).length).flatMap fun i => ((up (nts m L).length).filter fun j => isL (tsAt m L i) (tsAt m L j)).map fun j => (i, j)
theorem prs_mem {m : Int} {L : List Ms} {i j : Int} : (i, j) ∈ prs m L ↔ i ∈ up (nts m L).length ∧ j ∈ up (nts m L).length ∧ isL (tsAt m L i) (tsAt m L j) = true := by
  unfold prs
  simp only [List.mem_flatMap, List.mem_map, List.mem_filter, Prod.mk.injEq]
  constructor
  · rintro ⟨a, ha, b, ⟨hb, hl⟩, rfl, rfl⟩
    exact ⟨ha, hb, hl⟩
  · rintro ⟨h1, h2, h3⟩
    exact ⟨i, h1, j, ⟨h2, h3⟩, rfl, rfl⟩
theorem flat_len {α β : Type} {h : α → List β} {c : Nat} : ∀ {l : List α}, (∀ x ∈ l, (h x).length ≤ c) → (l.flatMap h).length ≤ l.length * c
  | [], _ => by simp
  | x :: l, hh => by
    have h1 := hh x List.mem_cons_self
    have h2 := flat_len (l := l) fun y hy => hh y (List.mem_cons_of_mem _ hy)
    rw [List.flatMap_cons, List.length_append, List.length_cons, Nat.succ_mul]
    omega
theorem nts_len {m : Int} {L : List Ms} (hm : 0 ≤ m ∧ m ≤ 6) : (nts m L).length ≤ 64 := by
  unfold nts
  rw [List.length_map]
  exact Nat.le_trans (List.length_filter_le _ _) (allM_len hm)
theorem nts_pos {m : Int} {L : List Ms} (hm : 0 ≤ m ∧ m ≤ 6) : 0 < (nts m L).length := by
  have h : cl m L (cl m L []) = cl m L [] := cl_idem (isM_of (by simp) List.Pairwise.nil)
  refine List.length_pos_of_mem (a := (hv L (cl m L []), cl m L [])) ?_
  unfold nts
  exact List.mem_map.mpr ⟨cl m L [], List.mem_filter.mpr ⟨(allM_mem hm).mpr (cl_isM _ _ _), decide_eq_true h⟩, rfl⟩
theorem nts_at {m : Int} {L : List Ms} (hm : 0 ≤ m ∧ m ≤ 6) {i : Int} (hi : i ∈ up (nts m L).length) : tsAt m L i = hv L (msAt m L i) ∧ cl m L (msAt m L i) = msAt m L i ∧ IsM m (msAt m L i) := by
  have h1 := up_mem.mp hi
  have hl : i.toNat < (nts m L).length := by omega
  have hmem : getI ([], []) (nts m L) i ∈ nts m L := by
    unfold getI
    simp [hl]
  unfold tsAt msAt
  generalize getI (([], []) : Rl) (nts m L) i = r at hmem
  unfold nts at hmem
  obtain ⟨s, hs, rfl⟩ := List.mem_map.mp hmem
  obtain ⟨h2, h3⟩ := List.mem_filter.mp hs
  exact ⟨rfl, of_decide_eq_true h3, (allM_mem hm).mp h2⟩
theorem nts_inj {m : Int} {L : List Ms} (hm : 0 ≤ m ∧ m ≤ 6) {i j : Int} (hi : i ∈ up (nts m L).length) (hj : j ∈ up (nts m L).length) (h : msAt m L i = msAt m L j) : i = j := by
  have h1 := up_mem.mp hi
  have h2 := up_mem.mp hj
  have hnd : ((nts m L).map (·.2)).Nodup := by
    unfold nts
    rw [List.map_map]
    have e : (allM m).filter (fun s => decide (cl m L s = s)) = ((allM m).filter fun s => decide (cl m L s = s)).map ((fun x : Rl => x.2) ∘ fun s => (hv L s, s)) := (List.map_id' _).symm
    rw [← e]
    exact List.Pairwise.filter _ (allM_nodup hm)
  have hil : i.toNat < (nts m L).length := by omega
  have hjl : j.toNat < (nts m L).length := by omega
  have e1 : msAt m L i = ((nts m L)[i.toNat]).2 := by unfold msAt getI; simp [hil]
  have e2 : msAt m L j = ((nts m L)[j.toNat]).2 := by unfold msAt getI; simp [hjl]
  rcases Nat.lt_trichotomy i.toNat j.toNat with h3 | h3 | h3
  · have := (List.pairwise_iff_getElem.mp hnd) i.toNat j.toNat (by rw [List.length_map]; exact hil) (by rw [List.length_map]; exact hjl) h3
    rw [List.getElem_map, List.getElem_map, ← e1, ← e2] at this
    exact absurd h this
  · omega
  · have := (List.pairwise_iff_getElem.mp hnd) j.toNat i.toNat (by rw [List.length_map]; exact hjl) (by rw [List.length_map]; exact hil) h3
    rw [List.getElem_map, List.getElem_map, ← e1, ← e2] at this
    exact absurd h.symm this
theorem hv_anti {L : List Ms} {s t : Ms} (h : sub s t = true) : sub (hv L t) (hv L s) = true := sub_iff.mpr fun k hk => by
  unfold hv at hk ⊢
  obtain ⟨h1, h2⟩ := List.mem_filter.mp hk
  exact List.mem_filter.mpr ⟨h1, sub_trans h h2⟩
theorem sh_anti {m : Int} {L : List Ms} {a b : Ms} (h : sub a b = true) : sub (sh m L b) (sh m L a) = true := sub_iff.mpr fun x hx => by
  unfold sh at hx ⊢
  obtain ⟨h1, h2⟩ := List.mem_filter.mp hx
  refine List.mem_filter.mpr ⟨h1, ?_⟩
  rw [List.all_eq_true] at h2 ⊢
  exact fun k hk => h2 k (sub_iff.mp h k hk)
theorem hv_cl {m : Int} {L : List Ms} {s : Ms} (hs : IsM m s) : hv L (cl m L s) = hv L s := by
  unfold hv
  refine List.filter_congr fun k hk => ?_
  rw [Bool.eq_iff_iff]
  constructor
  · exact fun h => sub_trans (cl_ext hs) h
  · exact fun h => sub_row (rowAt_mem.mpr ⟨k, hk, rfl⟩) h
def leN (m : Int) (L : List Ms) (i j : Int) : Prop := sub (tsAt m L i) (tsAt m L j) = true
theorem leN_iff {m : Int} {L : List Ms} (hm : 0 ≤ m ∧ m ≤ 6) {i j : Int} (hi : i ∈ up (nts m L).length) (hj : j ∈ up (nts m L).length) : leN m L i j ↔ sub (msAt m L j) (msAt m L i) = true := by
  obtain ⟨a1, a2, a3⟩ := nts_at hm hi
  obtain ⟨b1, b2, b3⟩ := nts_at hm hj
  unfold leN
  constructor
  · intro h
    rw [a1, b1] at h
    have := sh_anti (m := m) (L := L) h
    rw [sh_hv, sh_hv, a2, b2] at this
    exact this
  · intro h
    rw [a1, b1]
    exact hv_anti h
theorem prs_le {m : Int} {L : List Ms} (hm : 0 ≤ m ∧ m ≤ 6) {i j : Int} (hi : i ∈ up (nts m L).length) (hj : j ∈ up (nts m L).length) : (i = j ∨ (i, j) ∈ prs m L) ↔ leN m L i j := by
  rw [prs_mem]
  constructor
  · rintro (rfl | ⟨_, _, h⟩)
    · exact sub_refl _
    · unfold isL at h
      rw [Bool.and_eq_true] at h
      exact h.2
  · intro h
    by_cases e : i = j
    · exact .inl e
    · refine .inr ⟨hi, hj, ?_⟩
      unfold isL
      rw [Bool.and_eq_true]
      refine ⟨?_, h⟩
      have : ¬ tsAt m L i = tsAt m L j := fun q => e (nts_inj hm hi hj (by
        have h1 : leN m L i j := by unfold leN; rw [q]; exact sub_refl _
        have h2 : leN m L j i := by unfold leN; rw [q]; exact sub_refl _
        exact (nts_at hm hi).2.2.anti (nts_at hm hj).2.2 ((leN_iff hm hj hi).mp h2) ((leN_iff hm hi hj).mp h1)))
      simp [this]
def bOf (P : List Pr) (i : Int) : List Int := (P.filter fun p => decide (p.1 = i)).map (·.2)
def nbl (P : List Pr) : List Pr := P.filter fun p => !((bOf P p.1).any fun t => decide (p.2 ∈ bOf P t))
theorem bOf_mem {P : List Pr} {i j : Int} : j ∈ bOf P i ↔ (i, j) ∈ P := by
  unfold bOf
  simp only [List.mem_map, List.mem_filter, decide_eq_true_eq]
  constructor
  · rintro ⟨⟨a, b⟩, ⟨h1, rfl⟩, rfl⟩
    exact h1
  · intro h
    exact ⟨(i, j), ⟨h, rfl⟩, rfl⟩
theorem rows_ix {m : Int} {L : List Ms} {i : Int} (hi : i ∈ up (nts m L).length) : dIx (lss mk ((nts m L).map fun x => x.1)) (.int i) = some (mk (tsAt m L i)) := by
  have h := up_mem.mp hi
  have hl : i.toNat < (nts m L).length := by omega
  rw [dIx_lss (f := mk) _ h.1 (by rw [List.length_map]; omega) []]
  unfold getI tsAt getI
  simp [hl]
theorem nts_ix {m : Int} {L : List Ms} {i : Int} (hi : i ∈ up (nts m L).length) : dIx (rls (nts m L)) (.int i) = some (rul (tsAt m L i, msAt m L i)) := by
  have h := up_mem.mp hi
  rw [dIx_tpl (f := rul) _ h.1 (by omega) ([], [])]
  rfl
theorem st_group {w : List Nat} {i j k p : Nat} {P : List Pr} {es : List (Int × List D)} {ρ ρ1 : Nv} {rest : XS} {o : Option Out} (hp : xVar p ρ = some (tpl pij P)) (hg : grpAll (P.map pij) [] = some es) (hf : forGo (tT [j, k]) sNext (P.map pij) (ρ.set i none) = some (.nx ρ1))
    (hc : unset w ρ = true ∧ P.length ≤ 10000 ∧ i < ρ.length ∧ j < ρ.length ∧ k < ρ.length) (hk : rest (ρ1.set i (if es.isEmpty then none else some (.dict (esD es)))) = o) : sSeq (sGroup w i j k p) rest ρ = o := by
  have h : sGroup w i j k p ρ = some (.nx (ρ1.set i (if es.isEmpty then none else some (.dict (esD es))))) := by
    unfold sGroup
    rw [hp]
    show (grpAll (P.map pij) []).bind _ = _
    rw [hg, Option.bind_some, hf]
    show (if _ then _ else _) = _
    rw [if_pos (by rw [List.length_map]; exact hc)]
  unfold sSeq
  rw [h]
  exact hk

/-! ML5: errors, evaluated; scripts that are lists; tables changed. -/
theorem st_if {c : XE} {s rest : XS} {ρ : Nv} {o : Option Out} {b : Bool} (h : c ρ = some (.bool b)) (h1 : b = true → sSeq s rest ρ = o) (h2 : b = false → rest ρ = o) : sSeq (sIf c s sNext) rest ρ = o := by
  unfold sSeq sIf
  rw [h]
  cases b with
  | true => exact h1 rfl
  | false => exact h2 rfl
theorem st_if2 {c : XE} {s rest : XS} {ρ : Nv} {o : Option Out} {b : Bool} (P : Nv → Prop) (h : c ρ = some (.bool b)) (h1 : b = true → ∃ ρ', s ρ = some (.nx ρ') ∧ P ρ') (h2 : b = false → P ρ) (k : ∀ ρ', P ρ' → rest ρ' = o) : sSeq (sIf c s sNext) rest ρ = o := by
  unfold sSeq sIf
  rw [h]
  cases b with
  | true =>
    obtain ⟨ρ', h3, h4⟩ := h1 rfl
    show Option.bind (s ρ) _ = o
    rw [h3]
    exact k ρ' h4
  | false => exact k ρ (h2 rfl)
theorem st_ret1 {f : XE} {ρ : Nv} {d : D} (h : f ρ = some d) : sRet f ρ = some (.rt d) := by
  unfold sRet
  rw [h]
  rfl
theorem st_asg1 {j : Nat} {f : XE} {d : D} {ρ : Nv} (h : f ρ = some d) : sAsg (tN j) f ρ = some (.nx (ρ.set j (some d))) := by
  unfold sAsg tN
  rw [h]
  rfl
theorem st_seq {s rest : XS} {ρ ρ' : Nv} {o : Option Out} (h : s ρ = some (.nx ρ')) (k : rest ρ' = o) : sSeq s rest ρ = o := by
  unfold sSeq
  rw [h]
  exact k
theorem st_rt {s rest : XS} {ρ : Nv} {d : D} (h : s ρ = some (.rt d)) : sSeq s rest ρ = some (.rt d) := by
  unfold sSeq
  rw [h]
  rfl
theorem if_no {c : XE} {s : XS} {ρ : Nv} (h : c ρ = some (.bool false)) : sIf c s sNext ρ = some (.nx ρ) := by
  unfold sIf
  rw [h]
  rfl
theorem if_b {c : XE} {s t : XS} {ρ : Nv} {o : Option Out} {b : Bool} (h : c ρ = some (.bool b)) (h1 : b = true → s ρ = o) (h2 : b = false → t ρ = o) : sIf c s t ρ = o := by
  unfold sIf
  rw [h]
  cases b with
  | true => exact h1 rfl
  | false => exact h2 rfl
theorem seq_assoc (a b c : XS) (ρ : Nv) : sSeq (sSeq a b) c ρ = sSeq a (sSeq b c) ρ := by
  unfold sSeq
  cases a ρ with
  | none => rfl
  | some o => cases o <;> rfl
theorem runX_ret {n m : Nat} {s : XS} {ds : List D} {o : Out} {r : Rx} (hl : ds.length = n) (h : s (startN m ds) = some o) (ho : outX o = some r) : (if ds.length = n then runX m s ds else none) = some r := by
  rw [if_pos hl]
  unfold runX
  rw [h]
  exact ho
theorem enu_ints (l : List Int) : numbered 0 (l.map PyData.int) = (up l.length).map fun k => .tuple [.int k, .int (getI 0 l k)] := enu_map l 0
theorem tb_fold (m : Int) (L : List Ms) : PyData.tuple [.int m, rws L] = tb m L := rfl
theorem dNe_self {d : D} (h : PyData.eqv d d = true) (hs : SeqAt.shaped d = true) : dNe d d = some (.bool false) := by
  unfold dNe
  rw [hs, h]
  rfl
theorem dEq_self {d : D} (h : PyData.eqv d d = true) (hs : SeqAt.shaped d = true) : dEq d d = some (.bool true) := by
  unfold dEq
  rw [hs, h]
  rfl
theorem eqv_str (a : Str) : PyData.eqv (.str a) (.str a) = true := by simp only [PyData.eqv, beq_self_eq_true]
theorem sh_str (a : Str) (h : PyData.strOk a = true) : SeqAt.shaped (.str a) = true := by
  unfold SeqAt.shaped
  simp only [PyData.canLay0, PyData.depth, h, Bool.true_and]
  rfl
theorem eqv_enc {α : Type} [DecidableEq α] {f : α → D} {n : Nat} [Enc f n] (a : α) : PyData.eqv (f a) (f a) = true := by rw [Enc.eqv]; exact decide_eq_true rfl
/-- read as the script's numbers -/
structure ScrD (X : D) (ns : List Int) : Prop where
  len : dLen [X] = some (.int ns.length)
  ix : ∀ k : Int, 0 ≤ k → k < ns.length → dIx X (.int k) = some (.int (getI 0 ns k))
theorem scrD_scr (ns : List Int) : ScrD (scr ns) ns := ⟨dLen_scr ns, fun k h0 h1 => dIx_scr ns h0 h1⟩
theorem scrD_lst (ns : List Int) : ScrD (lss .int ns) ns := ⟨dLen_lss ns, fun k h0 h1 => dIx_lss ns h0 h1 0⟩
theorem cut_tail (ds : List D) : cutD ds (some 1) none = ds.tail := by
  unfold cutD
  cases ds with
  | nil => simp
  | cons d ds =>
    have h1 : HT.sIx (d :: ds).length 0 (some 1) = 1 := by
      unfold HT.sIx
      simp only [List.length_cons]
      simp
      try omega
    have h2 : HT.sIx (d :: ds).length (d :: ds).length none = (d :: ds).length := rfl
    rw [h1, h2]
    simp
theorem slice_tail (ns : List Int) : dSl (some 1) none (scr ns) = some (lss .int ns.tail) := by
  unfold scr
  simp only [dSl, scrOf, Option.bind_some]
  rw [cut_tail, ← List.map_tail]
  rfl
theorem cut_take (ds : List D) {k : Int} (h : 0 ≤ k) : cutD ds none (some k) = ds.take k.toNat := by
  unfold cutD
  have h1 : HT.sIx ds.length 0 none = 0 := rfl
  have h2 : HT.sIx ds.length ds.length (some k) = min k.toNat ds.length := by
    unfold HT.sIx
    simp
    try omega
  rw [h1, h2]
  simp
theorem slice_take (L : List Ms) {k : Int} (h : 0 ≤ k) : dSl none (some k) (rws L) = some (rws (L.take k.toNat)) := by
  show dSl none (some k) (.tuple (L.map mk)) = _
  simp only [dSl]
  rw [cut_take _ h, ← List.map_take]
  rfl
theorem flat_one {α : Type} (x : α) : ∀ n, (List.replicate n [x]).flatten = List.replicate n x
  | 0 => rfl
  | n + 1 => by rw [List.replicate_succ, List.flatten_cons, flat_one x n]; rfl
theorem dMul_one (s : Ms) {k : Int} (h : 2 ≤ k ∧ k ≤ 1000) : dMul (.tuple [mk s]) (.int k) = some (rws (List.replicate k.toNat s)) := by
  show (if _ then _ else _) = _
  rw [if_pos ⟨by simp, h.1, h.2, by show 1 ≤ 1000; decide⟩, flat_one]
  show some (PyData.tuple _) = some (PyData.tuple _)
  rw [List.map_replicate]

/-! ML9: a table turned about, plain, cut to some marks; sorted notions. -/
/-! closed sets -/
def clM (m : Int) (L : List Ms) : List Ms := (allM m).filter fun s => decide (cl m L s = s)
theorem clM_mem {m : Int} {L : List Ms} {s : Ms} (h : 0 ≤ m ∧ m ≤ 6) : s ∈ clM m L ↔ IsM m s ∧ cl m L s = s := by
  unfold clM
  rw [List.mem_filter, allM_mem h]
  exact and_congr_right fun _ => ⟨fun q => of_decide_eq_true q, fun q => decide_eq_true q⟩
theorem clM_nodup {m : Int} {L : List Ms} (h : 0 ≤ m ∧ m ≤ 6) : (clM m L).Nodup := (allM_nodup h).filter _
theorem clM_len {m : Int} {L : List Ms} (h : 0 ≤ m ∧ m ≤ 6) : (clM m L).length ≤ 64 := Nat.le_trans (List.length_filter_le _ _) (allM_len h)
theorem clM_congr {m : Int} {L L2 : List Ms} (h : 0 ≤ m ∧ m ≤ 6) (e : ∀ s, IsM m s → cl m L s = cl m L2 s) : clM m L = clM m L2 := by
  unfold clM
  exact List.filter_congr fun s hs => by rw [e s ((allM_mem h).mp hs)]
theorem clM_twice (m : Int) (L : List Ms) : clM m (L ++ L) = clM m L := by
  unfold clM
  refine List.filter_congr fun s _ => ?_
  have e : cl m (L ++ L) s = cl m L s := by
    refine (cl_isM _ _ _).ext (cl_isM _ _ _) fun x => ?_
    rw [cl_mem, cl_mem]
    refine and_congr_right fun _ => forall_congr' fun r => ?_
    rw [List.mem_append, or_self]
  rw [e]
theorem cl_row {m : Int} {L : List Ms} {r : Ms} (hr : r ∈ L) (I : IsM m r) : cl m L r = r := (cl_isM _ _ _).anti I (sub_row hr (sub_refl r)) (cl_ext I)
/-! turned about -/
theorem getI_map {α β : Type} (h : α → β) (l : List α) {k : Int} (h0 : 0 ≤ k) (h1 : k < l.length) (d : β) (d2 : α) : getI d (l.map h) k = h (getI d2 l k) := by
  obtain ⟨j, rfl⟩ := Int.eq_ofNat_of_zero_le h0
  have hj : j < l.length := by omega
  unfold getI
  simp [hj]
theorem getI_up {m k : Int} (h : k ∈ up m) : getI 0 (up m) k = k := by
  have h2 := up_mem.mp h
  unfold getI up
  have h3 : k.toNat < m.toNat := by omega
  simp [h3]
  omega
abbrev abtL (m : Int) (L : List Ms) : List Ms := (up m).map fun x => hv L [x]
theorem abt_len {m : Int} (h : 0 ≤ m) (L : List Ms) : ((abtL m L).length : Int) = m := by
  rw [List.length_map, up_len]; omega
theorem abt_at {m k : Int} {L : List Ms} (h : k ∈ up m) : rowAt (abtL m L) k = hv L [k] := by
  have h2 := up_mem.mp h
  have e := getI_map (fun x => hv L [x]) (up m) h2.1 (by rw [up_len]; omega) [] 0
  rw [getI_up h] at e
  exact e
theorem hv1 {L : List Ms} {k i : Int} : i ∈ hv L [k] ↔ i ∈ up L.length ∧ k ∈ rowAt L i := by
  unfold hv
  rw [List.mem_filter, sub_iff]
  simp
theorem hv_isM (L : List Ms) (s : Ms) : IsM L.length (hv L s) := isM_filter _ _
theorem sh_isM (m : Int) (L : List Ms) (s : Ms) : IsM m (sh m L s) := isM_filter _ _
theorem hv_at {L : List Ms} {s : Ms} {i : Int} : i ∈ hv L s ↔ i ∈ up L.length ∧ ∀ k ∈ s, k ∈ rowAt L i := by
  unfold hv
  rw [List.mem_filter, sub_iff]
theorem sh_at {m : Int} {L : List Ms} {ts : Ms} {x : Int} : x ∈ sh m L ts ↔ x ∈ up m ∧ ∀ k ∈ ts, x ∈ rowAt L k := by
  unfold sh
  rw [List.mem_filter, List.all_eq_true]
  exact and_congr_right fun _ => forall_congr' fun k => imp_congr_right fun _ => ⟨fun q => of_decide_eq_true q, fun q => decide_eq_true q⟩
theorem row_isM {m : Int} {L : List Ms} (h : ∀ r ∈ L, IsM m r) {i : Int} (hi : i ∈ up L.length) : IsM m (rowAt L i) := h _ (rowAt_mem.mpr ⟨i, hi, rfl⟩)
/-- twice is itself -/
theorem abt_abt {m : Int} {L : List Ms} (h : 0 ≤ m) (hL : ∀ r ∈ L, IsM m r) : abtL L.length (abtL m L) = L := by
  refine List.ext_getElem (by rw [List.length_map, up_len]; omega) fun i h1 h2 => ?_
  have hi : (i : Int) ∈ up L.length := up_mem.mpr (by omega)
  have e1 : L[i] = rowAt L i := by
    unfold rowAt
    simp [h2]
  have e2 : (abtL L.length (abtL m L))[i] = hv (abtL m L) [(i : Int)] := by
    have := abt_at (m := L.length) (L := abtL m L) hi
    rw [← this]
    unfold rowAt
    have h3 : i < L.length := h2
    simp [up_len, h3]
  rw [e1, e2]
  have I1 : IsM m (hv (abtL m L) [(i : Int)]) := by
    have := hv_isM (abtL m L) [(i : Int)]
    rwa [abt_len h] at this
  refine I1.ext (row_isM hL hi) fun x => ?_
  rw [hv1, abt_len h]
  constructor
  · rintro ⟨hx, h3⟩
    rw [abt_at hx, hv1] at h3
    exact h3.2
  · intro hx
    have hu := (row_isM hL hi).up hx
    exact ⟨hu, by rw [abt_at hu, hv1]; exact ⟨hi, hx⟩⟩
theorem hv_turn {m : Int} {L : List Ms} {A : Ms} (h : 0 ≤ m) (IA : IsM L.length A) : hv (abtL m L) A = sh m L A := by
  have I1 : IsM m (hv (abtL m L) A) := by
    have := hv_isM (abtL m L) A
    rwa [abt_len h] at this
  refine I1.ext (sh_isM m L A) fun x => ?_
  rw [hv_at, sh_at, abt_len h]
  refine and_congr_right fun hx => forall_congr' fun k => imp_congr_right fun hk => ?_
  rw [abt_at hx, hv1]
  exact ⟨fun q => q.2, fun q => ⟨IA.up hk, q⟩⟩
theorem sh_turn {m : Int} {L : List Ms} {B : Ms} (IB : IsM m B) : sh L.length (abtL m L) B = hv L B := by
  refine (sh_isM _ _ _).ext (hv_isM _ _) fun i => ?_
  rw [hv_at, sh_at]
  refine and_congr_right fun hi => forall_congr' fun k => imp_congr_right fun hk => ?_
  rw [abt_at (IB.up hk), hv1]
  exact ⟨fun q => q.2, fun q => ⟨hi, q⟩⟩
theorem cl_turn {m : Int} {L : List Ms} {A : Ms} (h : 0 ≤ m) (IA : IsM L.length A) : cl L.length (abtL m L) A = hv L (sh m L A) := by
  rw [← sh_hv, hv_turn h IA, sh_turn (sh_isM _ _ _)]
def swp (p : Rl) : Rl := (p.2, p.1)
/-- the notions turned about -/
theorem nts_turn {m : Int} {L : List Ms} (h : 0 ≤ m ∧ m ≤ 6) (hn : L.length ≤ 6) : (nts L.length (abtL m L)).Perm ((nts m L).map swp) := by
  have hn6 : 0 ≤ (L.length : Int) ∧ (L.length : Int) ≤ 6 := by omega
  have n1 : (nts L.length (abtL m L)).Nodup := by
    unfold nts
    exact List.Pairwise.map _ (fun a b hab e => hab (congrArg Prod.snd e)) ((allM_nodup hn6).filter _)
  have n2 : ((nts m L).map swp).Nodup := by
    unfold nts
    rw [List.map_map]
    exact List.Pairwise.map _ (fun a b hab e => hab (congrArg Prod.fst e)) ((allM_nodup h).filter _)
  refine (List.perm_ext_iff_of_nodup n1 n2).mpr fun p => ?_
  have q1 : p ∈ nts L.length (abtL m L) ↔ ∃ A, (IsM L.length A ∧ hv L (sh m L A) = A) ∧ p = (sh m L A, A) := by
    unfold nts
    rw [List.mem_map]
    constructor
    · rintro ⟨A, hA, rfl⟩
      obtain ⟨h1, h2⟩ := (clM_mem hn6).mp hA
      rw [cl_turn h.1 h1] at h2
      exact ⟨A, ⟨h1, h2⟩, by rw [hv_turn h.1 h1]⟩
    · rintro ⟨A, ⟨h1, h2⟩, rfl⟩
      exact ⟨A, (clM_mem hn6).mpr ⟨h1, by rw [cl_turn h.1 h1]; exact h2⟩, by rw [hv_turn h.1 h1]⟩
  have q2 : p ∈ (nts m L).map swp ↔ ∃ s, (IsM m s ∧ cl m L s = s) ∧ p = (s, hv L s) := by
    unfold nts
    rw [List.map_map, List.mem_map]
    constructor
    · rintro ⟨s, hs, rfl⟩
      exact ⟨s, (clM_mem h).mp hs, rfl⟩
    · rintro ⟨s, hs, rfl⟩
      exact ⟨s, (clM_mem h).mpr hs, rfl⟩
  rw [q1, q2]
  constructor
  · rintro ⟨A, ⟨_, h2⟩, rfl⟩
    exact ⟨sh m L A, ⟨sh_isM _ _ _, by rw [← sh_hv, h2]⟩, by rw [h2]⟩
  · rintro ⟨s, ⟨_, h2⟩, rfl⟩
    have e : sh m L (hv L s) = s := by rw [sh_hv, h2]
    exact ⟨hv L s, ⟨hv_isM _ _, by rw [e]⟩, by rw [e]⟩
/-! plain -/
abbrev shGr (m : Int) (L : List Ms) (s : Ms) : Ms := (up m).filter fun x => (L.filter fun r => isL s r).all fun r => decide (x ∈ r)
abbrev plnL (m : Int) (L : List Ms) : List Ms := (allM m).filter fun s => decide (s ∈ L) && !decide (s = shGr m L s)
theorem shGr_at {m : Int} {L : List Ms} {s : Ms} {x : Int} : x ∈ shGr m L s ↔ x ∈ up m ∧ ∀ r ∈ L, isL s r = true → x ∈ r := by
  rw [List.mem_filter, List.all_eq_true]
  refine and_congr_right fun _ => ⟨fun q r hr hs => of_decide_eq_true (q r (List.mem_filter.mpr ⟨hr, hs⟩)), fun q r hr => ?_⟩
  obtain ⟨h1, h2⟩ := List.mem_filter.mp hr
  exact decide_eq_true (q r h1 h2)
theorem isL_iff {a b : Ms} : isL a b = true ↔ a ≠ b ∧ sub a b = true := by
  unfold isL
  by_cases h : a = b <;> simp [h]
theorem pln_mem {m : Int} {L : List Ms} {s : Ms} (h : 0 ≤ m ∧ m ≤ 6) : s ∈ plnL m L ↔ IsM m s ∧ s ∈ L ∧ s ≠ shGr m L s := by
  rw [List.mem_filter, allM_mem h, Bool.and_eq_true]
  simp
theorem pln_nodup {m : Int} {L : List Ms} (h : 0 ≤ m ∧ m ≤ 6) : (plnL m L).Nodup := (allM_nodup h).filter _
theorem pln_out {m : Int} {L : List Ms} (h : 0 ≤ m ∧ m ≤ 6) (hL : ∀ r ∈ L, IsM m r) {x : Int} (hx : x ∈ up m) : ∀ (n : Nat) (r : Ms), m.toNat - r.length ≤ n → r ∈ L → x ∉ r → ∃ p ∈ plnL m L, sub r p = true ∧ x ∉ p
  | 0, r, hn, hr, hxr => by
    by_cases e : r = shGr m L r
    · rw [e, shGr_at] at hxr
      have : ¬ ∀ q ∈ L, isL r q = true → x ∈ q := fun q => hxr ⟨hx, q⟩
      simp only [Classical.not_forall] at this
      obtain ⟨q, hq, hl, _⟩ := this
      obtain ⟨h1, h2⟩ := isL_iff.mp hl
      have := (hL r hr).lt (hL q hq) h2 fun z => h1 z.symm
      have := (hL q hq).len
      omega
    · exact ⟨r, (pln_mem h).mpr ⟨hL r hr, hr, e⟩, sub_refl r, hxr⟩
  | n + 1, r, hn, hr, hxr => by
    by_cases e : r = shGr m L r
    · rw [e, shGr_at] at hxr
      have : ¬ ∀ q ∈ L, isL r q = true → x ∈ q := fun q => hxr ⟨hx, q⟩
      simp only [Classical.not_forall] at this
      obtain ⟨q, hq, hl, hxq⟩ := this
      obtain ⟨h1, h2⟩ := isL_iff.mp hl
      have h3 := (hL r hr).lt (hL q hq) h2 fun z => h1 z.symm
      obtain ⟨p, hp, h4, h5⟩ := pln_out h hL hx n q (by omega) hq hxq
      exact ⟨p, hp, sub_trans h2 h4, h5⟩
    · exact ⟨r, (pln_mem h).mpr ⟨hL r hr, hr, e⟩, sub_refl r, hxr⟩
/-- plain keeps the closed sets -/
theorem clM_pln {m : Int} {L : List Ms} (h : 0 ≤ m ∧ m ≤ 6) (hL : ∀ r ∈ L, IsM m r) : clM m (plnL m L) = clM m L := by
  refine clM_congr h fun s _ => (cl_isM _ _ _).ext (cl_isM _ _ _) fun x => ?_
  rw [cl_mem, cl_mem]
  refine and_congr_right fun hx => ⟨fun q r hr hs => ?_, fun q r hr hs => q r ((pln_mem h).mp hr).2.1 hs⟩
  rcases Classical.em (x ∈ r) with z | z
  · exact z
  · obtain ⟨p, hp, h1, h2⟩ := pln_out h hL hx _ r (Nat.le_refl _) hr z
    exact absurd (q p hp (sub_trans hs h1)) h2
/-- each row is needed -/
theorem pln_need {m : Int} {L : List Ms} (h : 0 ≤ m ∧ m ≤ 6) (hL : ∀ r ∈ L, IsM m r) {k : Nat} (hk : k < (plnL m L).length) : clM m ((plnL m L).take k ++ (plnL m L).drop (k + 1)) ≠ clM m L := by
  intro e
  have nd := pln_nodup (L := L) h
  have mp := fun s => pln_mem (L := L) (s := s) h
  generalize plnL m L = P at hk e nd mp
  have hp : P[k] ∈ P := List.getElem_mem hk
  have split : P = P.take k ++ P[k] :: P.drop (k + 1) := by
    rw [List.getElem_cons_drop, List.take_append_drop]
  generalize P[k] = p at hp split
  obtain ⟨I, hpL, hne⟩ := (mp p).mp hp
  have nin : ∀ q ∈ P.take k ++ P.drop (k + 1), q ∈ P ∧ q ≠ p := by
    intro q hq
    have nd2 := nd
    rw [split] at nd2
    rw [List.nodup_append] at nd2
    obtain ⟨_, n2, n3⟩ := nd2
    obtain ⟨n4, _⟩ := List.nodup_cons.mp n2
    rcases List.mem_append.mp hq with z | z
    · exact ⟨List.mem_of_mem_take z, fun w => n3 q z p List.mem_cons_self w⟩
    · exact ⟨List.mem_of_mem_drop z, fun w => n4 (w ▸ z)⟩
  have h1 : p ∈ clM m L := (clM_mem h).mpr ⟨I, cl_row hpL I⟩
  rw [← e] at h1
  have h2 := ((clM_mem h).mp h1).2
  refine hne (I.ext (isM_filter _ _) fun x => ?_)
  rw [shGr_at]
  constructor
  · intro hx
    exact ⟨I.up hx, fun r _ hl => sub_iff.mp (isL_iff.mp hl).2 x hx⟩
  · rintro ⟨hx, q⟩
    rw [← h2, cl_mem]
    refine ⟨hx, fun r hr hs => ?_⟩
    obtain ⟨r1, r2⟩ := nin r hr
    exact q r ((mp r).mp r1).2.1 (isL_iff.mpr ⟨fun z => r2 z.symm, hs⟩)
/-! some marks alone -/
abbrev cutR (s r : Ms) : Ms := (up s.length).filter fun k => decide (getI 0 s k ∈ r)
theorem cutR_at {s r : Ms} {k : Int} : k ∈ cutR s r ↔ k ∈ up s.length ∧ getI 0 s k ∈ r := by
  rw [List.mem_filter]
  exact and_congr_right fun _ => ⟨fun q => of_decide_eq_true q, fun q => decide_eq_true q⟩
theorem getI_mem {s : Ms} {k : Int} (h : k ∈ up s.length) : getI 0 s k ∈ s := by
  have h2 := up_mem.mp h
  have h3 : k.toNat < s.length := by omega
  unfold getI
  simp [h3]
/-- the marks that stand at these places -/
def uncut (m : Int) (s A : Ms) : Ms := (up m).filter fun x => A.any fun k => decide (getI 0 s k = x)
theorem uncut_sub {m : Int} {s A r : Ms} (Is : IsM m s) (IA : IsM s.length A) : sub (uncut m s A) r = true ↔ sub A (cutR s r) = true := by
  rw [sub_iff, sub_iff]
  constructor
  · intro q k hk
    have hu := IA.up hk
    rw [cutR_at]
    refine ⟨hu, q _ (List.mem_filter.mpr ⟨Is.up (getI_mem hu), ?_⟩)⟩
    rw [List.any_eq_true]
    exact ⟨k, hk, decide_eq_true rfl⟩
  · intro q x hx
    obtain ⟨_, h2⟩ := List.mem_filter.mp hx
    obtain ⟨k, hk, e⟩ := List.any_eq_true.mp h2
    rw [← of_decide_eq_true e]
    exact (cutR_at.mp (q k hk)).2
theorem cl_cut {m : Int} {L : List Ms} {s A : Ms} (Is : IsM m s) (IA : IsM s.length A) : cl s.length (L.map (cutR s)) A = cutR s (cl m L (uncut m s A)) := by
  refine (cl_isM _ _ _).ext (isM_filter _ _) fun k => ?_
  rw [cl_mem, cutR_at]
  refine and_congr_right fun hk => ?_
  rw [cl_mem]
  constructor
  · intro q
    refine ⟨Is.up (getI_mem hk), fun r hr hs => ?_⟩
    exact (cutR_at.mp (q _ (List.mem_map_of_mem hr) ((uncut_sub Is IA).mp hs))).2
  · rintro ⟨_, q⟩ r hr hs
    obtain ⟨t, ht, rfl⟩ := List.mem_map.mp hr
    exact cutR_at.mpr ⟨hk, q t ht ((uncut_sub Is IA).mpr hs)⟩
theorem clM_cut {m : Int} {L : List Ms} {s A : Ms} (h : 0 ≤ m ∧ m ≤ 6) (Is : IsM m s) : A ∈ clM s.length (L.map (cutR s)) ↔ A ∈ (clM m L).map (cutR s) := by
  have hs6 : 0 ≤ (s.length : Int) ∧ (s.length : Int) ≤ 6 := by have := Is.len; omega
  rw [clM_mem hs6, List.mem_map]
  constructor
  · rintro ⟨IA, e⟩
    rw [cl_cut Is IA] at e
    exact ⟨cl m L (uncut m s A), (clM_mem h).mpr ⟨cl_isM _ _ _, cl_idem (isM_filter _ _)⟩, e⟩
  · rintro ⟨B, hB, rfl⟩
    obtain ⟨IB, e⟩ := (clM_mem h).mp hB
    have IA : IsM s.length (cutR s B) := isM_filter _ _
    refine ⟨IA, (cl_isM _ _ _).anti IA ?_ (cl_ext IA)⟩
    rw [cl_cut Is IA, sub_iff]
    intro k hk
    rw [cutR_at] at hk ⊢
    refine ⟨hk.1, ?_⟩
    have h1 : sub (uncut m s (cutR s B)) B = true := (uncut_sub Is IA).mpr (sub_refl _)
    have h2 := cl_mono (m := m) (L := L) h1
    rw [e] at h2
    exact sub_iff.mp h2 _ hk.2
/-! sorted -/
theorem sortOkV_rows {l : List Ms} (h : l.length ≤ 1000) : sortOkV (l.map mk) = true := by
  unfold sortOkV
  simp only [Bool.and_eq_true, List.all_eq_true, List.mem_map]
  refine ⟨?_, ?_, ?_, ?_⟩
  · rintro d ⟨a, _, rfl⟩
    have q := Enc.ok (f := mk) a
    exact ⟨q.1, decide_eq_true (Nat.le_trans q.2 (by decide))⟩
  · rintro d ⟨a, _, rfl⟩ e ⟨b, _, rfl⟩
    exact row_alike a b
  · rintro d ⟨a, _, rfl⟩
    rfl
  · rw [List.length_map]
    exact decide_eq_true (show l.length ≤ 1000000 by omega)
theorem sortV_rows {l : List Ms} (h : l.length ≤ 1000) : dSortV [lss mk l] = some (lss mk (l.mergeSort rle)) := by
  show (if sortOkV (l.map mk) = true then some (PyData.list ((l.map mk).mergeSort (PySem.W.dataLe false id))) else none) = _
  rw [if_pos (sortOkV_rows h)]
  unfold lss
  rw [List.map_mergeSort (r := rle) (s := PySem.W.dataLe false id) (f := mk) (fun a _ b _ => (rle_data a b).symm)]
theorem sortSetW_rows {l : List Ms} (h : l.length ≤ 64) : dSortSetW (lss mk l) = some (lss mk ((onceR l).mergeSort rle)) := by
  show (rowsIn (l.map rowD)).bind _ = _
  rw [rowsIn_rows, Option.bind_some, if_pos h]
  rfl
def rle2 (a b : Rl) : Bool := decide (a.1 < b.1 ∨ (a.1 = b.1 ∧ a.2 ≤ b.2))
theorem leRR : PySem.W.dataLe false rul = rle2 := by
  funext a b
  unfold rle2
  show (!PySem.W.dataLt (.tuple [.tuple (b.1.map .int), .tuple (b.2.map .int)]) (.tuple [.tuple (a.1.map .int), .tuple (a.2.map .int)])) = _
  have g : ∀ x y : Ms, PySem.W.alike (PyData.tuple (x.map .int)) (.tuple (y.map .int)) = true := fun x y => row_alike x y
  have g2 : ∀ x y : Ms, PyData.eqv (PyData.tuple (x.map .int)) (.tuple (y.map .int)) = decide (x = y) := fun x y => Enc.eqv (f := mk) x y
  have g3 : ∀ x y : Ms, PySem.W.dataLt (PyData.tuple (x.map .int)) (.tuple (y.map .int)) = decide (x < y) := fun x y => by
    rw [PySem.W.dataLt_tuple]; exact PySem.W.dataLt_ints _ _
  rw [PySem.W.dataLt_pair (g _ _) (g _ _), g2, g2, g3, g3]
  by_cases e : b.1 = a.1
  · have e0 : ¬ a.1 < a.1 := fun q => List.not_lt.mpr (List.le_refl _) q
    by_cases e2 : b.2 = a.2
    · have : a.2 ≤ a.2 := List.le_refl _
      simp [e, e2, this]
    · by_cases e3 : b.2 < a.2
      · have : ¬ a.2 ≤ b.2 := fun q => List.not_lt.mpr q e3
        simp [e, e2, e3, this, e0]
      · have : a.2 ≤ b.2 := List.not_lt.mp e3
        simp [e, e2, e3, this]
  · have e' : ¬ a.1 = b.1 := fun q => e q.symm
    by_cases e3 : b.1 < a.1
    · have : ¬ a.1 < b.1 := fun q => List.not_lt.mpr (List.le_of_lt q) e3
      simp [e, e', e3, this]
    · have h1 : a.1 ≤ b.1 := List.not_lt.mp e3
      have : a.1 < b.1 := by
        rcases Classical.em (a.1 < b.1) with z | z
        · exact z
        · exact absurd (List.le_antisymm h1 (List.not_lt.mp z)) e'
      simp [e, e', e3, this]
theorem rul_pw (l : List Rl) : (l.mergeSort rle2).Pairwise fun a b => rle2 a b = true := by
  have h := PySem.W.sort_pairwise (PySem.W.sortLe_total (PyProof.Rows.listOrd PyProof.Rows.itemOrd) false fun b : Rl => PySem.W.keyToks (rul b)) l
  have h2 : (l.mergeSort (PySem.W.dataLe false rul)).Pairwise fun a b => PySem.W.dataLe false rul a b = true := h
  rwa [leRR] at h2
theorem rle2_anti {a b : Rl} (h : rle2 a b = true) (k : rle2 b a = true) : a = b := by
  have h1 := of_decide_eq_true h
  have k1 := of_decide_eq_true k
  have irr : ∀ x y : Ms, x < y → ¬ y < x := fun x y p q => List.not_lt.mpr (List.le_of_lt p) q
  have irs : ∀ x : Ms, ¬ x < x := fun x p => irr x x p p
  obtain ⟨a1, a2⟩ := a
  obtain ⟨b1, b2⟩ := b
  simp only at h1 k1
  rcases h1 with h1 | ⟨h1, h2⟩
  · rcases k1 with k1 | ⟨k1, k2⟩
    · exact absurd k1 (irr _ _ h1)
    · rw [k1] at h1; exact absurd h1 (irs _)
  · rcases k1 with k1 | ⟨k1, k2⟩
    · rw [h1] at k1; exact absurd k1 (irs _)
    · rw [h1, List.le_antisymm h2 k2]
theorem sort2_eq {l q : List Rl} (h : l.Perm q) : l.mergeSort rle2 = q.mergeSort rle2 :=
  List.Perm.eq_of_pairwise (le := fun a b => rle2 a b = true) (fun a b _ _ h1 h2 => rle2_anti h1 h2) (rul_pw l) (rul_pw q) (((List.mergeSort_perm l _).trans h).trans (List.mergeSort_perm q _).symm)
theorem sortOkV_ruls {l : List Rl} (h : l.length ≤ 1000) : sortOkV (l.map rul) = true := by
  unfold sortOkV
  simp only [Bool.and_eq_true, List.all_eq_true, List.mem_map]
  refine ⟨?_, ?_, ?_, ?_⟩
  · rintro d ⟨a, _, rfl⟩
    have q := Enc.ok (f := rul) a
    exact ⟨q.1, decide_eq_true (Nat.le_trans q.2 (by decide))⟩
  · rintro d ⟨a, _, rfl⟩ e ⟨b, _, rfl⟩
    show PySem.W.alike (.tuple [rowD a.1, rowD a.2]) (.tuple [rowD b.1, rowD b.2]) = true
    simp only [PySem.W.alike, PySem.W.alikeAll, row_alike, Bool.and_self]
  · rintro d ⟨a, _, rfl⟩
    rfl
  · rw [List.length_map]
    exact decide_eq_true (show l.length ≤ 1000000 by omega)
theorem sort_ruls {l : List Rl} : (l.map rul).mergeSort (PySem.W.dataLe false id) = (l.mergeSort rle2).map rul := by
  rw [← leRR, List.map_mergeSort (r := PySem.W.dataLe false rul) (s := PySem.W.dataLe false id) (f := rul) (fun a _ b _ => rfl)]
theorem sortV_tuls {l : List Rl} (h : l.length ≤ 1000) : dSortV [rls l] = some (lss rul (l.mergeSort rle2)) := by
  show (if sortOkV (l.map rul) = true then some (PyData.list ((l.map rul).mergeSort (PySem.W.dataLe false id))) else none) = _
  rw [if_pos (sortOkV_ruls h), sort_ruls]
  rfl
theorem sortV_ruls {l : List Rl} (h : l.length ≤ 1000) : dSortV [lss rul l] = some (lss rul (l.mergeSort rle2)) := sortV_tuls h

def topS (i : Nat) : Stmt := PySem.Challenge.pw_markhall_k51_whole_turned_about_and_plai.main.body.getD i (.Pass ⟨0, 0, 0, 0⟩)
structure Bl (G : Wd) : Prop where
  MARKS_ : ∃ t, G.mg "MARKS" = some (Value.int 6 t)
  ROWS_ : ∃ t, G.mg "ROWS" = some (Value.int 64 t)
  all_ : G.mg "all" = none
  enumerate_ : G.mg "enumerate" = none
  len_ : G.mg "len" = none
  min_ : G.mg "min" = none
  range_ : G.mg "range" = none
  set_ : G.mg "set" = none
  sorted_ : G.mg "sorted" = none
  tuple_ : G.mg "tuple" = none
structure Here (G : Wd) (x : Str) (st : Stmt) : Prop where
  ex : ∃ fa fd, Fun G.K x x st fa fd ∧ G.mg x = some (.ref fa)
variable {G : Wd}
/-! law_cell_at -/
def N_law_cell_at : List Str := ["_law_script", "_law_k"]
abbrev s_law_cell_at : Stmt := topS 22
def c_law_cell_at : XS := sSeq (sIf (x2 dLt (xVar 1) (xF dLen [xVar 0])) (sRet (x2 dIx (xVar 0) (xVar 1))) (sNext)) (sRet (xC (.int 0)))
def f_law_cell_at : List D → Option D := fun ds => if ds.length = 2 then runD N_law_cell_at.length c_law_cell_at ds else none
theorem w_law_cell_at (B : Bl G) : DSs G (staF N_law_cell_at (defScope s_law_cell_at) 0) [] (defBody s_law_cell_at) c_law_cell_at := dss_cons (ds_if (dt_lt (de_var 1 rfl (.inl rfl) (by decide)) (de_len B.len_ rfl (de_var 0 rfl (.inl rfl) (by decide)))) (dss_one (ds_ret (de_ix (de_var 0 rfl (.inl rfl) (by decide)) (de_var 1 rfl (.inl rfl) (by decide))))) (dss_nil)) (dss_one (ds_ret (de_int)))
theorem k_law_cell_at (B : Bl G) (h : Here G "_law_cell_at" s_law_cell_at) : Kn G 1 "_law_cell_at" 2 f_law_cell_at := by
  obtain ⟨fa, fd, F, hm⟩ := h.ex
  have Sc : FnScope N_law_cell_at ["_law_script", "_law_k"] (defScope s_law_cell_at) := ⟨rfl, rfl, rfl, by decide +kernel, rfl, by decide +kernel, by decide +kernel⟩
  exact kn_of F Sc hm (F.binds (ps := ["_law_script", "_law_k"]) fun _ _ _ _ _ _ us hl => match us, hl with | [_, _], _ => rfl) rfl [] (by decide) (w_law_cell_at B)
/-! law_mixed -/
def N_law_mixed : List Str := ["_law_script", "_law_k", "_law_drawn_here"]
abbrev s_law_mixed : Stmt := topS 23
def c_law_mixed : XS := sSeq (sAsg (tN 2) (x2 dMod (x2 dMul (x2 dAdd (x2 dAdd (xF f_law_cell_at [xVar 0, xVar 1]) (x2 dMul (xC (.int 7919)) (xVar 1))) (xC (.int 1))) (xC (.int 48271))) (xC (.int 2147483647)))) (sRet (x2 dMod (x2 dAdd (x2 dAdd (x2 dMul (xVar 2) (xVar 2)) (x2 dMul (xC (.int 7)) (xVar 2))) (xVar 1)) (xC (.int 2147483629))))
def f_law_mixed : List D → Option D := fun ds => if ds.length = 2 then runD N_law_mixed.length c_law_mixed ds else none
theorem w_law_mixed (B : Bl G) (K_law_cell_at : Kn G 1 "_law_cell_at" 2 f_law_cell_at) : DSs G (staF N_law_mixed (defScope s_law_mixed) 1) [] (defBody s_law_mixed) c_law_mixed := dss_cons (ds_asg (de_mod (de_mul (de_add (de_add (de_call K_law_cell_at (by decide) rfl (da_cons (de_var 0 rfl (.inl rfl) (by decide)) (da_cons (de_var 1 rfl (.inl rfl) (by decide)) da_nil))) (de_mul (de_int) (de_var 1 rfl (.inl rfl) (by decide)))) (de_int)) (de_int)) (de_int)) (dg_name rfl (.inl rfl) (.inl rfl) (by decide))) (dss_one (ds_ret (de_mod (de_add (de_add (de_mul (de_var 2 rfl (.inl rfl) (by decide)) (de_var 2 rfl (.inl rfl) (by decide))) (de_mul (de_int) (de_var 2 rfl (.inl rfl) (by decide)))) (de_var 1 rfl (.inl rfl) (by decide))) (de_int))))
theorem k_law_mixed (B : Bl G) (h : Here G "_law_mixed" s_law_mixed) (K_law_cell_at : Kn G 1 "_law_cell_at" 2 f_law_cell_at) : Kn G 2 "_law_mixed" 2 f_law_mixed := by
  obtain ⟨fa, fd, F, hm⟩ := h.ex
  have Sc : FnScope N_law_mixed ["_law_script", "_law_k"] (defScope s_law_mixed) := ⟨rfl, rfl, rfl, by decide +kernel, rfl, by decide +kernel, by decide +kernel⟩
  exact kn_of F Sc hm (F.binds (ps := ["_law_script", "_law_k"]) fun _ _ _ _ _ _ us hl => match us, hl with | [_, _], _ => rfl) rfl [] (by decide) (w_law_mixed B K_law_cell_at)
/-! law_drawn -/
def N_law_drawn : List Str := ["_law_number", "_law_k", "_law_drawn_here"]
abbrev s_law_drawn : Stmt := topS 24
def c_law_drawn : XS := sSeq (sAsg (tN 2) (x2 dMod (x2 dMul (x2 dAdd (x2 dAdd (xVar 0) (x2 dMul (xC (.int 104729)) (xVar 1))) (xC (.int 17))) (xC (.int 69621))) (xC (.int 2147483647)))) (sRet (x2 dMod (x2 dAdd (x2 dAdd (x2 dMul (xVar 2) (xVar 2)) (x2 dMul (xC (.int 3)) (xVar 2))) (xVar 1)) (xC (.int 2147483629))))
def f_law_drawn : List D → Option D := fun ds => if ds.length = 2 then runD N_law_drawn.length c_law_drawn ds else none
theorem w_law_drawn (B : Bl G) : DSs G (staF N_law_drawn (defScope s_law_drawn) 0) [] (defBody s_law_drawn) c_law_drawn := dss_cons (ds_asg (de_mod (de_mul (de_add (de_add (de_var 0 rfl (.inl rfl) (by decide)) (de_mul (de_int) (de_var 1 rfl (.inl rfl) (by decide)))) (de_int)) (de_int)) (de_int)) (dg_name rfl (.inl rfl) (.inl rfl) (by decide))) (dss_one (ds_ret (de_mod (de_add (de_add (de_mul (de_var 2 rfl (.inl rfl) (by decide)) (de_var 2 rfl (.inl rfl) (by decide))) (de_mul (de_int) (de_var 2 rfl (.inl rfl) (by decide)))) (de_var 1 rfl (.inl rfl) (by decide))) (de_int))))
theorem k_law_drawn (B : Bl G) (h : Here G "_law_drawn" s_law_drawn) : Kn G 1 "_law_drawn" 2 f_law_drawn := by
  obtain ⟨fa, fd, F, hm⟩ := h.ex
  have Sc : FnScope N_law_drawn ["_law_number", "_law_k"] (defScope s_law_drawn) := ⟨rfl, rfl, rfl, by decide +kernel, rfl, by decide +kernel, by decide +kernel⟩
  exact kn_of F Sc hm (F.binds (ps := ["_law_number", "_law_k"]) fun _ _ _ _ _ _ us hl => match us, hl with | [_, _], _ => rfl) rfl [] (by decide) (w_law_drawn B)
/-! law_marks -/
def N_law_marks : List Str := ["_law_number", "_law_many", "_law_share", "_law_mark"]
abbrev s_law_marks : Stmt := topS 25
def c_law_marks : XS := sSeq (sAsg (tN 2) (x2 dAdd (xC (.int 2)) (x2 dMod (xVar 0) (xC (.int 3))))) (sRet (xF dTuple [xLc (sRng (xVar 1)) (tN 3) [3] (x2 dEq (x2 dMod (xF f_law_drawn [xVar 0, xVar 3]) (xVar 2)) (xC (.int 0))) (xVar 3)]))
def f_law_marks : List D → Option D := fun ds => if ds.length = 2 then runD N_law_marks.length c_law_marks ds else none
theorem w_law_marks (B : Bl G) (K_law_drawn : Kn G 1 "_law_drawn" 2 f_law_drawn) : DSs G (staF N_law_marks (defScope s_law_marks) 1) [] (defBody s_law_marks) c_law_marks := dss_cons (ds_asg (de_add (de_int) (de_mod (de_var 0 rfl (.inr (.inl rfl)) (by decide)) (de_int))) (dg_name rfl (.inr rfl) (.inl rfl) (by decide))) (dss_one (ds_ret (de_tuple B.tuple_ rfl (de_lc [("_law_mark", 3)] (di_range B.range_ rfl (de_var 1 rfl (.inl rfl) (by decide))) (blkOk_by (by decide +kernel)) (by decide) (dg_name rfl (.inl rfl) (.inr rfl) (by decide)) (dts_one (dt_eq (de_mod (de_call K_law_drawn (by decide) rfl (da_cons (de_var 0 rfl (.inr (.inl rfl)) (by decide)) (da_cons (de_var 3 rfl (.inl rfl) (by decide)) da_nil))) (de_var 2 rfl (.inr (.inl rfl)) (by decide))) (de_int))) (de_var 3 rfl (.inl rfl) (by decide))))))
theorem k_law_marks (B : Bl G) (h : Here G "_law_marks" s_law_marks) (K_law_drawn : Kn G 1 "_law_drawn" 2 f_law_drawn) : Kn G 2 "_law_marks" 2 f_law_marks := by
  obtain ⟨fa, fd, F, hm⟩ := h.ex
  have Sc : FnScope N_law_marks ["_law_number", "_law_many"] (defScope s_law_marks) := ⟨rfl, rfl, rfl, by decide +kernel, rfl, by decide +kernel, by decide +kernel⟩
  exact kn_of F Sc hm (F.binds (ps := ["_law_number", "_law_many"]) fun _ _ _ _ _ _ us hl => match us, hl with | [_, _], _ => rfl) rfl [] (by decide) (w_law_marks B K_law_drawn)
/-! law_table -/
def N_law_table : List Str := ["_law_script", "_law_most", "_law_many", "_law_rows", "_law_k", "_law_row", "_law_mark"]
abbrev s_law_table : Stmt := topS 26
def c_law_table : XS := sSeq (sAsg (tN 2) (x2 dAdd (xC (.int 1)) (x2 dMod (xF f_law_mixed [xVar 0, xC (.int 0)]) (xVar 1)))) (sSeq (sOwn 3 []) (sSeq (sFor (sRng (xF dMin [x2 dMod (x2 dDiv (xF f_law_mixed [xVar 0, xC (.int 0)]) (xC (.int 6))) (xC (.int 9)), x2 dAdd (xC (.int 1)) (xF dLen [xVar 0])])) (tN 4) (sSeq (sAsg (tN 5) (xF f_law_marks [xF f_law_mixed [xVar 0, x2 dAdd (xC (.int 3)) (xVar 4)], xVar 2])) (sSeq (sIf (x2 dEq (x2 dMod (x2 dDiv (xF f_law_mixed [xVar 0, xC (.int 0)]) (xC (.int 54))) (xC (.int 2))) (xC (.int 1))) (sAsg (tN 5) (xF dTuple [xLc (sRng (xVar 2)) (tN 6) [6] (x2 dNotIn (xVar 6) (xVar 5)) (xVar 6)])) (sNext)) (sApp 3 (xVar 5))))) (sRet (xTup [xVar 2, xNo (xF dTuple [xVar 3])]))))
def f_law_table : List D → Option D := fun ds => if ds.length = 2 then runD N_law_table.length c_law_table ds else none
theorem w_law_table (B : Bl G) (K_law_mixed : Kn G 2 "_law_mixed" 2 f_law_mixed) (K_law_marks : Kn G 2 "_law_marks" 2 f_law_marks) : DSs G (staF N_law_table (defScope s_law_table) 2) [3] (defBody s_law_table) c_law_table := dss_cons (ds_asg (de_add (de_int) (de_mod (de_call K_law_mixed (by decide) rfl (da_cons (de_var 0 rfl (.inl rfl) (by decide)) (da_cons (de_int) da_nil))) (de_var 1 rfl (.inl rfl) (by decide)))) (dg_name rfl (.inl rfl) (.inl rfl) (by decide))) (dss_cons (ds_own rfl (.inl rfl) (.inl rfl) (by decide) (da_nil)) (dss_cons (ds_for (di_range B.range_ rfl (de_min B.min_ rfl (de_mod (de_div (de_call K_law_mixed (by decide) rfl (da_cons (de_var 0 rfl (.inl rfl) (by decide)) (da_cons (de_int) da_nil))) (de_int)) (de_int)) (de_add (de_int) (de_len B.len_ rfl (de_var 0 rfl (.inl rfl) (by decide)))))) (dg_name rfl (.inl rfl) (.inl rfl) (by decide)) (dss_cons (ds_asg (de_call K_law_marks (by decide) rfl (da_cons (de_call K_law_mixed (by decide) rfl (da_cons (de_var 0 rfl (.inl rfl) (by decide)) (da_cons (de_add (de_int) (de_var 4 rfl (.inl rfl) (by decide))) da_nil))) (da_cons (de_var 2 rfl (.inl rfl) (by decide)) da_nil))) (dg_name rfl (.inr rfl) (.inl rfl) (by decide))) (dss_cons (ds_if (dt_eq (de_mod (de_div (de_call K_law_mixed (by decide) rfl (da_cons (de_var 0 rfl (.inl rfl) (by decide)) (da_cons (de_int) da_nil))) (de_int)) (de_int)) (de_int)) (dss_one (ds_asg (de_tuple B.tuple_ rfl (de_lc [("_law_mark", 6)] (di_range B.range_ rfl (de_var 2 rfl (.inl rfl) (by decide))) (blkOk_by (by decide +kernel)) (by decide) (dg_name rfl (.inl rfl) (.inr rfl) (by decide)) (dts_one (dt_notIn (de_var 6 rfl (.inl rfl) (by decide)) (de_var 5 rfl (.inr (.inl rfl)) (by decide)))) (de_var 6 rfl (.inl rfl) (by decide)))) (dg_name rfl (.inr rfl) (.inl rfl) (by decide)))) (dss_nil)) (dss_one (ds_app rfl (.inl rfl) (by decide) (de_var 5 rfl (.inr (.inl rfl)) (by decide))))))) (dss_one (ds_ret (de_tup (da_cons (de_var 2 rfl (.inl rfl) (by decide)) (da_cons (de_no (de_tuple B.tuple_ rfl (de_var 3 rfl (.inl rfl) (by decide)))) da_nil)))))))
theorem k_law_table (B : Bl G) (h : Here G "_law_table" s_law_table) (K_law_mixed : Kn G 2 "_law_mixed" 2 f_law_mixed) (K_law_marks : Kn G 2 "_law_marks" 2 f_law_marks) : Kn G 3 "_law_table" 2 f_law_table := by
  obtain ⟨fa, fd, F, hm⟩ := h.ex
  have Sc : FnScope N_law_table ["_law_script", "_law_most"] (defScope s_law_table) := ⟨rfl, rfl, rfl, by decide +kernel, rfl, by decide +kernel, by decide +kernel⟩
  exact kn_of F Sc hm (F.binds (ps := ["_law_script", "_law_most"]) fun _ _ _ _ _ _ us hl => match us, hl with | [_, _], _ => rfl) rfl [3] (by decide) (w_law_table B K_law_mixed K_law_marks)
/-! has_all -/
def N_has_all : List Str := ["marks", "some", "mark"]
abbrev s_has_all : Stmt := topS 3
def c_has_all : XS := sRet (xF dAll [xLc (sSq (xVar 1)) (tN 2) [2] (xYes) (x2 dIn (xVar 2) (xVar 0))])
def f_has_all : List D → Option D := fun ds => if ds.length = 2 then runD N_has_all.length c_has_all ds else none
theorem w_has_all (B : Bl G) : DSs G (staF N_has_all (defScope s_has_all) 0) [] (defBody s_has_all) c_has_all := dss_one (ds_ret (de_all B.all_ rfl (de_lc [("mark", 2)] (di_seq (de_var 1 rfl (.inl rfl) (by decide))) (blkOk_by (by decide +kernel)) (by decide) (dg_name rfl (.inl rfl) (.inr rfl) (by decide)) (dts_nil) (de_in (de_var 2 rfl (.inl rfl) (by decide)) (de_var 0 rfl (.inr (.inl rfl)) (by decide))))))
theorem k_has_all (B : Bl G) (h : Here G "has_all" s_has_all) : Kn G 1 "has_all" 2 f_has_all := by
  obtain ⟨fa, fd, F, hm⟩ := h.ex
  have Sc : FnScope N_has_all ["marks", "some"] (defScope s_has_all) := ⟨rfl, rfl, rfl, by decide +kernel, rfl, by decide +kernel, by decide +kernel⟩
  exact kn_of F Sc hm (F.binds (ps := ["marks", "some"]) fun _ _ _ _ _ _ us hl => match us, hl with | [_, _], _ => rfl) rfl [] (by decide) (w_has_all B)
/-! having -/
def N_having : List Str := ["table", "marks", "thing", "row"]
abbrev s_having : Stmt := topS 8
def c_having : XS := sRet (xF dTuple [xLc (sEnu (x2 dIx (xVar 0) (xC (.int 1)))) (tT [2, 3]) [2, 3] (xF f_has_all [xVar 3, xVar 1]) (xVar 2)])
def f_having : List D → Option D := fun ds => if ds.length = 2 then runD N_having.length c_having ds else none
theorem w_having (B : Bl G) (K_has_all : Kn G 1 "has_all" 2 f_has_all) : DSs G (staF N_having (defScope s_having) 1) [] (defBody s_having) c_having := dss_one (ds_ret (de_tuple B.tuple_ rfl (de_lc [("thing", 2), ("row", 3)] (di_enum B.enumerate_ rfl (de_ix (de_var 0 rfl (.inl rfl) (by decide)) (de_int))) (blkOk_by (by decide +kernel)) (by decide) (dg_tup (dgs_cons (dg_name rfl (.inl rfl) (.inr rfl) (by decide)) (dgs_cons (dg_name rfl (.inl rfl) (.inr rfl) (by decide)) dgs_nil))) (dts_one (dt_val (de_call K_has_all (by decide) rfl (da_cons (de_var 3 rfl (.inl rfl) (by decide)) (da_cons (de_var 1 rfl (.inr (.inl rfl)) (by decide)) da_nil))))) (de_var 2 rfl (.inl rfl) (by decide)))))
theorem k_having (B : Bl G) (h : Here G "having" s_having) (K_has_all : Kn G 1 "has_all" 2 f_has_all) : Kn G 2 "having" 2 f_having := by
  obtain ⟨fa, fd, F, hm⟩ := h.ex
  have Sc : FnScope N_having ["table", "marks"] (defScope s_having) := ⟨rfl, rfl, rfl, by decide +kernel, rfl, by decide +kernel, by decide +kernel⟩
  exact kn_of F Sc hm (F.binds (ps := ["table", "marks"]) fun _ _ _ _ _ _ us hl => match us, hl with | [_, _], _ => rfl) rfl [] (by decide) (w_having B K_has_all)
/-! about -/
def N_about : List Str := ["table", "mark"]
abbrev s_about : Stmt := topS 14
def c_about : XS := sSeq (sIf (xNot (xChain dLe dLe (xC (.int 1)) (xF dLen [x2 dIx (xVar 0) (xC (.int 1))]) (xC (.int 6)))) (fun _ => none) (sNext)) (sRet (xTup [xF dLen [x2 dIx (xVar 0) (xC (.int 1))], xF dTuple [xLc (sRng (x2 dIx (xVar 0) (xC (.int 0)))) (tN 1) [1] (xYes) (xF f_having [xVar 0, xTup [xVar 1]])]]))
def f_about : List D → Option D := fun ds => if ds.length = 1 then runD N_about.length c_about ds else none
theorem w_about (B : Bl G) (K_having : Kn G 2 "having" 2 f_having) : DSs G (staF N_about (defScope s_about) 2) [] (defBody s_about) c_about := dss_cons (ds_if (dt_not (dt_lele (de_int) (de_len B.len_ rfl (de_ix (de_var 0 rfl (.inr (.inl rfl)) (by decide)) (de_int))) (de_globI B.MARKS_ rfl))) (dss_one (ds_never _)) (dss_nil)) (dss_one (ds_ret (de_tup (da_cons (de_len B.len_ rfl (de_ix (de_var 0 rfl (.inr (.inl rfl)) (by decide)) (de_int))) (da_cons (de_tuple B.tuple_ rfl (de_lc [("mark", 1)] (di_range B.range_ rfl (de_ix (de_var 0 rfl (.inr (.inl rfl)) (by decide)) (de_int))) (blkOk_by (by decide +kernel)) (by decide) (dg_name rfl (.inl rfl) (.inr rfl) (by decide)) (dts_nil) (de_call K_having (by decide) rfl (da_cons (de_var 0 rfl (.inr (.inl rfl)) (by decide)) (da_cons (de_tup (da_cons (de_var 1 rfl (.inl rfl) (by decide)) da_nil)) da_nil))))) da_nil)))))
theorem k_about (B : Bl G) (h : Here G "about" s_about) (K_having : Kn G 2 "having" 2 f_having) : Kn G 3 "about" 1 f_about := by
  obtain ⟨fa, fd, F, hm⟩ := h.ex
  have Sc : FnScope N_about ["table"] (defScope s_about) := ⟨rfl, rfl, rfl, by decide +kernel, rfl, by decide +kernel, by decide +kernel⟩
  exact kn_of F Sc hm (F.binds (ps := ["table"]) fun _ _ _ _ _ _ us hl => match us, hl with | [_], _ => rfl) rfl [] (by decide) (w_about B K_having)
/-! all_marks -/
def N_all_marks : List Str := ["many", "found", "ring", "size", "longer", "row", "low", "mark"]
abbrev s_all_marks : Stmt := topS 5
def c_all_marks : XS := sSeq (sOwn 1 [xTup []]) (sSeq (sAsg (tN 2) (xLst [xTup []])) (sSeq (sFor (sRng (xVar 0)) (tN 3) (sSeq (sOwn 4 []) (sSeq (sFor (sSq (xVar 2)) (tN 5) (sSeq (sAsg (tN 6) (xC (.int 0))) (sSeq (sIf (x2 dGt (xF dLen [xVar 5]) (xC (.int 0))) (sAsg (tN 6) (x2 dAdd (x2 dIx (xVar 5) (x1 dNeg (xC (.int 1)))) (xC (.int 1)))) (sNext)) (sExt 4 (xLc (sRng2 (xVar 6) (xVar 0)) (tN 7) [7] (xYes) (x2 dAdd (xVar 5) (xTup [xVar 7]))))))) (sSeq (sMove 2 4) (sExt 1 (xVar 2)))))) (sRetOwn 1)))
def f_all_marks : List D → Option D := fun ds => if ds.length = 1 then runD N_all_marks.length c_all_marks ds else none
theorem w_all_marks (B : Bl G) : DSs G (staF N_all_marks (defScope s_all_marks) 0) [1, 4] (defBody s_all_marks) c_all_marks := dss_cons (ds_own rfl (.inl rfl) (.inl rfl) (by decide) (da_cons (de_tup (da_nil)) da_nil)) (dss_cons (ds_asg (de_lst (da_cons (de_tup (da_nil)) da_nil)) (dg_name rfl (.inl rfl) (.inl rfl) (by decide))) (dss_cons (ds_for (di_range B.range_ rfl (de_var 0 rfl (.inl rfl) (by decide))) (dg_name rfl (.inl rfl) (.inl rfl) (by decide)) (dss_cons (ds_own rfl (.inl rfl) (.inl rfl) (by decide) (da_nil)) (dss_cons (ds_for (di_seq (de_var 2 rfl (.inl rfl) (by decide))) (dg_name rfl (.inr rfl) (.inl rfl) (by decide)) (dss_cons (ds_asg (de_int) (dg_name rfl (.inl rfl) (.inl rfl) (by decide))) (dss_cons (ds_if (dt_gt (de_len B.len_ rfl (de_var 5 rfl (.inr (.inl rfl)) (by decide))) (de_int)) (dss_one (ds_asg (de_add (de_ix (de_var 5 rfl (.inr (.inl rfl)) (by decide)) (de_neg (de_int))) (de_int)) (dg_name rfl (.inl rfl) (.inl rfl) (by decide)))) (dss_nil)) (dss_one (ds_ext rfl (.inl rfl) (by decide) (de_lc [("mark", 7)] (di_range2 B.range_ rfl (de_var 6 rfl (.inl rfl) (by decide)) (de_var 0 rfl (.inl rfl) (by decide))) (blkOk_by (by decide +kernel)) (by decide) (dg_name rfl (.inl rfl) (.inr rfl) (by decide)) (dts_nil) (de_add (de_var 5 rfl (.inr (.inl rfl)) (by decide)) (de_tup (da_cons (de_var 7 rfl (.inl rfl) (by decide)) da_nil))))))))) (dss_cons (ds_move rfl (.inl rfl) (by decide) rfl (.inl rfl) (.inl rfl) (by decide)) (dss_one (ds_ext rfl (.inl rfl) (by decide) (de_var 2 rfl (.inl rfl) (by decide)))))))) (dss_one (ds_retOwn rfl (.inl rfl) (by decide)))))
theorem k_all_marks (B : Bl G) (h : Here G "all_marks" s_all_marks) : Kn G 1 "all_marks" 1 f_all_marks := by
  obtain ⟨fa, fd, F, hm⟩ := h.ex
  have Sc : FnScope N_all_marks ["many"] (defScope s_all_marks) := ⟨rfl, rfl, rfl, by decide +kernel, rfl, by decide +kernel, by decide +kernel⟩
  exact kn_of F Sc hm (F.binds (ps := ["many"]) fun _ _ _ _ _ _ us hl => match us, hl with | [_], _ => rfl) rfl [1, 4] (by decide) (w_all_marks B)
/-! shared -/
def N_shared : List Str := ["table", "things", "mark", "thing"]
abbrev s_shared : Stmt := topS 7
def c_shared : XS := sRet (xF dTuple [xLc (sRng (x2 dIx (xVar 0) (xC (.int 0)))) (tN 2) [2] (xF dAll [xLc (sSq (xVar 1)) (tN 3) [3] (xYes) (x2 dIn (xVar 2) (x2 dIx (x2 dIx (xVar 0) (xC (.int 1))) (xVar 3)))]) (xVar 2)])
def f_shared : List D → Option D := fun ds => if ds.length = 2 then runD N_shared.length c_shared ds else none
theorem w_shared (B : Bl G) : DSs G (staF N_shared (defScope s_shared) 0) [] (defBody s_shared) c_shared := dss_one (ds_ret (de_tuple B.tuple_ rfl (de_lc [("mark", 2)] (di_range B.range_ rfl (de_ix (de_var 0 rfl (.inr (.inl rfl)) (by decide)) (de_int))) (blkOk_by (by decide +kernel)) (by decide) (dg_name rfl (.inr rfl) (.inl rfl) (by decide)) (dts_one (dt_val (de_all B.all_ rfl (de_lc [("thing", 3)] (di_seq (de_var 1 rfl (.inr (.inl rfl)) (by decide))) (blkOk_by (by decide +kernel)) (by decide) (dg_name rfl (.inl rfl) (.inr rfl) (by decide)) (dts_nil) (de_in (de_var 2 rfl (.inr (.inl rfl)) (by decide)) (de_ix (de_ix (de_var 0 rfl (.inr (.inl rfl)) (by decide)) (de_int)) (de_var 3 rfl (.inl rfl) (by decide)))))))) (de_var 2 rfl (.inr (.inl rfl)) (by decide)))))
theorem k_shared (B : Bl G) (h : Here G "shared" s_shared) : Kn G 1 "shared" 2 f_shared := by
  obtain ⟨fa, fd, F, hm⟩ := h.ex
  have Sc : FnScope N_shared ["table", "things"] (defScope s_shared) := ⟨rfl, rfl, rfl, by decide +kernel, rfl, by decide +kernel, by decide +kernel⟩
  exact kn_of F Sc hm (F.binds (ps := ["table", "things"]) fun _ _ _ _ _ _ us hl => match us, hl with | [_, _], _ => rfl) rfl [] (by decide) (w_shared B)
/-! closed -/
def N_closed : List Str := ["table", "marks"]
abbrev s_closed : Stmt := topS 9
def c_closed : XS := sRet (xF f_shared [xVar 0, xF f_having [xVar 0, xVar 1]])
def f_closed : List D → Option D := fun ds => if ds.length = 2 then runD N_closed.length c_closed ds else none
theorem w_closed (B : Bl G) (K_shared : Kn G 1 "shared" 2 f_shared) (K_having : Kn G 2 "having" 2 f_having) : DSs G (staF N_closed (defScope s_closed) 2) [] (defBody s_closed) c_closed := dss_one (ds_ret (de_call K_shared (by decide) rfl (da_cons (de_var 0 rfl (.inl rfl) (by decide)) (da_cons (de_call K_having (by decide) rfl (da_cons (de_var 0 rfl (.inl rfl) (by decide)) (da_cons (de_var 1 rfl (.inl rfl) (by decide)) da_nil))) da_nil))))
theorem k_closed (B : Bl G) (h : Here G "closed" s_closed) (K_shared : Kn G 1 "shared" 2 f_shared) (K_having : Kn G 2 "having" 2 f_having) : Kn G 3 "closed" 2 f_closed := by
  obtain ⟨fa, fd, F, hm⟩ := h.ex
  have Sc : FnScope N_closed ["table", "marks"] (defScope s_closed) := ⟨rfl, rfl, rfl, by decide +kernel, rfl, by decide +kernel, by decide +kernel⟩
  exact kn_of F Sc hm (F.binds (ps := ["table", "marks"]) fun _ _ _ _ _ _ us hl => match us, hl with | [_, _], _ => rfl) rfl [] (by decide) (w_closed B K_shared K_having)
/-! notions -/
def N_notions : List Str := ["table", "found", "marks"]
abbrev s_notions : Stmt := topS 20
def c_notions : XS := sSeq (sOwn 1 []) (sSeq (sFor (sSq (xF f_all_marks [x2 dIx (xVar 0) (xC (.int 0))])) (tN 2) (sIf (x2 dEq (xF f_closed [xVar 0, xVar 2]) (xVar 2)) (sApp 1 (xTup [xF f_having [xVar 0, xVar 2], xVar 2])) (sNext))) (sRet (xNo (xF dTuple [xVar 1]))))
def f_notions : List D → Option D := fun ds => if ds.length = 1 then runD N_notions.length c_notions ds else none
theorem w_notions (B : Bl G) (K_all_marks : Kn G 1 "all_marks" 1 f_all_marks) (K_closed : Kn G 3 "closed" 2 f_closed) (K_having : Kn G 2 "having" 2 f_having) : DSs G (staF N_notions (defScope s_notions) 3) [1] (defBody s_notions) c_notions := dss_cons (ds_own rfl (.inl rfl) (.inl rfl) (by decide) (da_nil)) (dss_cons (ds_for (di_seq (de_call K_all_marks (by decide) rfl (da_cons (de_ix (de_var 0 rfl (.inl rfl) (by decide)) (de_int)) da_nil))) (dg_name rfl (.inl rfl) (.inl rfl) (by decide)) (dss_one (ds_if (dt_eq (de_call K_closed (by decide) rfl (da_cons (de_var 0 rfl (.inl rfl) (by decide)) (da_cons (de_var 2 rfl (.inl rfl) (by decide)) da_nil))) (de_var 2 rfl (.inl rfl) (by decide))) (dss_one (ds_app rfl (.inl rfl) (by decide) (de_tup (da_cons (de_call K_having (by decide) rfl (da_cons (de_var 0 rfl (.inl rfl) (by decide)) (da_cons (de_var 2 rfl (.inl rfl) (by decide)) da_nil))) (da_cons (de_var 2 rfl (.inl rfl) (by decide)) da_nil))))) (dss_nil)))) (dss_one (ds_ret (de_no (de_tuple B.tuple_ rfl (de_var 1 rfl (.inl rfl) (by decide)))))))
theorem k_notions (B : Bl G) (h : Here G "notions" s_notions) (K_all_marks : Kn G 1 "all_marks" 1 f_all_marks) (K_closed : Kn G 3 "closed" 2 f_closed) (K_having : Kn G 2 "having" 2 f_having) : Kn G 4 "notions" 1 f_notions := by
  obtain ⟨fa, fd, F, hm⟩ := h.ex
  have Sc : FnScope N_notions ["table"] (defScope s_notions) := ⟨rfl, rfl, rfl, by decide +kernel, rfl, by decide +kernel, by decide +kernel⟩
  exact kn_of F Sc hm (F.binds (ps := ["table"]) fun _ _ _ _ _ _ us hl => match us, hl with | [_], _ => rfl) rfl [1] (by decide) (w_notions B K_all_marks K_closed K_having)
/-! is_less -/
def N_is_less : List Str := ["some", "marks"]
abbrev s_is_less : Stmt := topS 4
def c_is_less : XS := sRet (xAnd (x2 dNe (xVar 0) (xVar 1)) (xF f_has_all [xVar 1, xVar 0]))
def f_is_less : List D → Option D := fun ds => if ds.length = 2 then runD N_is_less.length c_is_less ds else none
theorem w_is_less (B : Bl G) (K_has_all : Kn G 1 "has_all" 2 f_has_all) : DSs G (staF N_is_less (defScope s_is_less) 1) [] (defBody s_is_less) c_is_less := dss_one (ds_ret (de_and (de_ne (de_var 0 rfl (.inl rfl) (by decide)) (de_var 1 rfl (.inl rfl) (by decide))) (de_one (de_call K_has_all (by decide) rfl (da_cons (de_var 1 rfl (.inl rfl) (by decide)) (da_cons (de_var 0 rfl (.inl rfl) (by decide)) da_nil))))))
theorem k_is_less (B : Bl G) (h : Here G "is_less" s_is_less) (K_has_all : Kn G 1 "has_all" 2 f_has_all) : Kn G 2 "is_less" 2 f_is_less := by
  obtain ⟨fa, fd, F, hm⟩ := h.ex
  have Sc : FnScope N_is_less ["some", "marks"] (defScope s_is_less) := ⟨rfl, rfl, rfl, by decide +kernel, rfl, by decide +kernel, by decide +kernel⟩
  exact kn_of F Sc hm (F.binds (ps := ["some", "marks"]) fun _ _ _ _ _ _ us hl => match us, hl with | [_, _], _ => rfl) rfl [] (by decide) (w_is_less B K_has_all)
/-! is_shared_by_greater -/
def N_is_shared_by_greater : List Str := ["row", "rows", "many", "greater", "other", "mark"]
abbrev s_is_shared_by_greater : Stmt := topS 17
def c_is_shared_by_greater : XS := sSeq (sAsg (tN 3) (xLc (sSq (xVar 1)) (tN 4) [4] (xF f_is_less [xVar 0, xVar 4]) (xVar 4))) (sRet (x2 dEq (xVar 0) (xF dTuple [xLc (sRng (xVar 2)) (tN 5) [5] (xF dAll [xLc (sSq (xVar 3)) (tN 4) [4] (xYes) (x2 dIn (xVar 5) (xVar 4))]) (xVar 5)])))
def f_is_shared_by_greater : List D → Option D := fun ds => if ds.length = 3 then runD N_is_shared_by_greater.length c_is_shared_by_greater ds else none
theorem w_is_shared_by_greater (B : Bl G) (K_is_less : Kn G 2 "is_less" 2 f_is_less) : DSs G (staF N_is_shared_by_greater (defScope s_is_shared_by_greater) 2) [] (defBody s_is_shared_by_greater) c_is_shared_by_greater := dss_cons (ds_cellLc rfl rfl (by decide) rfl (de_lc [("other", 4)] (di_seq (de_var 1 rfl (.inl rfl) (by decide))) (blkOk_by (by decide +kernel)) (by decide) (dg_name rfl (.inl rfl) (.inr rfl) (by decide)) (dts_one (dt_val (de_call K_is_less (by decide) rfl (da_cons (de_var 0 rfl (.inr (.inl rfl)) (by decide)) (da_cons (de_var 4 rfl (.inl rfl) (by decide)) da_nil))))) (de_var 4 rfl (.inl rfl) (by decide)))) (dss_one (ds_ret (de_eq (de_var 0 rfl (.inr (.inl rfl)) (by decide)) (de_tuple B.tuple_ rfl (de_lc [("mark", 5)] (di_range B.range_ rfl (de_var 2 rfl (.inl rfl) (by decide))) (blkOk_by (by decide +kernel)) (by decide) (dg_name rfl (.inr rfl) (.inl rfl) (by decide)) (dts_one (dt_val (de_all B.all_ rfl (de_lc [("other", 4)] (di_seq (de_var 3 rfl (.inr (.inl rfl)) (by decide))) (blkOk_by (by decide +kernel)) (by decide) (dg_name rfl (.inl rfl) (.inr rfl) (by decide)) (dts_nil) (de_in (de_var 5 rfl (.inr (.inl rfl)) (by decide)) (de_var 4 rfl (.inl rfl) (by decide))))))) (de_var 5 rfl (.inr (.inl rfl)) (by decide)))))))
theorem k_is_shared_by_greater (B : Bl G) (h : Here G "is_shared_by_greater" s_is_shared_by_greater) (K_is_less : Kn G 2 "is_less" 2 f_is_less) : Kn G 3 "is_shared_by_greater" 3 f_is_shared_by_greater := by
  obtain ⟨fa, fd, F, hm⟩ := h.ex
  have Sc : FnScope N_is_shared_by_greater ["row", "rows", "many"] (defScope s_is_shared_by_greater) := ⟨rfl, rfl, rfl, by decide +kernel, rfl, by decide +kernel, by decide +kernel⟩
  exact kn_of F Sc hm (F.binds (ps := ["row", "rows", "many"]) fun _ _ _ _ _ _ us hl => match us, hl with | [_, _, _], _ => rfl) rfl [] (by decide) (w_is_shared_by_greater B K_is_less)
/-! plain -/
def N_plain : List Str := ["table", "rows", "found", "row"]
abbrev s_plain : Stmt := topS 18
def c_plain : XS := sSeq (sAsg (tN 1) (x2 dIx (xVar 0) (xC (.int 1)))) (sSeq (sOwn 2 []) (sSeq (sFor (sSq (xF f_all_marks [x2 dIx (xVar 0) (xC (.int 0))])) (tN 3) (sIf (xAnd (x2 dIn (xVar 3) (xVar 1)) (xNot (xF f_is_shared_by_greater [xVar 3, xVar 1, x2 dIx (xVar 0) (xC (.int 0))]))) (sApp 2 (xVar 3)) (sNext))) (sRet (xTup [x2 dIx (xVar 0) (xC (.int 0)), xNo (xF dTuple [xVar 2])]))))
def f_plain : List D → Option D := fun ds => if ds.length = 1 then runD N_plain.length c_plain ds else none
theorem w_plain (B : Bl G) (K_all_marks : Kn G 1 "all_marks" 1 f_all_marks) (K_is_shared_by_greater : Kn G 3 "is_shared_by_greater" 3 f_is_shared_by_greater) : DSs G (staF N_plain (defScope s_plain) 3) [2] (defBody s_plain) c_plain := dss_cons (ds_asg (de_ix (de_var 0 rfl (.inl rfl) (by decide)) (de_int)) (dg_name rfl (.inl rfl) (.inl rfl) (by decide))) (dss_cons (ds_own rfl (.inl rfl) (.inl rfl) (by decide) (da_nil)) (dss_cons (ds_for (di_seq (de_call K_all_marks (by decide) rfl (da_cons (de_ix (de_var 0 rfl (.inl rfl) (by decide)) (de_int)) da_nil))) (dg_name rfl (.inl rfl) (.inl rfl) (by decide)) (dss_one (ds_if (DW.dt (dw_and (dt_in (de_var 3 rfl (.inl rfl) (by decide)) (de_var 1 rfl (.inl rfl) (by decide))) (dw_and1 (dt_not (dt_val (de_call K_is_shared_by_greater (by decide) rfl (da_cons (de_var 3 rfl (.inl rfl) (by decide)) (da_cons (de_var 1 rfl (.inl rfl) (by decide)) (da_cons (de_ix (de_var 0 rfl (.inl rfl) (by decide)) (de_int)) da_nil))))))))) (dss_one (ds_app rfl (.inl rfl) (by decide) (de_var 3 rfl (.inl rfl) (by decide)))) (dss_nil)))) (dss_one (ds_ret (de_tup (da_cons (de_ix (de_var 0 rfl (.inl rfl) (by decide)) (de_int)) (da_cons (de_no (de_tuple B.tuple_ rfl (de_var 2 rfl (.inl rfl) (by decide)))) da_nil)))))))
theorem k_plain (B : Bl G) (h : Here G "plain" s_plain) (K_all_marks : Kn G 1 "all_marks" 1 f_all_marks) (K_is_shared_by_greater : Kn G 3 "is_shared_by_greater" 3 f_is_shared_by_greater) : Kn G 4 "plain" 1 f_plain := by
  obtain ⟨fa, fd, F, hm⟩ := h.ex
  have Sc : FnScope N_plain ["table"] (defScope s_plain) := ⟨rfl, rfl, rfl, by decide +kernel, rfl, by decide +kernel, by decide +kernel⟩
  exact kn_of F Sc hm (F.binds (ps := ["table"]) fun _ _ _ _ _ _ us hl => match us, hl with | [_], _ => rfl) rfl [2] (by decide) (w_plain B K_all_marks K_is_shared_by_greater)
/-! law_marks_of -/
def N_law_marks_of : List Str := ["_law_table_here", "_law_notion"]
abbrev s_law_marks_of : Stmt := topS 29
def c_law_marks_of : XS := sRet (xLc (sSq (xF f_notions [xVar 0])) (tN 1) [1] (xYes) (x2 dIx (xVar 1) (xC (.int 1))))
def f_law_marks_of : List D → Option D := fun ds => if ds.length = 1 then runD N_law_marks_of.length c_law_marks_of ds else none
theorem w_law_marks_of (B : Bl G) (K_notions : Kn G 4 "notions" 1 f_notions) : DSs G (staF N_law_marks_of (defScope s_law_marks_of) 4) [] (defBody s_law_marks_of) c_law_marks_of := dss_one (ds_ret (de_lc [("_law_notion", 1)] (di_seq (de_call K_notions (by decide) rfl (da_cons (de_var 0 rfl (.inl rfl) (by decide)) da_nil))) (blkOk_by (by decide +kernel)) (by decide) (dg_name rfl (.inl rfl) (.inr rfl) (by decide)) (dts_nil) (de_ix (de_var 1 rfl (.inl rfl) (by decide)) (de_int))))
theorem k_law_marks_of (B : Bl G) (h : Here G "_law_marks_of" s_law_marks_of) (K_notions : Kn G 4 "notions" 1 f_notions) : Kn G 5 "_law_marks_of" 1 f_law_marks_of := by
  obtain ⟨fa, fd, F, hm⟩ := h.ex
  have Sc : FnScope N_law_marks_of ["_law_table_here"] (defScope s_law_marks_of) := ⟨rfl, rfl, rfl, by decide +kernel, rfl, by decide +kernel, by decide +kernel⟩
  exact kn_of F Sc hm (F.binds (ps := ["_law_table_here"]) fun _ _ _ _ _ _ us hl => match us, hl with | [_], _ => rfl) rfl [] (by decide) (w_law_marks_of B K_notions)
/-! beside -/
def N_beside : List Str := ["one", "other"]
abbrev s_beside : Stmt := topS 16
def c_beside : XS := sSeq (sIf (xOr (x2 dNe (x2 dIx (xVar 0) (xC (.int 0))) (x2 dIx (xVar 1) (xC (.int 0)))) (x2 dGt (x2 dAdd (xF dLen [x2 dIx (xVar 0) (xC (.int 1))]) (xF dLen [x2 dIx (xVar 1) (xC (.int 1))])) (xC (.int 64)))) (fun _ => none) (sNext)) (sRet (xTup [x2 dIx (xVar 0) (xC (.int 0)), x2 dAdd (x2 dIx (xVar 0) (xC (.int 1))) (x2 dIx (xVar 1) (xC (.int 1)))]))
def f_beside : List D → Option D := fun ds => if ds.length = 2 then runD N_beside.length c_beside ds else none
theorem w_beside (B : Bl G) : DSs G (staF N_beside (defScope s_beside) 0) [] (defBody s_beside) c_beside := dss_cons (ds_if (DW.dt (dw_or (dt_ne (de_ix (de_var 0 rfl (.inl rfl) (by decide)) (de_int)) (de_ix (de_var 1 rfl (.inl rfl) (by decide)) (de_int))) (dw_or1 (dt_gt (de_add (de_len B.len_ rfl (de_ix (de_var 0 rfl (.inl rfl) (by decide)) (de_int))) (de_len B.len_ rfl (de_ix (de_var 1 rfl (.inl rfl) (by decide)) (de_int)))) (de_globI B.ROWS_ rfl))))) (dss_one (ds_never _)) (dss_nil)) (dss_one (ds_ret (de_tup (da_cons (de_ix (de_var 0 rfl (.inl rfl) (by decide)) (de_int)) (da_cons (de_add (de_ix (de_var 0 rfl (.inl rfl) (by decide)) (de_int)) (de_ix (de_var 1 rfl (.inl rfl) (by decide)) (de_int))) da_nil)))))
theorem k_beside (B : Bl G) (h : Here G "beside" s_beside) : Kn G 1 "beside" 2 f_beside := by
  obtain ⟨fa, fd, F, hm⟩ := h.ex
  have Sc : FnScope N_beside ["one", "other"] (defScope s_beside) := ⟨rfl, rfl, rfl, by decide +kernel, rfl, by decide +kernel, by decide +kernel⟩
  exact kn_of F Sc hm (F.binds (ps := ["one", "other"]) fun _ _ _ _ _ _ us hl => match us, hl with | [_, _], _ => rfl) rfl [] (by decide) (w_beside B)
/-! only -/
def N_only : List Str := ["table", "marks", "rows", "row", "at", "mark"]
abbrev s_only : Stmt := topS 15
def c_only : XS := sSeq (sIf (x2 dEq (xF dLen [xVar 1]) (xC (.int 0))) (fun _ => none) (sNext)) (sSeq (sOwn 2 []) (sSeq (sFor (sSq (x2 dIx (xVar 0) (xC (.int 1)))) (tN 3) (sApp 2 (xF dTuple [xLc (sEnu (xVar 1)) (tT [4, 5]) [4, 5] (x2 dIn (xVar 5) (xVar 3)) (xVar 4)]))) (sRet (xTup [xF dLen [xVar 1], xNo (xF dTuple [xVar 2])]))))
def f_only : List D → Option D := fun ds => if ds.length = 2 then runD N_only.length c_only ds else none
theorem w_only (B : Bl G) : DSs G (staF N_only (defScope s_only) 0) [2] (defBody s_only) c_only := dss_cons (ds_if (dt_eq (de_len B.len_ rfl (de_var 1 rfl (.inl rfl) (by decide))) (de_int)) (dss_one (ds_never _)) (dss_nil)) (dss_cons (ds_own rfl (.inl rfl) (.inl rfl) (by decide) (da_nil)) (dss_cons (ds_for (di_seq (de_ix (de_var 0 rfl (.inl rfl) (by decide)) (de_int))) (dg_name rfl (.inr rfl) (.inl rfl) (by decide)) (dss_one (ds_app rfl (.inl rfl) (by decide) (de_tuple B.tuple_ rfl (de_lc [("at", 4), ("mark", 5)] (di_enum B.enumerate_ rfl (de_var 1 rfl (.inl rfl) (by decide))) (blkOk_by (by decide +kernel)) (by decide) (dg_tup (dgs_cons (dg_name rfl (.inl rfl) (.inr rfl) (by decide)) (dgs_cons (dg_name rfl (.inl rfl) (.inr rfl) (by decide)) dgs_nil))) (dts_one (dt_in (de_var 5 rfl (.inl rfl) (by decide)) (de_var 3 rfl (.inr (.inl rfl)) (by decide)))) (de_var 4 rfl (.inl rfl) (by decide))))))) (dss_one (ds_ret (de_tup (da_cons (de_len B.len_ rfl (de_var 1 rfl (.inl rfl) (by decide))) (da_cons (de_no (de_tuple B.tuple_ rfl (de_var 2 rfl (.inl rfl) (by decide)))) da_nil)))))))
theorem k_only (B : Bl G) (h : Here G "only" s_only) : Kn G 1 "only" 2 f_only := by
  obtain ⟨fa, fd, F, hm⟩ := h.ex
  have Sc : FnScope N_only ["table", "marks"] (defScope s_only) := ⟨rfl, rfl, rfl, by decide +kernel, rfl, by decide +kernel, by decide +kernel⟩
  exact kn_of F Sc hm (F.binds (ps := ["table", "marks"]) fun _ _ _ _ _ _ us hl => match us, hl with | [_, _], _ => rfl) rfl [2] (by decide) (w_only B)
/-! law -/
def N_law : List Str := ["_law_script", "_law_table_here", "_law_many", "_law_small", "_law_due", "_law_k", "_law_marks_here", "_law_cut", "_law_row", "_law_turned", "_law_things"]
abbrev s_law : Stmt := topS 30
def c_law : XS := sSeq (sAsg (tN 1) (xF f_law_table [xVar 0, xC (.int 6)])) (sSeq (sAsg (tN 2) (x2 dIx (xVar 1) (xC (.int 0)))) (sSeq (sIf (xChain dLt dLt (xC (.int 0)) (xF dLen [x2 dIx (xVar 1) (xC (.int 1))]) (xC (.int 7))) (sSeq (sAsg (tN 9) (xF f_about [xVar 1])) (sSeq (sIf (x2 dNe (xF f_about [xVar 9]) (xVar 1)) (sRet (xC (.bool false))) (sNext)) (sIf (x2 dNe (xF dSortV [xF f_notions [xVar 9]]) (xF dSortV [xLc (sSq (xF f_notions [xVar 1])) (tT [10, 6]) [10, 6] (xYes) (xTup [xVar 6, xVar 10])])) (sRet (xC (.bool false))) (sNext)))) (sNext)) (sSeq (sAsg (tN 3) (xF f_plain [xVar 1])) (sSeq (sAsg (tN 4) (xF f_law_marks_of [xVar 1])) (sSeq (sIf (xOr (x2 dNe (xF f_law_marks_of [xVar 3]) (xVar 4)) (x2 dNe (xF f_law_marks_of [xF f_beside [xVar 1, xVar 1]]) (xVar 4))) (sRet (xC (.bool false))) (sNext)) (sSeq (sFor (sRng (xF dLen [x2 dIx (xVar 3) (xC (.int 1))])) (tN 5) (sIf (x2 dEq (xF f_law_marks_of [xTup [xVar 2, x2 dAdd (xSl (x2 dIx (xVar 3) (xC (.int 1))) none (some (xVar 5))) (xSl (x2 dIx (xVar 3) (xC (.int 1))) (some (x2 dAdd (xVar 5) (xC (.int 1)))) none)]]) (xVar 4)) (sRet (xC (.bool false))) (sNext))) (sSeq (sAsg (tN 6) (xF f_law_marks [xF f_law_mixed [xVar 0, xC (.int 12)], xVar 2])) (sSeq (sIf (x2 dEq (xVar 6) (xTup [])) (sRet (xC (.bool true))) (sNext)) (sSeq (sOwn 7 []) (sSeq (sFor (sSq (xVar 4)) (tN 8) (sApp 7 (xF dTuple [xLc (sRng (xF dLen [xVar 6])) (tN 5) [5] (x2 dIn (x2 dIx (xVar 6) (xVar 5)) (xVar 8)) (xVar 5)]))) (sRet (xNo (x2 dEq (xF dSortV [xF f_law_marks_of [xF f_only [xVar 1, xVar 6]]]) (x1 dSortSetW (xVar 7)))))))))))))))
def f_law : List D → Option D := fun ds => if ds.length = 1 then runD N_law.length c_law ds else none
theorem w_law (B : Bl G) (K_law_table : Kn G 3 "_law_table" 2 f_law_table) (K_about : Kn G 3 "about" 1 f_about) (K_notions : Kn G 4 "notions" 1 f_notions) (K_plain : Kn G 4 "plain" 1 f_plain) (K_law_marks_of : Kn G 5 "_law_marks_of" 1 f_law_marks_of) (K_beside : Kn G 1 "beside" 2 f_beside) (K_law_marks : Kn G 2 "_law_marks" 2 f_law_marks) (K_law_mixed : Kn G 2 "_law_mixed" 2 f_law_mixed) (K_only : Kn G 1 "only" 2 f_only) : DSs G (staF N_law (defScope s_law) 5) [7] (defBody s_law) c_law := dss_cons (ds_asg (de_call K_law_table (by decide) rfl (da_cons (de_var 0 rfl (.inl rfl) (by decide)) (da_cons (de_int) da_nil))) (dg_name rfl (.inl rfl) (.inl rfl) (by decide))) (dss_cons (ds_asg (de_ix (de_var 1 rfl (.inl rfl) (by decide)) (de_int)) (dg_name rfl (.inl rfl) (.inl rfl) (by decide))) (dss_cons (ds_if (dt_ltlt (de_int) (de_len B.len_ rfl (de_ix (de_var 1 rfl (.inl rfl) (by decide)) (de_int))) (de_int)) (dss_cons (ds_asg (de_call K_about (by decide) rfl (da_cons (de_var 1 rfl (.inl rfl) (by decide)) da_nil)) (dg_name rfl (.inl rfl) (.inl rfl) (by decide))) (dss_cons (ds_if (dt_ne (de_call K_about (by decide) rfl (da_cons (de_var 9 rfl (.inl rfl) (by decide)) da_nil)) (de_var 1 rfl (.inl rfl) (by decide))) (dss_one (ds_ret (de_bool))) (dss_nil)) (dss_one (ds_if (dt_ne (de_sortV B.sorted_ rfl (de_call K_notions (by decide) rfl (da_cons (de_var 9 rfl (.inl rfl) (by decide)) da_nil))) (de_sortV B.sorted_ rfl (de_lc [("_law_things", 10), ("_law_marks_here", 6)] (di_seq (de_call K_notions (by decide) rfl (da_cons (de_var 1 rfl (.inl rfl) (by decide)) da_nil))) (blkOk_by (by decide +kernel)) (by decide) (dg_tup (dgs_cons (dg_name rfl (.inl rfl) (.inr rfl) (by decide)) (dgs_cons (dg_name rfl (.inl rfl) (.inr rfl) (by decide)) dgs_nil))) (dts_nil) (de_tup (da_cons (de_var 6 rfl (.inl rfl) (by decide)) (da_cons (de_var 10 rfl (.inl rfl) (by decide)) da_nil)))))) (dss_one (ds_ret (de_bool))) (dss_nil))))) (dss_nil)) (dss_cons (ds_asg (de_call K_plain (by decide) rfl (da_cons (de_var 1 rfl (.inl rfl) (by decide)) da_nil)) (dg_name rfl (.inl rfl) (.inl rfl) (by decide))) (dss_cons (ds_asg (de_call K_law_marks_of (by decide) rfl (da_cons (de_var 1 rfl (.inl rfl) (by decide)) da_nil)) (dg_name rfl (.inl rfl) (.inl rfl) (by decide))) (dss_cons (ds_if (DW.dt (dw_or (dt_ne (de_call K_law_marks_of (by decide) rfl (da_cons (de_var 3 rfl (.inl rfl) (by decide)) da_nil)) (de_var 4 rfl (.inl rfl) (by decide))) (dw_or1 (dt_ne (de_call K_law_marks_of (by decide) rfl (da_cons (de_call K_beside (by decide) rfl (da_cons (de_var 1 rfl (.inl rfl) (by decide)) (da_cons (de_var 1 rfl (.inl rfl) (by decide)) da_nil))) da_nil)) (de_var 4 rfl (.inl rfl) (by decide)))))) (dss_one (ds_ret (de_bool))) (dss_nil)) (dss_cons (ds_for (di_range B.range_ rfl (de_len B.len_ rfl (de_ix (de_var 3 rfl (.inl rfl) (by decide)) (de_int)))) (dg_name rfl (.inl rfl) (.inl rfl) (by decide)) (dss_one (ds_if (dt_eq (de_call K_law_marks_of (by decide) rfl (da_cons (de_tup (da_cons (de_var 2 rfl (.inl rfl) (by decide)) (da_cons (de_add (de_slice (de_ix (de_var 3 rfl (.inl rfl) (by decide)) (de_int)) (do_none) (do_some (de_var 5 rfl (.inl rfl) (by decide)))) (de_slice (de_ix (de_var 3 rfl (.inl rfl) (by decide)) (de_int)) (do_some (de_add (de_var 5 rfl (.inl rfl) (by decide)) (de_int))) (do_none))) da_nil))) da_nil)) (de_var 4 rfl (.inl rfl) (by decide))) (dss_one (ds_ret (de_bool))) (dss_nil)))) (dss_cons (ds_asg (de_call K_law_marks (by decide) rfl (da_cons (de_call K_law_mixed (by decide) rfl (da_cons (de_var 0 rfl (.inl rfl) (by decide)) (da_cons (de_int) da_nil))) (da_cons (de_var 2 rfl (.inl rfl) (by decide)) da_nil))) (dg_name rfl (.inr rfl) (.inl rfl) (by decide))) (dss_cons (ds_if (dt_eq (de_var 6 rfl (.inr (.inl rfl)) (by decide)) (de_tup (da_nil))) (dss_one (ds_ret (de_bool))) (dss_nil)) (dss_cons (ds_own rfl (.inl rfl) (.inl rfl) (by decide) (da_nil)) (dss_cons (ds_for (di_seq (de_var 4 rfl (.inl rfl) (by decide))) (dg_name rfl (.inr rfl) (.inl rfl) (by decide)) (dss_one (ds_app rfl (.inl rfl) (by decide) (de_tuple B.tuple_ rfl (de_lc [("_law_k", 5)] (di_range B.range_ rfl (de_len B.len_ rfl (de_var 6 rfl (.inr (.inl rfl)) (by decide)))) (blkOk_by (by decide +kernel)) (by decide) (dg_name rfl (.inl rfl) (.inr rfl) (by decide)) (dts_one (dt_in (de_ix (de_var 6 rfl (.inr (.inl rfl)) (by decide)) (de_var 5 rfl (.inl rfl) (by decide))) (de_var 8 rfl (.inr (.inl rfl)) (by decide)))) (de_var 5 rfl (.inl rfl) (by decide))))))) (dss_one (ds_ret (de_no (de_eq (de_sortV B.sorted_ rfl (de_call K_law_marks_of (by decide) rfl (da_cons (de_call K_only (by decide) rfl (da_cons (de_var 1 rfl (.inl rfl) (by decide)) (da_cons (de_var 6 rfl (.inr (.inl rfl)) (by decide)) da_nil))) da_nil))) (de_sortedSetW B.sorted_ rfl B.set_ rfl (de_var 7 rfl (.inl rfl) (by decide)))))))))))))))))
theorem k_law (B : Bl G) (h : Here G "law" s_law) (K_law_table : Kn G 3 "_law_table" 2 f_law_table) (K_about : Kn G 3 "about" 1 f_about) (K_notions : Kn G 4 "notions" 1 f_notions) (K_plain : Kn G 4 "plain" 1 f_plain) (K_law_marks_of : Kn G 5 "_law_marks_of" 1 f_law_marks_of) (K_beside : Kn G 1 "beside" 2 f_beside) (K_law_marks : Kn G 2 "_law_marks" 2 f_law_marks) (K_law_mixed : Kn G 2 "_law_mixed" 2 f_law_mixed) (K_only : Kn G 1 "only" 2 f_only) : Kn G 6 "law" 1 f_law := by
  obtain ⟨fa, fd, F, hm⟩ := h.ex
  have Sc : FnScope N_law ["_law_script"] (defScope s_law) := ⟨rfl, rfl, rfl, by decide +kernel, rfl, by decide +kernel, by decide +kernel⟩
  exact kn_of F Sc hm (F.binds (ps := ["_law_script"]) fun _ _ _ _ _ _ us hl => match us, hl with | [_], _ => rfl) rfl [7] (by decide) (w_law B K_law_table K_about K_notions K_plain K_law_marks_of K_beside K_law_marks K_law_mixed K_only)
theorem ok_law {fa : Addr} {fd : FuncData} (B : Bl G) (F : Fun G.K "law" "law" s_law fa fd) (K_law_table : Kn G 3 "_law_table" 2 f_law_table) (K_about : Kn G 3 "about" 1 f_about) (K_notions : Kn G 4 "notions" 1 f_notions) (K_plain : Kn G 4 "plain" 1 f_plain) (K_law_marks_of : Kn G 5 "_law_marks_of" 1 f_law_marks_of) (K_beside : Kn G 1 "beside" 2 f_beside) (K_law_marks : Kn G 2 "_law_marks" 2 f_law_marks) (K_law_mixed : Kn G 2 "_law_mixed" 2 f_law_mixed) (K_only : Kn G 1 "only" 2 f_only) : FnOk G.P G.w G.K G.mg G.base CX0 6 fa fd ["_law_script"] (spD G.K 1 f_law) := by
  have Sc : FnScope N_law ["_law_script"] (defScope s_law) := ⟨rfl, rfl, rfl, by decide +kernel, rfl, by decide +kernel, by decide +kernel⟩
  exact fnok_of F Sc rfl [7] (by decide) (w_law B K_law_table K_about K_notions K_plain K_law_marks_of K_beside K_law_marks K_law_mixed K_only)

theorem m_has_all (a b : Ms) : f_has_all [mk a, mk b] = some (.bool (sub b a)) := by
  simp only [f_has_all, c_has_all, N_has_all, runD, outD, startN, List.length_cons, List.length_nil, List.map_cons, List.map_nil, List.cons_append, List.nil_append, List.replicate, List.getElem?_cons_zero, List.getElem?_cons_succ, List.set_cons_zero, List.set_cons_succ, List.set_nil, Option.bind_some, id, if_true, Nat.reduceAdd, Nat.reduceSub, Nat.reduceLeDiff, Nat.reduceEqDiff, Option.some.injEq, xVar, xC, x1, x2, xF, xArgs, xTup, xLst, xAnd, xOr, dNot, xNot, xYes, xIf_t, xIf_f, xNo, sNext, thn2, sSeq, sRet, sRetN, sAsg, sIf, tN, sSq, sRng, sRng2, sEnu, wipeN, xLc, setAll, xSl, xPart, dPart, lcGo_N, lcGo_T, lcGo_P, lcGo_H, tup_tt, tup_it, tup_1, lst_1, tT_pr, dNeg_int, lcM_int, lcM_bool, lcM_tpl, lcM_pr, lss_fold, List.map_id', List.map_id_fun', List.map_id_fun, List.filter_yes, items_tpl, items_lss, items_nil, items_tnil, enu_rows, enu_prs, dEq_int, dEq_bool, dEq_tpl, dEq_lss, dEq_pr, dEq_nil, dEq_tnil, dNe_int, dNe_bool, dNe_tpl, dNe_lss, dNe_pr, dNe_nil, dNe_tnil, dIn_tpl, dIn_lss, dNotIn_tpl, dNotIn_lss, dLen_tpl, dLen_lss, dTuple_tpl, dTuple_lss, dList_tpl, dList_lss, dAll_lss, dAny_lss, dIx_0, dIx_1, dLt_int, dLe_int, dGt_int, dGe_int, dAdd_int, dSub_int, isT_bool, all_id]
  rfl
theorem m_shared {m : Int} {L : List Ms} {ts : Ms} (hm : 0 ≤ m ∧ m ≤ 100) (ht : ∀ k ∈ ts, 0 ≤ k ∧ k < L.length) : f_shared [tb m L, mk ts] = some (mk (sh m L ts)) := by
  have hr : dRange (.int 0) (.int m) = some ((up m).map .int) := dRange_up (by omega)
  have h : ∀ x : Int, lcM (fun _ => some (.bool true)) (fun k => (dIx (rws L) (.int k)).bind fun y => dIn (.int x) y) ts = some ((ts.map fun k => decide (x ∈ rowAt L k)).map .bool) := fun x => by
    rw [lcM_of (p := fun _ => true) (e := fun k => .bool (decide (x ∈ rowAt L k))) fun k hk => ⟨rfl, fun _ => by simp only [dIx_rows L (ht k hk).1 (ht k hk).2, runD, outD, startN, List.length_cons, List.length_nil, List.map_cons, List.map_nil, List.cons_append, List.nil_append, List.replicate, List.getElem?_cons_zero, List.getElem?_cons_succ, List.set_cons_zero, List.set_cons_succ, List.set_nil, Option.bind_some, id, if_true, Nat.reduceAdd, Nat.reduceSub, Nat.reduceLeDiff, Nat.reduceEqDiff, Option.some.injEq, xVar, xC, x1, x2, xF, xArgs, xTup, xLst, xAnd, xOr, dNot, xNot, xYes, xIf_t, xIf_f, xNo, sNext, thn2, sSeq, sRet, sRetN, sAsg, sIf, tN, sSq, sRng, sRng2, sEnu, wipeN, xLc, setAll, xSl, xPart, dPart, lcGo_N, lcGo_T, lcGo_P, lcGo_H, tup_tt, tup_it, tup_1, lst_1, tT_pr, dNeg_int, lcM_int, lcM_bool, lcM_tpl, lcM_pr, lss_fold, List.map_id', List.map_id_fun', List.map_id_fun, List.filter_yes, items_tpl, items_lss, items_nil, items_tnil, enu_rows, enu_prs, dEq_int, dEq_bool, dEq_tpl, dEq_lss, dEq_pr, dEq_nil, dEq_tnil, dNe_int, dNe_bool, dNe_tpl, dNe_lss, dNe_pr, dNe_nil, dNe_tnil, dIn_tpl, dIn_lss, dNotIn_tpl, dNotIn_lss, dLen_tpl, dLen_lss, dTuple_tpl, dTuple_lss, dList_tpl, dList_lss, dAll_lss, dAny_lss, dIx_0, dIx_1, dLt_int, dLe_int, dGt_int, dGe_int, dAdd_int, dSub_int, isT_bool]⟩, List.filter_yes, List.map_map]
    rfl
  simp only [f_shared, c_shared, N_shared, runD, outD, startN, List.length_cons, List.length_nil, List.map_cons, List.map_nil, List.cons_append, List.nil_append, List.replicate, List.getElem?_cons_zero, List.getElem?_cons_succ, List.set_cons_zero, List.set_cons_succ, List.set_nil, Option.bind_some, id, if_true, Nat.reduceAdd, Nat.reduceSub, Nat.reduceLeDiff, Nat.reduceEqDiff, Option.some.injEq, xVar, xC, x1, x2, xF, xArgs, xTup, xLst, xAnd, xOr, dNot, xNot, xYes, xIf_t, xIf_f, xNo, sNext, thn2, sSeq, sRet, sRetN, sAsg, sIf, tN, sSq, sRng, sRng2, sEnu, wipeN, xLc, setAll, xSl, xPart, dPart, lcGo_N, lcGo_T, lcGo_P, lcGo_H, tup_tt, tup_it, tup_1, lst_1, tT_pr, dNeg_int, lcM_int, lcM_bool, lcM_tpl, lcM_pr, lss_fold, List.map_id', List.map_id_fun', List.map_id_fun, List.filter_yes, items_tpl, items_lss, items_nil, items_tnil, enu_rows, enu_prs, dEq_int, dEq_bool, dEq_tpl, dEq_lss, dEq_pr, dEq_nil, dEq_tnil, dNe_int, dNe_bool, dNe_tpl, dNe_lss, dNe_pr, dNe_nil, dNe_tnil, dIn_tpl, dIn_lss, dNotIn_tpl, dNotIn_lss, dLen_tpl, dLen_lss, dTuple_tpl, dTuple_lss, dList_tpl, dList_lss, dAll_lss, dAny_lss, dIx_0, dIx_1, dLt_int, dLe_int, dGt_int, dGe_int, dAdd_int, dSub_int, isT_bool, hr, h, all_id]
  rfl
theorem m_having (m : Int) (L : List Ms) (s : Ms) : f_having [tb m L, mk s] = some (mk (hv L s)) := by
  simp only [f_having, c_having, N_having, runD, outD, startN, List.length_cons, List.length_nil, List.map_cons, List.map_nil, List.cons_append, List.nil_append, List.replicate, List.getElem?_cons_zero, List.getElem?_cons_succ, List.set_cons_zero, List.set_cons_succ, List.set_nil, Option.bind_some, id, if_true, Nat.reduceAdd, Nat.reduceSub, Nat.reduceLeDiff, Nat.reduceEqDiff, Option.some.injEq, xVar, xC, x1, x2, xF, xArgs, xTup, xLst, xAnd, xOr, dNot, xNot, xYes, xIf_t, xIf_f, xNo, sNext, thn2, sSeq, sRet, sRetN, sAsg, sIf, tN, sSq, sRng, sRng2, sEnu, wipeN, xLc, setAll, xSl, xPart, dPart, lcGo_N, lcGo_T, lcGo_P, lcGo_H, tup_tt, tup_it, tup_1, lst_1, tT_pr, dNeg_int, lcM_int, lcM_bool, lcM_tpl, lcM_pr, lss_fold, List.map_id', List.map_id_fun', List.map_id_fun, List.filter_yes, items_tpl, items_lss, items_nil, items_tnil, enu_rows, enu_prs, dEq_int, dEq_bool, dEq_tpl, dEq_lss, dEq_pr, dEq_nil, dEq_tnil, dNe_int, dNe_bool, dNe_tpl, dNe_lss, dNe_pr, dNe_nil, dNe_tnil, dIn_tpl, dIn_lss, dNotIn_tpl, dNotIn_lss, dLen_tpl, dLen_lss, dTuple_tpl, dTuple_lss, dList_tpl, dList_lss, dAll_lss, dAny_lss, dIx_0, dIx_1, dLt_int, dLe_int, dGt_int, dGe_int, dAdd_int, dSub_int, isT_bool, m_has_all]
  rfl
theorem m_closed {m : Int} {L : List Ms} (hm : 0 ≤ m ∧ m ≤ 100) (s : Ms) : f_closed [tb m L, mk s] = some (mk (cl m L s)) := by
  simp only [f_closed, c_closed, N_closed, runD, outD, startN, List.length_cons, List.length_nil, List.map_cons, List.map_nil, List.cons_append, List.nil_append, List.replicate, List.getElem?_cons_zero, List.getElem?_cons_succ, List.set_cons_zero, List.set_cons_succ, List.set_nil, Option.bind_some, id, if_true, Nat.reduceAdd, Nat.reduceSub, Nat.reduceLeDiff, Nat.reduceEqDiff, Option.some.injEq, xVar, xC, x1, x2, xF, xArgs, xTup, xLst, xAnd, xOr, dNot, xNot, xYes, xIf_t, xIf_f, xNo, sNext, thn2, sSeq, sRet, sRetN, sAsg, sIf, tN, sSq, sRng, sRng2, sEnu, wipeN, xLc, setAll, xSl, xPart, dPart, lcGo_N, lcGo_T, lcGo_P, lcGo_H, tup_tt, tup_it, tup_1, lst_1, tT_pr, dNeg_int, lcM_int, lcM_bool, lcM_tpl, lcM_pr, lss_fold, List.map_id', List.map_id_fun', List.map_id_fun, List.filter_yes, items_tpl, items_lss, items_nil, items_tnil, enu_rows, enu_prs, dEq_int, dEq_bool, dEq_tpl, dEq_lss, dEq_pr, dEq_nil, dEq_tnil, dNe_int, dNe_bool, dNe_tpl, dNe_lss, dNe_pr, dNe_nil, dNe_tnil, dIn_tpl, dIn_lss, dNotIn_tpl, dNotIn_lss, dLen_tpl, dLen_lss, dTuple_tpl, dTuple_lss, dList_tpl, dList_lss, dAll_lss, dAny_lss, dIx_0, dIx_1, dLt_int, dLe_int, dGt_int, dGe_int, dAdd_int, dSub_int, isT_bool, m_having, m_shared hm fun k hk => hv_mem hk, sh_hv]
def cellI (ns : List Int) (k : Int) : Int := if k < ns.length then getI 0 ns k else 0
theorem m_law_cell_at {ns : List Int} {k : Int} (hk : 0 ≤ k) : f_law_cell_at [scr ns, .int k] = some (.int (cellI ns k)) := by
  by_cases h : k < ns.length
  · simp only [f_law_cell_at, c_law_cell_at, N_law_cell_at, runD, outD, startN, List.length_cons, List.length_nil, List.map_cons, List.map_nil, List.cons_append, List.nil_append, List.replicate, List.getElem?_cons_zero, List.getElem?_cons_succ, List.set_cons_zero, List.set_cons_succ, List.set_nil, Option.bind_some, id, if_true, Nat.reduceAdd, Nat.reduceSub, Nat.reduceLeDiff, Nat.reduceEqDiff, Option.some.injEq, xVar, xC, x1, x2, xF, xArgs, xTup, xLst, xAnd, xOr, dNot, xNot, xYes, xIf_t, xIf_f, xNo, sNext, thn2, sSeq, sRet, sRetN, sAsg, sIf, tN, sSq, sRng, sRng2, sEnu, wipeN, xLc, setAll, xSl, xPart, dPart, lcGo_N, lcGo_T, lcGo_P, lcGo_H, tup_tt, tup_it, tup_1, lst_1, tT_pr, dNeg_int, lcM_int, lcM_bool, lcM_tpl, lcM_pr, lss_fold, List.map_id', List.map_id_fun', List.map_id_fun, List.filter_yes, items_tpl, items_lss, items_nil, items_tnil, enu_rows, enu_prs, dEq_int, dEq_bool, dEq_tpl, dEq_lss, dEq_pr, dEq_nil, dEq_tnil, dNe_int, dNe_bool, dNe_tpl, dNe_lss, dNe_pr, dNe_nil, dNe_tnil, dIn_tpl, dIn_lss, dNotIn_tpl, dNotIn_lss, dLen_tpl, dLen_lss, dTuple_tpl, dTuple_lss, dList_tpl, dList_lss, dAll_lss, dAny_lss, dIx_0, dIx_1, dLt_int, dLe_int, dGt_int, dGe_int, dAdd_int, dSub_int, isT_bool, dLen_scr, h, decide_true, dIx_scr ns hk h, cellI]
  · simp only [f_law_cell_at, c_law_cell_at, N_law_cell_at, runD, outD, startN, List.length_cons, List.length_nil, List.map_cons, List.map_nil, List.cons_append, List.nil_append, List.replicate, List.getElem?_cons_zero, List.getElem?_cons_succ, List.set_cons_zero, List.set_cons_succ, List.set_nil, Option.bind_some, id, if_true, Nat.reduceAdd, Nat.reduceSub, Nat.reduceLeDiff, Nat.reduceEqDiff, Option.some.injEq, xVar, xC, x1, x2, xF, xArgs, xTup, xLst, xAnd, xOr, dNot, xNot, xYes, xIf_t, xIf_f, xNo, sNext, thn2, sSeq, sRet, sRetN, sAsg, sIf, tN, sSq, sRng, sRng2, sEnu, wipeN, xLc, setAll, xSl, xPart, dPart, lcGo_N, lcGo_T, lcGo_P, lcGo_H, tup_tt, tup_it, tup_1, lst_1, tT_pr, dNeg_int, lcM_int, lcM_bool, lcM_tpl, lcM_pr, lss_fold, List.map_id', List.map_id_fun', List.map_id_fun, List.filter_yes, items_tpl, items_lss, items_nil, items_tnil, enu_rows, enu_prs, dEq_int, dEq_bool, dEq_tpl, dEq_lss, dEq_pr, dEq_nil, dEq_tnil, dNe_int, dNe_bool, dNe_tpl, dNe_lss, dNe_pr, dNe_nil, dNe_tnil, dIn_tpl, dIn_lss, dNotIn_tpl, dNotIn_lss, dLen_tpl, dLen_lss, dTuple_tpl, dTuple_lss, dList_tpl, dList_lss, dAll_lss, dAny_lss, dIx_0, dIx_1, dLt_int, dLe_int, dGt_int, dGe_int, dAdd_int, dSub_int, isT_bool, dLen_scr, h, decide_false, cellI, if_false]
def mixD (ns : List Int) (k : Int) : Int := (cellI ns k + 7919 * k + 1) * 48271 % 2147483647
def mixI (ns : List Int) (k : Int) : Int := (mixD ns k * mixD ns k + 7 * mixD ns k + k) % 2147483629
theorem mixI_pos (ns : List Int) (k : Int) : 0 ≤ mixI ns k := Int.emod_nonneg _ (by decide)
theorem m_law_mixed {ns : List Int} {k : Int} (hk : 0 ≤ k) : f_law_mixed [scr ns, .int k] = some (.int (mixI ns k)) := by
  have h1 : ∀ b : Int, dMul (.int 7919) (.int b) = some (.int (7919 * b)) := fun b => dMul_l rfl
  have h2 : ∀ b : Int, dMul (.int 7) (.int b) = some (.int (7 * b)) := fun b => dMul_l rfl
  have h3 : ∀ a : Int, dMul (.int a) (.int 48271) = some (.int (a * 48271)) := fun a => dMul_int (.inr ⟨by decide, by decide⟩)
  have h4 : ∀ a : Int, dMod (.int a) (.int 2147483647) = some (.int (a % 2147483647)) := fun a => dMod_int a (by decide)
  have h5 : ∀ a : Int, dMod (.int a) (.int 2147483629) = some (.int (a % 2147483629)) := fun a => dMod_int a (by decide)
  have h6 : ∀ x y : Int, dMul (.int (x % 2147483647)) (.int y) = some (.int (x % 2147483647 * y)) := fun x y => dMul_int (.inl ⟨by omega, by omega⟩)
  simp only [f_law_mixed, c_law_mixed, N_law_mixed, runD, outD, startN, List.length_cons, List.length_nil, List.map_cons, List.map_nil, List.cons_append, List.nil_append, List.replicate, List.getElem?_cons_zero, List.getElem?_cons_succ, List.set_cons_zero, List.set_cons_succ, List.set_nil, Option.bind_some, id, if_true, Nat.reduceAdd, Nat.reduceSub, Nat.reduceLeDiff, Nat.reduceEqDiff, Option.some.injEq, xVar, xC, x1, x2, xF, xArgs, xTup, xLst, xAnd, xOr, dNot, xNot, xYes, xIf_t, xIf_f, xNo, sNext, thn2, sSeq, sRet, sRetN, sAsg, sIf, tN, sSq, sRng, sRng2, sEnu, wipeN, xLc, setAll, xSl, xPart, dPart, lcGo_N, lcGo_T, lcGo_P, lcGo_H, tup_tt, tup_it, tup_1, lst_1, tT_pr, dNeg_int, lcM_int, lcM_bool, lcM_tpl, lcM_pr, lss_fold, List.map_id', List.map_id_fun', List.map_id_fun, List.filter_yes, items_tpl, items_lss, items_nil, items_tnil, enu_rows, enu_prs, dEq_int, dEq_bool, dEq_tpl, dEq_lss, dEq_pr, dEq_nil, dEq_tnil, dNe_int, dNe_bool, dNe_tpl, dNe_lss, dNe_pr, dNe_nil, dNe_tnil, dIn_tpl, dIn_lss, dNotIn_tpl, dNotIn_lss, dLen_tpl, dLen_lss, dTuple_tpl, dTuple_lss, dList_tpl, dList_lss, dAll_lss, dAny_lss, dIx_0, dIx_1, dLt_int, dLe_int, dGt_int, dGe_int, dAdd_int, dSub_int, isT_bool, m_law_cell_at hk, h1, h2, h3, h4, h5, h6]
  rfl
def drawD (n k : Int) : Int := (n + 104729 * k + 17) * 69621 % 2147483647
def drawI (n k : Int) : Int := (drawD n k * drawD n k + 3 * drawD n k + k) % 2147483629
theorem drawI_pos (n k : Int) : 0 ≤ drawI n k := Int.emod_nonneg _ (by decide)
theorem m_law_drawn (n k : Int) : f_law_drawn [.int n, .int k] = some (.int (drawI n k)) := by
  have h1 : ∀ b : Int, dMul (.int 104729) (.int b) = some (.int (104729 * b)) := fun b => dMul_l rfl
  have h2 : ∀ b : Int, dMul (.int 3) (.int b) = some (.int (3 * b)) := fun b => dMul_l rfl
  have h3 : ∀ a : Int, dMul (.int a) (.int 69621) = some (.int (a * 69621)) := fun a => dMul_int (.inr ⟨by decide, by decide⟩)
  have h4 : ∀ a : Int, dMod (.int a) (.int 2147483647) = some (.int (a % 2147483647)) := fun a => dMod_int a (by decide)
  have h5 : ∀ a : Int, dMod (.int a) (.int 2147483629) = some (.int (a % 2147483629)) := fun a => dMod_int a (by decide)
  have h6 : ∀ x y : Int, dMul (.int (x % 2147483647)) (.int y) = some (.int (x % 2147483647 * y)) := fun x y => dMul_int (.inl ⟨by omega, by omega⟩)
  simp only [f_law_drawn, c_law_drawn, N_law_drawn, runD, outD, startN, List.length_cons, List.length_nil, List.map_cons, List.map_nil, List.cons_append, List.nil_append, List.replicate, List.getElem?_cons_zero, List.getElem?_cons_succ, List.set_cons_zero, List.set_cons_succ, List.set_nil, Option.bind_some, id, if_true, Nat.reduceAdd, Nat.reduceSub, Nat.reduceLeDiff, Nat.reduceEqDiff, Option.some.injEq, xVar, xC, x1, x2, xF, xArgs, xTup, xLst, xAnd, xOr, dNot, xNot, xYes, xIf_t, xIf_f, xNo, sNext, thn2, sSeq, sRet, sRetN, sAsg, sIf, tN, sSq, sRng, sRng2, sEnu, wipeN, xLc, setAll, xSl, xPart, dPart, lcGo_N, lcGo_T, lcGo_P, lcGo_H, tup_tt, tup_it, tup_1, lst_1, tT_pr, dNeg_int, lcM_int, lcM_bool, lcM_tpl, lcM_pr, lss_fold, List.map_id', List.map_id_fun', List.map_id_fun, List.filter_yes, items_tpl, items_lss, items_nil, items_tnil, enu_rows, enu_prs, dEq_int, dEq_bool, dEq_tpl, dEq_lss, dEq_pr, dEq_nil, dEq_tnil, dNe_int, dNe_bool, dNe_tpl, dNe_lss, dNe_pr, dNe_nil, dNe_tnil, dIn_tpl, dIn_lss, dNotIn_tpl, dNotIn_lss, dLen_tpl, dLen_lss, dTuple_tpl, dTuple_lss, dList_tpl, dList_lss, dAll_lss, dAny_lss, dIx_0, dIx_1, dLt_int, dLe_int, dGt_int, dGe_int, dAdd_int, dSub_int, isT_bool, h1, h2, h3, h4, h5, h6]
  rfl
def mks (n m : Int) : Ms := (up m).filter fun x => decide (drawI n x % (2 + n % 3) = 0)
theorem mks_isM (n m : Int) : IsM m (mks n m) := isM_filter _ _
theorem m_law_marks (n : Int) {m : Int} (hm : 0 ≤ m ∧ m ≤ 100) : f_law_marks [.int n, .int m] = some (mk (mks n m)) := by
  have hr : dRange (.int 0) (.int m) = some ((up m).map .int) := dRange_up (by omega)
  have h3 : dMod (.int n) (.int 3) = some (.int (n % 3)) := dMod_int n (by decide)
  have h4 : ∀ a : Int, dMod (.int a) (.int (2 + n % 3)) = some (.int (a % (2 + n % 3))) := fun a => dMod_int a (by omega)
  simp only [f_law_marks, c_law_marks, N_law_marks, runD, outD, startN, List.length_cons, List.length_nil, List.map_cons, List.map_nil, List.cons_append, List.nil_append, List.replicate, List.getElem?_cons_zero, List.getElem?_cons_succ, List.set_cons_zero, List.set_cons_succ, List.set_nil, Option.bind_some, id, if_true, Nat.reduceAdd, Nat.reduceSub, Nat.reduceLeDiff, Nat.reduceEqDiff, Option.some.injEq, xVar, xC, x1, x2, xF, xArgs, xTup, xLst, xAnd, xOr, dNot, xNot, xYes, xIf_t, xIf_f, xNo, sNext, thn2, sSeq, sRet, sRetN, sAsg, sIf, tN, sSq, sRng, sRng2, sEnu, wipeN, xLc, setAll, xSl, xPart, dPart, lcGo_N, lcGo_T, lcGo_P, lcGo_H, tup_tt, tup_it, tup_1, lst_1, tT_pr, dNeg_int, lcM_int, lcM_bool, lcM_tpl, lcM_pr, lss_fold, List.map_id', List.map_id_fun', List.map_id_fun, List.filter_yes, items_tpl, items_lss, items_nil, items_tnil, enu_rows, enu_prs, dEq_int, dEq_bool, dEq_tpl, dEq_lss, dEq_pr, dEq_nil, dEq_tnil, dNe_int, dNe_bool, dNe_tpl, dNe_lss, dNe_pr, dNe_nil, dNe_tnil, dIn_tpl, dIn_lss, dNotIn_tpl, dNotIn_lss, dLen_tpl, dLen_lss, dTuple_tpl, dTuple_lss, dList_tpl, dList_lss, dAll_lss, dAny_lss, dIx_0, dIx_1, dLt_int, dLe_int, dGt_int, dGe_int, dAdd_int, dSub_int, isT_bool, hr, h3, h4, m_law_drawn]
  rfl
theorem m_law_table (ns : List Int) {most : Int} (hl : ns.length ≤ 63) (hm : 1 ≤ most ∧ most ≤ 100) : ∃ m L, f_law_table [scr ns, .int most] = some (tb m L) ∧ Tab most m L ∧ L.length ≤ 8 := by
  have p0 := mixI_pos ns 0
  generalize hq : mixI ns 0 = q at p0
  have hmix : f_law_mixed [scr ns, .int 0] = some (.int q) := by rw [← hq]; exact m_law_mixed (by decide)
  have hm1 : 1 ≤ 1 + q % most ∧ 1 + q % most ≤ most := by
    have h1 := Int.emod_nonneg q (show most ≠ 0 by omega)
    have h2 := Int.emod_lt_of_pos q (show 0 < most by omega)
    omega
  generalize hmm : 1 + q % most = m at hm1
  have hmd : dMod (.int q) (.int most) = some (.int (q % most)) := dMod_int q (by omega)
  have hr : dRange (.int 0) (.int m) = some ((up m).map .int) := dRange_up (by omega)
  have d6 : dDiv (.int q) (.int 6) = some (.int (q / 6)) := dDiv_int q (by decide)
  have d54 : dDiv (.int q) (.int 54) = some (.int (q / 54)) := dDiv_int q (by decide)
  have m9 : ∀ a : Int, dMod (.int a) (.int 9) = some (.int (a % 9)) := fun a => dMod_int a (by decide)
  have m2 : ∀ a : Int, dMod (.int a) (.int 2) = some (.int (a % 2)) := fun a => dMod_int a (by decide)
  have hmin : ∀ a b : Int, dMin [.int a, .int b] = some (.int (if b < a then b else a)) := fun _ _ => rfl
  let rw1 : Int → Ms := fun k => if q / 54 % 2 = 1 then (up m).filter fun x => !decide (x ∈ mks (mixI ns (3 + k)) m) else mks (mixI ns (3 + k)) m
  let n1 : Int := if 1 + (ns.length : Int) < q / 6 % 9 then 1 + ns.length else q / 6 % 9
  have hn1 : 0 ≤ n1 ∧ n1 ≤ 8 := by
    have : 0 ≤ q / 6 % 9 ∧ q / 6 % 9 < 9 := by omega
    simp only [n1]
    split <;> omega
  refine ⟨m, (up n1).map rw1, ?_, ⟨hm1.1, hm1.2, ?_, ?_⟩, by rw [List.length_map, up_len]; omega⟩
  · refine run_ret rfl ?_
    unfold c_law_table
    refine st_asg (d := .int m) (by simp only [N_law_table, runD, outD, startN, List.length_cons, List.length_nil, List.map_cons, List.map_nil, List.cons_append, List.nil_append, List.replicate, List.getElem?_cons_zero, List.getElem?_cons_succ, List.set_cons_zero, List.set_cons_succ, List.set_nil, Option.bind_some, id, if_true, Nat.reduceAdd, Nat.reduceSub, Nat.reduceLeDiff, Nat.reduceEqDiff, Option.some.injEq, xVar, xC, x1, x2, xF, xArgs, xTup, xLst, xAnd, xOr, dNot, xNot, xYes, xIf_t, xIf_f, xNo, sNext, thn2, sSeq, sRet, sRetN, sAsg, sIf, tN, sSq, sRng, sRng2, sEnu, wipeN, xLc, setAll, xSl, xPart, dPart, lcGo_N, lcGo_T, lcGo_P, lcGo_H, tup_tt, tup_it, tup_1, lst_1, tT_pr, dNeg_int, lcM_int, lcM_bool, lcM_tpl, lcM_pr, lss_fold, List.map_id', List.map_id_fun', List.map_id_fun, List.filter_yes, items_tpl, items_lss, items_nil, items_tnil, enu_rows, enu_prs, dEq_int, dEq_bool, dEq_tpl, dEq_lss, dEq_pr, dEq_nil, dEq_tnil, dNe_int, dNe_bool, dNe_tpl, dNe_lss, dNe_pr, dNe_nil, dNe_tnil, dIn_tpl, dIn_lss, dNotIn_tpl, dNotIn_lss, dLen_tpl, dLen_lss, dTuple_tpl, dTuple_lss, dList_tpl, dList_lss, dAll_lss, dAny_lss, dIx_0, dIx_1, dLt_int, dLe_int, dGt_int, dGe_int, dAdd_int, dSub_int, isT_bool, hmix, hmd, hmm]) ?_
    have e1 : sOwn 3 [] ((startN N_law_table.length [scr ns, .int most]).set 2 (some (.int m))) = some (.nx [some (scr ns), some (.int most), some (.int m), some (lss mk []), none, none, none]) := rfl
    unfold sSeq
    rw [e1]
    show sSeq _ _ _ = _
    have hsrc : dRange (.int 0) (.int n1) = some ((up n1).map .int) := dRange_up (by omega)
    refine st_for (f := PyData.int) (fun i (b : List Ms) ρ => b.length = i ∧ ∃ y z u, ρ = [some (scr ns), some (.int most), some (.int m), some (lss mk b), y, z, u]) (fun b k => b ++ [rw1 k]) (up n1) [] ?_ ⟨rfl, none, none, none, rfl⟩ ?_ ?_
    · simp only [runD, outD, startN, List.length_cons, List.length_nil, List.map_cons, List.map_nil, List.cons_append, List.nil_append, List.replicate, List.getElem?_cons_zero, List.getElem?_cons_succ, List.set_cons_zero, List.set_cons_succ, List.set_nil, Option.bind_some, id, if_true, Nat.reduceAdd, Nat.reduceSub, Nat.reduceLeDiff, Nat.reduceEqDiff, Option.some.injEq, xVar, xC, x1, x2, xF, xArgs, xTup, xLst, xAnd, xOr, dNot, xNot, xYes, xIf_t, xIf_f, xNo, sNext, thn2, sSeq, sRet, sRetN, sAsg, sIf, tN, sSq, sRng, sRng2, sEnu, wipeN, xLc, setAll, xSl, xPart, dPart, lcGo_N, lcGo_T, lcGo_P, lcGo_H, tup_tt, tup_it, tup_1, lst_1, tT_pr, dNeg_int, lcM_int, lcM_bool, lcM_tpl, lcM_pr, lss_fold, List.map_id', List.map_id_fun', List.map_id_fun, List.filter_yes, items_tpl, items_lss, items_nil, items_tnil, enu_rows, enu_prs, dEq_int, dEq_bool, dEq_tpl, dEq_lss, dEq_pr, dEq_nil, dEq_tnil, dNe_int, dNe_bool, dNe_tpl, dNe_lss, dNe_pr, dNe_nil, dNe_tnil, dIn_tpl, dIn_lss, dNotIn_tpl, dNotIn_lss, dLen_tpl, dLen_lss, dTuple_tpl, dTuple_lss, dList_tpl, dList_lss, dAll_lss, dAny_lss, dIx_0, dIx_1, dLt_int, dLe_int, dGt_int, dGe_int, dAdd_int, dSub_int, isT_bool, hmix, d6, m9, dLen_scr, hmin]
      exact hsrc
    · rintro j b ρ k hk ⟨hb, y, z, u, rfl⟩
      have hk2 := up_mem.mp (List.mem_of_getElem? hk)
      have hj : j < 100 := by
        have := (List.getElem?_eq_some_iff.mp hk).1
        rw [up_len] at this
        omega
      have happ : appD (mk (rw1 k)) (lss mk b) = some (lss mk (b ++ [rw1 k])) := app_lss (by rw [hb]; exact Nat.lt_trans hj (by decide))
      have h3 : f_law_mixed [scr ns, .int (3 + k)] = some (.int (mixI ns (3 + k))) := m_law_mixed (by omega)
      by_cases hf : q / 54 % 2 = 1
      · have er : rw1 k = (up m).filter fun x => !decide (x ∈ mks (mixI ns (3 + k)) m) := if_pos hf
        refine ⟨_, [some (scr ns), some (.int most), some (.int m), some (lss mk (b ++ [rw1 k])), some (.int k), some (mk (rw1 k)), u], rfl, ?_, by rw [List.length_append, hb]; rfl, some (.int k), some (mk (rw1 k)), u, rfl⟩
        rw [er] at happ ⊢
        simp only [runD, outD, startN, List.length_cons, List.length_nil, List.map_cons, List.map_nil, List.cons_append, List.nil_append, List.replicate, List.getElem?_cons_zero, List.getElem?_cons_succ, List.set_cons_zero, List.set_cons_succ, List.set_nil, Option.bind_some, id, if_true, Nat.reduceAdd, Nat.reduceSub, Nat.reduceLeDiff, Nat.reduceEqDiff, Option.some.injEq, xVar, xC, x1, x2, xF, xArgs, xTup, xLst, xAnd, xOr, dNot, xNot, xYes, xIf_t, xIf_f, xNo, sNext, thn2, sSeq, sRet, sRetN, sAsg, sIf, tN, sSq, sRng, sRng2, sEnu, wipeN, xLc, setAll, xSl, xPart, dPart, lcGo_N, lcGo_T, lcGo_P, lcGo_H, tup_tt, tup_it, tup_1, lst_1, tT_pr, dNeg_int, lcM_int, lcM_bool, lcM_tpl, lcM_pr, lss_fold, List.map_id', List.map_id_fun', List.map_id_fun, List.filter_yes, items_tpl, items_lss, items_nil, items_tnil, enu_rows, enu_prs, dEq_int, dEq_bool, dEq_tpl, dEq_lss, dEq_pr, dEq_nil, dEq_tnil, dNe_int, dNe_bool, dNe_tpl, dNe_lss, dNe_pr, dNe_nil, dNe_tnil, dIn_tpl, dIn_lss, dNotIn_tpl, dNotIn_lss, dLen_tpl, dLen_lss, dTuple_tpl, dTuple_lss, dList_tpl, dList_lss, dAll_lss, dAny_lss, dIx_0, dIx_1, dLt_int, dLe_int, dGt_int, dGe_int, dAdd_int, dSub_int, isT_bool, sApp, h3, hmix, d54, m2, m_law_marks _ (show 0 ≤ m ∧ m ≤ 100 by omega), hf, decide_true, hr, happ]
      · have er : rw1 k = mks (mixI ns (3 + k)) m := if_neg hf
        refine ⟨_, [some (scr ns), some (.int most), some (.int m), some (lss mk (b ++ [rw1 k])), some (.int k), some (mk (rw1 k)), u], rfl, ?_, by rw [List.length_append, hb]; rfl, some (.int k), some (mk (rw1 k)), u, rfl⟩
        rw [er] at happ ⊢
        simp only [runD, outD, startN, List.length_cons, List.length_nil, List.map_cons, List.map_nil, List.cons_append, List.nil_append, List.replicate, List.getElem?_cons_zero, List.getElem?_cons_succ, List.set_cons_zero, List.set_cons_succ, List.set_nil, Option.bind_some, id, if_true, Nat.reduceAdd, Nat.reduceSub, Nat.reduceLeDiff, Nat.reduceEqDiff, Option.some.injEq, xVar, xC, x1, x2, xF, xArgs, xTup, xLst, xAnd, xOr, dNot, xNot, xYes, xIf_t, xIf_f, xNo, sNext, thn2, sSeq, sRet, sRetN, sAsg, sIf, tN, sSq, sRng, sRng2, sEnu, wipeN, xLc, setAll, xSl, xPart, dPart, lcGo_N, lcGo_T, lcGo_P, lcGo_H, tup_tt, tup_it, tup_1, lst_1, tT_pr, dNeg_int, lcM_int, lcM_bool, lcM_tpl, lcM_pr, lss_fold, List.map_id', List.map_id_fun', List.map_id_fun, List.filter_yes, items_tpl, items_lss, items_nil, items_tnil, enu_rows, enu_prs, dEq_int, dEq_bool, dEq_tpl, dEq_lss, dEq_pr, dEq_nil, dEq_tnil, dNe_int, dNe_bool, dNe_tpl, dNe_lss, dNe_pr, dNe_nil, dNe_tnil, dIn_tpl, dIn_lss, dNotIn_tpl, dNotIn_lss, dLen_tpl, dLen_lss, dTuple_tpl, dTuple_lss, dList_tpl, dList_lss, dAll_lss, dAny_lss, dIx_0, dIx_1, dLt_int, dLe_int, dGt_int, dGe_int, dAdd_int, dSub_int, isT_bool, sApp, h3, hmix, d54, m2, m_law_marks _ (show 0 ≤ m ∧ m ≤ 100 by omega), hf, decide_false, happ]
    · rintro ρ ⟨hb, y, z, u, rfl⟩
      rw [foldl_app, List.nil_append]
      have fin : ∀ (B : List Ms) y z u, (sRet (xTup [xVar 2, xNo (xF dTuple [xVar 3])])) [some (scr ns), some (.int most), some (.int m), some (lss mk B), y, z, u] = some (.rt (tb m B)) := fun B y z u => by
        have hno : noLst (rws B) = true := noLst_rws B
        simp only [runD, outD, startN, List.length_cons, List.length_nil, List.map_cons, List.map_nil, List.cons_append, List.nil_append, List.replicate, List.getElem?_cons_zero, List.getElem?_cons_succ, List.set_cons_zero, List.set_cons_succ, List.set_nil, Option.bind_some, id, if_true, Nat.reduceAdd, Nat.reduceSub, Nat.reduceLeDiff, Nat.reduceEqDiff, Option.some.injEq, xVar, xC, x1, x2, xF, xArgs, xTup, xLst, xAnd, xOr, dNot, xNot, xYes, xIf_t, xIf_f, xNo, sNext, thn2, sSeq, sRet, sRetN, sAsg, sIf, tN, sSq, sRng, sRng2, sEnu, wipeN, xLc, setAll, xSl, xPart, dPart, lcGo_N, lcGo_T, lcGo_P, lcGo_H, tup_tt, tup_it, tup_1, lst_1, tT_pr, dNeg_int, lcM_int, lcM_bool, lcM_tpl, lcM_pr, lss_fold, List.map_id', List.map_id_fun', List.map_id_fun, List.filter_yes, items_tpl, items_lss, items_nil, items_tnil, enu_rows, enu_prs, dEq_int, dEq_bool, dEq_tpl, dEq_lss, dEq_pr, dEq_nil, dEq_tnil, dNe_int, dNe_bool, dNe_tpl, dNe_lss, dNe_pr, dNe_nil, dNe_tnil, dIn_tpl, dIn_lss, dNotIn_tpl, dNotIn_lss, dLen_tpl, dLen_lss, dTuple_tpl, dTuple_lss, dList_tpl, dList_lss, dAll_lss, dAny_lss, dIx_0, dIx_1, dLt_int, dLe_int, dGt_int, dGe_int, dAdd_int, dSub_int, isT_bool, hno]
      exact fin _ _ _ _
  · rw [List.length_map, up_len]
    omega
  · intro r hr'
    obtain ⟨k, _, rfl⟩ := List.mem_map.mp hr'
    show IsM m (if _ then _ else _)
    split
    · exact isM_filter _ _
    · exact mks_isM _ _

theorem m_all_marks {m : Int} (hm : 0 ≤ m ∧ m ≤ 6) : f_all_marks [.int m] = some (lss mk (allM m)) := by
  rcases six hm with rfl | rfl | rfl | rfl | rfl | rfl | rfl <;> kernel_rfl
theorem m_notions {m : Int} {L : List Ms} (hm : 0 ≤ m ∧ m ≤ 6) : f_notions [tb m L] = some (rls (nts m L)) := by
  have hm100 : 0 ≤ m ∧ m ≤ 100 := by omega
  refine run_ret rfl ?_
  unfold c_notions
  refine st_own (ds := []) rfl ?_
  refine st_for (f := mk) (fun i (b : List Rl) ρ => b.length ≤ i ∧ ∃ y, ρ = [some (tb m L), some (lss rul b), y]) (fun b s => if decide (cl m L s = s) = true then b ++ [(hv L s, s)] else b) (allM m) [] ?_ ⟨Nat.le_refl _, none, rfl⟩ ?_ ?_
  · simp only [N_notions, runD, outD, startN, List.length_cons, List.length_nil, List.map_cons, List.map_nil, List.cons_append, List.nil_append, List.replicate, List.getElem?_cons_zero, List.getElem?_cons_succ, List.set_cons_zero, List.set_cons_succ, List.set_nil, Option.bind_some, id, if_true, Nat.reduceAdd, Nat.reduceSub, Nat.reduceLeDiff, Nat.reduceEqDiff, Option.some.injEq, xVar, xC, x1, x2, xF, xArgs, xTup, xLst, xAnd, xOr, dNot, xNot, xYes, xIf_t, xIf_f, xNo, sNext, thn2, sSeq, sRet, sRetN, sAsg, sIf, tN, sSq, sRng, sRng2, sEnu, wipeN, xLc, setAll, xSl, xPart, dPart, lcGo_N, lcGo_T, lcGo_P, lcGo_H, tup_tt, tup_it, tup_1, lst_1, tT_pr, dNeg_int, lcM_int, lcM_bool, lcM_tpl, lcM_pr, lss_fold, List.map_id', List.map_id_fun', List.map_id_fun, List.filter_yes, items_tpl, items_lss, items_nil, items_tnil, enu_rows, enu_prs, dEq_int, dEq_bool, dEq_tpl, dEq_lss, dEq_pr, dEq_nil, dEq_tnil, dNe_int, dNe_bool, dNe_tpl, dNe_lss, dNe_pr, dNe_nil, dNe_tnil, dIn_tpl, dIn_lss, dNotIn_tpl, dNotIn_lss, dLen_tpl, dLen_lss, dTuple_tpl, dTuple_lss, dList_tpl, dList_lss, dAll_lss, dAny_lss, dIx_0, dIx_1, dLt_int, dLe_int, dGt_int, dGe_int, dAdd_int, dSub_int, isT_bool, m_all_marks hm]
  · rintro j b ρ s hs ⟨hb, y, rfl⟩
    have hj : j < 64 := Nat.lt_of_lt_of_le (List.getElem?_eq_some_iff.mp hs).1 (allM_len hm)
    have happ : appD (rul (hv L s, s)) (lss rul b) = some (lss rul (b ++ [(hv L s, s)])) := app_lss (f := rul) (Nat.lt_of_le_of_lt hb (Nat.lt_trans hj (by decide)))
    by_cases e : cl m L s = s
    · refine ⟨_, [some (tb m L), some (lss rul (b ++ [(hv L s, s)])), some (mk s)], rfl, ?_, ?_⟩
      · simp only [runD, outD, startN, List.length_cons, List.length_nil, List.map_cons, List.map_nil, List.cons_append, List.nil_append, List.replicate, List.getElem?_cons_zero, List.getElem?_cons_succ, List.set_cons_zero, List.set_cons_succ, List.set_nil, Option.bind_some, id, if_true, Nat.reduceAdd, Nat.reduceSub, Nat.reduceLeDiff, Nat.reduceEqDiff, Option.some.injEq, xVar, xC, x1, x2, xF, xArgs, xTup, xLst, xAnd, xOr, dNot, xNot, xYes, xIf_t, xIf_f, xNo, sNext, thn2, sSeq, sRet, sRetN, sAsg, sIf, tN, sSq, sRng, sRng2, sEnu, wipeN, xLc, setAll, xSl, xPart, dPart, lcGo_N, lcGo_T, lcGo_P, lcGo_H, tup_tt, tup_it, tup_1, lst_1, tT_pr, dNeg_int, lcM_int, lcM_bool, lcM_tpl, lcM_pr, lss_fold, List.map_id', List.map_id_fun', List.map_id_fun, List.filter_yes, items_tpl, items_lss, items_nil, items_tnil, enu_rows, enu_prs, dEq_int, dEq_bool, dEq_tpl, dEq_lss, dEq_pr, dEq_nil, dEq_tnil, dNe_int, dNe_bool, dNe_tpl, dNe_lss, dNe_pr, dNe_nil, dNe_tnil, dIn_tpl, dIn_lss, dNotIn_tpl, dNotIn_lss, dLen_tpl, dLen_lss, dTuple_tpl, dTuple_lss, dList_tpl, dList_lss, dAll_lss, dAny_lss, dIx_0, dIx_1, dLt_int, dLe_int, dGt_int, dGe_int, dAdd_int, dSub_int, isT_bool, sApp, m_closed hm100, m_having, decide_eq_true e, happ]
      · rw [if_pos (decide_eq_true e)]
        exact ⟨by rw [List.length_append]; exact Nat.succ_le_succ hb, some (mk s), rfl⟩
    · refine ⟨_, [some (tb m L), some (lss rul b), some (mk s)], rfl, ?_, ?_⟩
      · simp only [runD, outD, startN, List.length_cons, List.length_nil, List.map_cons, List.map_nil, List.cons_append, List.nil_append, List.replicate, List.getElem?_cons_zero, List.getElem?_cons_succ, List.set_cons_zero, List.set_cons_succ, List.set_nil, Option.bind_some, id, if_true, Nat.reduceAdd, Nat.reduceSub, Nat.reduceLeDiff, Nat.reduceEqDiff, Option.some.injEq, xVar, xC, x1, x2, xF, xArgs, xTup, xLst, xAnd, xOr, dNot, xNot, xYes, xIf_t, xIf_f, xNo, sNext, thn2, sSeq, sRet, sRetN, sAsg, sIf, tN, sSq, sRng, sRng2, sEnu, wipeN, xLc, setAll, xSl, xPart, dPart, lcGo_N, lcGo_T, lcGo_P, lcGo_H, tup_tt, tup_it, tup_1, lst_1, tT_pr, dNeg_int, lcM_int, lcM_bool, lcM_tpl, lcM_pr, lss_fold, List.map_id', List.map_id_fun', List.map_id_fun, List.filter_yes, items_tpl, items_lss, items_nil, items_tnil, enu_rows, enu_prs, dEq_int, dEq_bool, dEq_tpl, dEq_lss, dEq_pr, dEq_nil, dEq_tnil, dNe_int, dNe_bool, dNe_tpl, dNe_lss, dNe_pr, dNe_nil, dNe_tnil, dIn_tpl, dIn_lss, dNotIn_tpl, dNotIn_lss, dLen_tpl, dLen_lss, dTuple_tpl, dTuple_lss, dList_tpl, dList_lss, dAll_lss, dAny_lss, dIx_0, dIx_1, dLt_int, dLe_int, dGt_int, dGe_int, dAdd_int, dSub_int, isT_bool, m_closed hm100, decide_eq_false e]
      · rw [if_neg (by rw [decide_eq_false e]; decide)]
        exact ⟨Nat.le_succ_of_le hb, some (mk s), rfl⟩
  · rintro ρ ⟨_, y, rfl⟩
    rw [foldl_if]
    have hno : ∀ R : List Rl, noLst (rls R) = true := fun R => noLst_tpl noLst_rul R
    simp only [runD, outD, startN, List.length_cons, List.length_nil, List.map_cons, List.map_nil, List.cons_append, List.nil_append, List.replicate, List.getElem?_cons_zero, List.getElem?_cons_succ, List.set_cons_zero, List.set_cons_succ, List.set_nil, Option.bind_some, id, if_true, Nat.reduceAdd, Nat.reduceSub, Nat.reduceLeDiff, Nat.reduceEqDiff, Option.some.injEq, xVar, xC, x1, x2, xF, xArgs, xTup, xLst, xAnd, xOr, dNot, xNot, xYes, xIf_t, xIf_f, xNo, sNext, thn2, sSeq, sRet, sRetN, sAsg, sIf, tN, sSq, sRng, sRng2, sEnu, wipeN, xLc, setAll, xSl, xPart, dPart, lcGo_N, lcGo_T, lcGo_P, lcGo_H, tup_tt, tup_it, tup_1, lst_1, tT_pr, dNeg_int, lcM_int, lcM_bool, lcM_tpl, lcM_pr, lss_fold, List.map_id', List.map_id_fun', List.map_id_fun, List.filter_yes, items_tpl, items_lss, items_nil, items_tnil, enu_rows, enu_prs, dEq_int, dEq_bool, dEq_tpl, dEq_lss, dEq_pr, dEq_nil, dEq_tnil, dNe_int, dNe_bool, dNe_tpl, dNe_lss, dNe_pr, dNe_nil, dNe_tnil, dIn_tpl, dIn_lss, dNotIn_tpl, dNotIn_lss, dLen_tpl, dLen_lss, dTuple_tpl, dTuple_lss, dList_tpl, dList_lss, dAll_lss, dAny_lss, dIx_0, dIx_1, dLt_int, dLe_int, dGt_int, dGe_int, dAdd_int, dSub_int, isT_bool, hno]
    rfl
theorem m_is_less (a b : Ms) : f_is_less [mk a, mk b] = some (.bool (isL a b)) := by
  unfold isL
  by_cases h : a = b
  · simp only [f_is_less, c_is_less, N_is_less, runD, outD, startN, List.length_cons, List.length_nil, List.map_cons, List.map_nil, List.cons_append, List.nil_append, List.replicate, List.getElem?_cons_zero, List.getElem?_cons_succ, List.set_cons_zero, List.set_cons_succ, List.set_nil, Option.bind_some, id, if_true, Nat.reduceAdd, Nat.reduceSub, Nat.reduceLeDiff, Nat.reduceEqDiff, Option.some.injEq, xVar, xC, x1, x2, xF, xArgs, xTup, xLst, xAnd, xOr, dNot, xNot, xYes, xIf_t, xIf_f, xNo, sNext, thn2, sSeq, sRet, sRetN, sAsg, sIf, tN, sSq, sRng, sRng2, sEnu, wipeN, xLc, setAll, xSl, xPart, dPart, lcGo_N, lcGo_T, lcGo_P, lcGo_H, tup_tt, tup_it, tup_1, lst_1, tT_pr, dNeg_int, lcM_int, lcM_bool, lcM_tpl, lcM_pr, lss_fold, List.map_id', List.map_id_fun', List.map_id_fun, List.filter_yes, items_tpl, items_lss, items_nil, items_tnil, enu_rows, enu_prs, dEq_int, dEq_bool, dEq_tpl, dEq_lss, dEq_pr, dEq_nil, dEq_tnil, dNe_int, dNe_bool, dNe_tpl, dNe_lss, dNe_pr, dNe_nil, dNe_tnil, dIn_tpl, dIn_lss, dNotIn_tpl, dNotIn_lss, dLen_tpl, dLen_lss, dTuple_tpl, dTuple_lss, dList_tpl, dList_lss, dAll_lss, dAny_lss, dIx_0, dIx_1, dLt_int, dLe_int, dGt_int, dGe_int, dAdd_int, dSub_int, isT_bool, m_has_all, h, decide_true, Bool.not_true, Bool.false_and]
  · simp only [f_is_less, c_is_less, N_is_less, runD, outD, startN, List.length_cons, List.length_nil, List.map_cons, List.map_nil, List.cons_append, List.nil_append, List.replicate, List.getElem?_cons_zero, List.getElem?_cons_succ, List.set_cons_zero, List.set_cons_succ, List.set_nil, Option.bind_some, id, if_true, Nat.reduceAdd, Nat.reduceSub, Nat.reduceLeDiff, Nat.reduceEqDiff, Option.some.injEq, xVar, xC, x1, x2, xF, xArgs, xTup, xLst, xAnd, xOr, dNot, xNot, xYes, xIf_t, xIf_f, xNo, sNext, thn2, sSeq, sRet, sRetN, sAsg, sIf, tN, sSq, sRng, sRng2, sEnu, wipeN, xLc, setAll, xSl, xPart, dPart, lcGo_N, lcGo_T, lcGo_P, lcGo_H, tup_tt, tup_it, tup_1, lst_1, tT_pr, dNeg_int, lcM_int, lcM_bool, lcM_tpl, lcM_pr, lss_fold, List.map_id', List.map_id_fun', List.map_id_fun, List.filter_yes, items_tpl, items_lss, items_nil, items_tnil, enu_rows, enu_prs, dEq_int, dEq_bool, dEq_tpl, dEq_lss, dEq_pr, dEq_nil, dEq_tnil, dNe_int, dNe_bool, dNe_tpl, dNe_lss, dNe_pr, dNe_nil, dNe_tnil, dIn_tpl, dIn_lss, dNotIn_tpl, dNotIn_lss, dLen_tpl, dLen_lss, dTuple_tpl, dTuple_lss, dList_tpl, dList_lss, dAll_lss, dAny_lss, dIx_0, dIx_1, dLt_int, dLe_int, dGt_int, dGe_int, dAdd_int, dSub_int, isT_bool, m_has_all, h, decide_false, Bool.not_false, Bool.true_and]
def shG (m : Int) (L : List Ms) (s : Ms) : Ms := (up m).filter fun x => (L.filter fun r => isL s r).all fun r => decide (x ∈ r)
theorem m_is_shared_by_greater {m : Int} {L : List Ms} {s : Ms} (hm : 0 ≤ m ∧ m ≤ 100) : f_is_shared_by_greater [mk s, rws L, .int m] = some (.bool (decide (s = shG m L s))) := by
  have hr : dRange (.int 0) (.int m) = some ((up m).map .int) := dRange_up (by omega)
  simp only [f_is_shared_by_greater, c_is_shared_by_greater, N_is_shared_by_greater, runD, outD, startN, List.length_cons, List.length_nil, List.map_cons, List.map_nil, List.cons_append, List.nil_append, List.replicate, List.getElem?_cons_zero, List.getElem?_cons_succ, List.set_cons_zero, List.set_cons_succ, List.set_nil, Option.bind_some, id, if_true, Nat.reduceAdd, Nat.reduceSub, Nat.reduceLeDiff, Nat.reduceEqDiff, Option.some.injEq, xVar, xC, x1, x2, xF, xArgs, xTup, xLst, xAnd, xOr, dNot, xNot, xYes, xIf_t, xIf_f, xNo, sNext, thn2, sSeq, sRet, sRetN, sAsg, sIf, tN, sSq, sRng, sRng2, sEnu, wipeN, xLc, setAll, xSl, xPart, dPart, lcGo_N, lcGo_T, lcGo_P, lcGo_H, tup_tt, tup_it, tup_1, lst_1, tT_pr, dNeg_int, lcM_int, lcM_bool, lcM_tpl, lcM_pr, lss_fold, List.map_id', List.map_id_fun', List.map_id_fun, List.filter_yes, items_tpl, items_lss, items_nil, items_tnil, enu_rows, enu_prs, dEq_int, dEq_bool, dEq_tpl, dEq_lss, dEq_pr, dEq_nil, dEq_tnil, dNe_int, dNe_bool, dNe_tpl, dNe_lss, dNe_pr, dNe_nil, dNe_tnil, dIn_tpl, dIn_lss, dNotIn_tpl, dNotIn_lss, dLen_tpl, dLen_lss, dTuple_tpl, dTuple_lss, dList_tpl, dList_lss, dAll_lss, dAny_lss, dIx_0, dIx_1, dLt_int, dLe_int, dGt_int, dGe_int, dAdd_int, dSub_int, isT_bool, m_is_less, hr, all_id]
  rfl
def pln (m : Int) (L : List Ms) : List Ms := (allM m).filter fun s => decide (s ∈ L) && !decide (s = shG m L s)
theorem m_plain {m : Int} {L : List Ms} (hm : 0 ≤ m ∧ m ≤ 6) : f_plain [tb m L] = some (tb m (pln m L)) := by
  refine run_ret rfl ?_
  unfold c_plain
  refine st_asg (d := rws L) (by simp only [N_plain, runD, outD, startN, List.length_cons, List.length_nil, List.map_cons, List.map_nil, List.cons_append, List.nil_append, List.replicate, List.getElem?_cons_zero, List.getElem?_cons_succ, List.set_cons_zero, List.set_cons_succ, List.set_nil, Option.bind_some, id, if_true, Nat.reduceAdd, Nat.reduceSub, Nat.reduceLeDiff, Nat.reduceEqDiff, Option.some.injEq, xVar, xC, x1, x2, xF, xArgs, xTup, xLst, xAnd, xOr, dNot, xNot, xYes, xIf_t, xIf_f, xNo, sNext, thn2, sSeq, sRet, sRetN, sAsg, sIf, tN, sSq, sRng, sRng2, sEnu, wipeN, xLc, setAll, xSl, xPart, dPart, lcGo_N, lcGo_T, lcGo_P, lcGo_H, tup_tt, tup_it, tup_1, lst_1, tT_pr, dNeg_int, lcM_int, lcM_bool, lcM_tpl, lcM_pr, lss_fold, List.map_id', List.map_id_fun', List.map_id_fun, List.filter_yes, items_tpl, items_lss, items_nil, items_tnil, enu_rows, enu_prs, dEq_int, dEq_bool, dEq_tpl, dEq_lss, dEq_pr, dEq_nil, dEq_tnil, dNe_int, dNe_bool, dNe_tpl, dNe_lss, dNe_pr, dNe_nil, dNe_tnil, dIn_tpl, dIn_lss, dNotIn_tpl, dNotIn_lss, dLen_tpl, dLen_lss, dTuple_tpl, dTuple_lss, dList_tpl, dList_lss, dAll_lss, dAny_lss, dIx_0, dIx_1, dLt_int, dLe_int, dGt_int, dGe_int, dAdd_int, dSub_int, isT_bool]) ?_
  refine st_own (ds := []) rfl ?_
  refine st_for (f := mk) (fun i (b : List Ms) ρ => b.length ≤ i ∧ ∃ y, ρ = [some (tb m L), some (rws L), some (lss mk b), y]) (fun b s => if (decide (s ∈ L) && !decide (s = shG m L s)) = true then b ++ [s] else b) (allM m) [] ?_ ⟨Nat.le_refl _, none, rfl⟩ ?_ ?_
  · simp only [N_plain, runD, outD, startN, List.length_cons, List.length_nil, List.map_cons, List.map_nil, List.cons_append, List.nil_append, List.replicate, List.getElem?_cons_zero, List.getElem?_cons_succ, List.set_cons_zero, List.set_cons_succ, List.set_nil, Option.bind_some, id, if_true, Nat.reduceAdd, Nat.reduceSub, Nat.reduceLeDiff, Nat.reduceEqDiff, Option.some.injEq, xVar, xC, x1, x2, xF, xArgs, xTup, xLst, xAnd, xOr, dNot, xNot, xYes, xIf_t, xIf_f, xNo, sNext, thn2, sSeq, sRet, sRetN, sAsg, sIf, tN, sSq, sRng, sRng2, sEnu, wipeN, xLc, setAll, xSl, xPart, dPart, lcGo_N, lcGo_T, lcGo_P, lcGo_H, tup_tt, tup_it, tup_1, lst_1, tT_pr, dNeg_int, lcM_int, lcM_bool, lcM_tpl, lcM_pr, lss_fold, List.map_id', List.map_id_fun', List.map_id_fun, List.filter_yes, items_tpl, items_lss, items_nil, items_tnil, enu_rows, enu_prs, dEq_int, dEq_bool, dEq_tpl, dEq_lss, dEq_pr, dEq_nil, dEq_tnil, dNe_int, dNe_bool, dNe_tpl, dNe_lss, dNe_pr, dNe_nil, dNe_tnil, dIn_tpl, dIn_lss, dNotIn_tpl, dNotIn_lss, dLen_tpl, dLen_lss, dTuple_tpl, dTuple_lss, dList_tpl, dList_lss, dAll_lss, dAny_lss, dIx_0, dIx_1, dLt_int, dLe_int, dGt_int, dGe_int, dAdd_int, dSub_int, isT_bool, m_all_marks hm]
  · rintro j b ρ s hs ⟨hb, y, rfl⟩
    have hj : j < 64 := Nat.lt_of_lt_of_le (List.getElem?_eq_some_iff.mp hs).1 (allM_len hm)
    have happ : appD (mk s) (lss mk b) = some (lss mk (b ++ [s])) := app_lss (Nat.lt_of_le_of_lt hb (Nat.lt_trans hj (by decide)))
    by_cases e1 : s ∈ L
    · by_cases e2 : s = shG m L s
      · refine ⟨_, [some (tb m L), some (rws L), some (lss mk b), some (mk s)], rfl, ?_, ?_⟩
        · simp only [runD, outD, startN, List.length_cons, List.length_nil, List.map_cons, List.map_nil, List.cons_append, List.nil_append, List.replicate, List.getElem?_cons_zero, List.getElem?_cons_succ, List.set_cons_zero, List.set_cons_succ, List.set_nil, Option.bind_some, id, if_true, Nat.reduceAdd, Nat.reduceSub, Nat.reduceLeDiff, Nat.reduceEqDiff, Option.some.injEq, xVar, xC, x1, x2, xF, xArgs, xTup, xLst, xAnd, xOr, dNot, xNot, xYes, xIf_t, xIf_f, xNo, sNext, thn2, sSeq, sRet, sRetN, sAsg, sIf, tN, sSq, sRng, sRng2, sEnu, wipeN, xLc, setAll, xSl, xPart, dPart, lcGo_N, lcGo_T, lcGo_P, lcGo_H, tup_tt, tup_it, tup_1, lst_1, tT_pr, dNeg_int, lcM_int, lcM_bool, lcM_tpl, lcM_pr, lss_fold, List.map_id', List.map_id_fun', List.map_id_fun, List.filter_yes, items_tpl, items_lss, items_nil, items_tnil, enu_rows, enu_prs, dEq_int, dEq_bool, dEq_tpl, dEq_lss, dEq_pr, dEq_nil, dEq_tnil, dNe_int, dNe_bool, dNe_tpl, dNe_lss, dNe_pr, dNe_nil, dNe_tnil, dIn_tpl, dIn_lss, dNotIn_tpl, dNotIn_lss, dLen_tpl, dLen_lss, dTuple_tpl, dTuple_lss, dList_tpl, dList_lss, dAll_lss, dAny_lss, dIx_0, dIx_1, dLt_int, dLe_int, dGt_int, dGe_int, dAdd_int, dSub_int, isT_bool, m_is_shared_by_greater (show 0 ≤ m ∧ m ≤ 100 by omega), eq_true e1, decide_true, eq_true e2, decide_true, Bool.not_true]
        · rw [if_neg (by simp [e1, ← e2])]
          exact ⟨Nat.le_succ_of_le hb, some (mk s), rfl⟩
      · refine ⟨_, [some (tb m L), some (rws L), some (lss mk (b ++ [s])), some (mk s)], rfl, ?_, ?_⟩
        · simp only [runD, outD, startN, List.length_cons, List.length_nil, List.map_cons, List.map_nil, List.cons_append, List.nil_append, List.replicate, List.getElem?_cons_zero, List.getElem?_cons_succ, List.set_cons_zero, List.set_cons_succ, List.set_nil, Option.bind_some, id, if_true, Nat.reduceAdd, Nat.reduceSub, Nat.reduceLeDiff, Nat.reduceEqDiff, Option.some.injEq, xVar, xC, x1, x2, xF, xArgs, xTup, xLst, xAnd, xOr, dNot, xNot, xYes, xIf_t, xIf_f, xNo, sNext, thn2, sSeq, sRet, sRetN, sAsg, sIf, tN, sSq, sRng, sRng2, sEnu, wipeN, xLc, setAll, xSl, xPart, dPart, lcGo_N, lcGo_T, lcGo_P, lcGo_H, tup_tt, tup_it, tup_1, lst_1, tT_pr, dNeg_int, lcM_int, lcM_bool, lcM_tpl, lcM_pr, lss_fold, List.map_id', List.map_id_fun', List.map_id_fun, List.filter_yes, items_tpl, items_lss, items_nil, items_tnil, enu_rows, enu_prs, dEq_int, dEq_bool, dEq_tpl, dEq_lss, dEq_pr, dEq_nil, dEq_tnil, dNe_int, dNe_bool, dNe_tpl, dNe_lss, dNe_pr, dNe_nil, dNe_tnil, dIn_tpl, dIn_lss, dNotIn_tpl, dNotIn_lss, dLen_tpl, dLen_lss, dTuple_tpl, dTuple_lss, dList_tpl, dList_lss, dAll_lss, dAny_lss, dIx_0, dIx_1, dLt_int, dLe_int, dGt_int, dGe_int, dAdd_int, dSub_int, isT_bool, sApp, m_is_shared_by_greater (show 0 ≤ m ∧ m ≤ 100 by omega), eq_true e1, decide_true, eq_false e2, decide_false, Bool.not_false, happ]
        · rw [if_pos (by simp [e1, e2])]
          exact ⟨by rw [List.length_append]; exact Nat.succ_le_succ hb, some (mk s), rfl⟩
    · refine ⟨_, [some (tb m L), some (rws L), some (lss mk b), some (mk s)], rfl, ?_, ?_⟩
      · simp only [runD, outD, startN, List.length_cons, List.length_nil, List.map_cons, List.map_nil, List.cons_append, List.nil_append, List.replicate, List.getElem?_cons_zero, List.getElem?_cons_succ, List.set_cons_zero, List.set_cons_succ, List.set_nil, Option.bind_some, id, if_true, Nat.reduceAdd, Nat.reduceSub, Nat.reduceLeDiff, Nat.reduceEqDiff, Option.some.injEq, xVar, xC, x1, x2, xF, xArgs, xTup, xLst, xAnd, xOr, dNot, xNot, xYes, xIf_t, xIf_f, xNo, sNext, thn2, sSeq, sRet, sRetN, sAsg, sIf, tN, sSq, sRng, sRng2, sEnu, wipeN, xLc, setAll, xSl, xPart, dPart, lcGo_N, lcGo_T, lcGo_P, lcGo_H, tup_tt, tup_it, tup_1, lst_1, tT_pr, dNeg_int, lcM_int, lcM_bool, lcM_tpl, lcM_pr, lss_fold, List.map_id', List.map_id_fun', List.map_id_fun, List.filter_yes, items_tpl, items_lss, items_nil, items_tnil, enu_rows, enu_prs, dEq_int, dEq_bool, dEq_tpl, dEq_lss, dEq_pr, dEq_nil, dEq_tnil, dNe_int, dNe_bool, dNe_tpl, dNe_lss, dNe_pr, dNe_nil, dNe_tnil, dIn_tpl, dIn_lss, dNotIn_tpl, dNotIn_lss, dLen_tpl, dLen_lss, dTuple_tpl, dTuple_lss, dList_tpl, dList_lss, dAll_lss, dAny_lss, dIx_0, dIx_1, dLt_int, dLe_int, dGt_int, dGe_int, dAdd_int, dSub_int, isT_bool, eq_false e1, decide_false]
      · rw [if_neg (by simp [e1])]
        exact ⟨Nat.le_succ_of_le hb, some (mk s), rfl⟩
  · rintro ρ ⟨_, y, rfl⟩
    rw [foldl_if (fun s => decide (s ∈ L) && !decide (s = shG m L s)) (fun s => s)]
    simp only [runD, outD, startN, List.length_cons, List.length_nil, List.map_cons, List.map_nil, List.cons_append, List.nil_append, List.replicate, List.getElem?_cons_zero, List.getElem?_cons_succ, List.set_cons_zero, List.set_cons_succ, List.set_nil, Option.bind_some, id, if_true, Nat.reduceAdd, Nat.reduceSub, Nat.reduceLeDiff, Nat.reduceEqDiff, Option.some.injEq, xVar, xC, x1, x2, xF, xArgs, xTup, xLst, xAnd, xOr, dNot, xNot, xYes, xIf_t, xIf_f, xNo, sNext, thn2, sSeq, sRet, sRetN, sAsg, sIf, tN, sSq, sRng, sRng2, sEnu, wipeN, xLc, setAll, xSl, xPart, dPart, lcGo_N, lcGo_T, lcGo_P, lcGo_H, tup_tt, tup_it, tup_1, lst_1, tT_pr, dNeg_int, lcM_int, lcM_bool, lcM_tpl, lcM_pr, lss_fold, List.map_id', List.map_id_fun', List.map_id_fun, List.filter_yes, items_tpl, items_lss, items_nil, items_tnil, enu_rows, enu_prs, dEq_int, dEq_bool, dEq_tpl, dEq_lss, dEq_pr, dEq_nil, dEq_tnil, dNe_int, dNe_bool, dNe_tpl, dNe_lss, dNe_pr, dNe_nil, dNe_tnil, dIn_tpl, dIn_lss, dNotIn_tpl, dNotIn_lss, dLen_tpl, dLen_lss, dTuple_tpl, dTuple_lss, dList_tpl, dList_lss, dAll_lss, dAny_lss, dIx_0, dIx_1, dLt_int, dLe_int, dGt_int, dGe_int, dAdd_int, dSub_int, isT_bool, noLst_rws]
    rfl
theorem m_about {m : Int} {L : List Ms} (hm : 0 ≤ m ∧ m ≤ 100) (h1 : 1 ≤ L.length) (h6 : L.length ≤ 6) : f_about [tb m L] = some (tb L.length (abtL m L)) := by
  have hr : dRange (.int 0) (.int m) = some ((up m).map .int) := dRange_up (by omega)
  refine run_ret rfl ?_
  unfold c_about
  refine st_no ?_ ?_
  · simp only [N_about, runD, outD, startN, List.length_cons, List.length_nil, List.map_cons, List.map_nil, List.cons_append, List.nil_append, List.replicate, List.getElem?_cons_zero, List.getElem?_cons_succ, List.set_cons_zero, List.set_cons_succ, List.set_nil, Option.bind_some, id, if_true, Nat.reduceAdd, Nat.reduceSub, Nat.reduceLeDiff, Nat.reduceEqDiff, Option.some.injEq, xVar, xC, x1, x2, xF, xArgs, xTup, xLst, xAnd, xOr, dNot, xNot, xYes, xIf_t, xIf_f, xNo, sNext, thn2, sSeq, sRet, sRetN, sAsg, sIf, tN, sSq, sRng, sRng2, sEnu, wipeN, xLc, setAll, xSl, xPart, dPart, lcGo_N, lcGo_T, lcGo_P, lcGo_H, tup_tt, tup_it, tup_1, lst_1, tT_pr, dNeg_int, lcM_int, lcM_bool, lcM_tpl, lcM_pr, lss_fold, List.map_id', List.map_id_fun', List.map_id_fun, List.filter_yes, items_tpl, items_lss, items_nil, items_tnil, enu_rows, enu_prs, dEq_int, dEq_bool, dEq_tpl, dEq_lss, dEq_pr, dEq_nil, dEq_tnil, dNe_int, dNe_bool, dNe_tpl, dNe_lss, dNe_pr, dNe_nil, dNe_tnil, dIn_tpl, dIn_lss, dNotIn_tpl, dNotIn_lss, dLen_tpl, dLen_lss, dTuple_tpl, dTuple_lss, dList_tpl, dList_lss, dAll_lss, dAny_lss, dIx_0, dIx_1, dLt_int, dLe_int, dGt_int, dGe_int, dAdd_int, dSub_int, isT_bool, xChain, decide_eq_true (show (1 : Int) ≤ L.length by omega), decide_eq_true (show (L.length : Int) ≤ 6 by omega), Bool.not_true]
  · simp only [N_about, runD, outD, startN, List.length_cons, List.length_nil, List.map_cons, List.map_nil, List.cons_append, List.nil_append, List.replicate, List.getElem?_cons_zero, List.getElem?_cons_succ, List.set_cons_zero, List.set_cons_succ, List.set_nil, Option.bind_some, id, if_true, Nat.reduceAdd, Nat.reduceSub, Nat.reduceLeDiff, Nat.reduceEqDiff, Option.some.injEq, xVar, xC, x1, x2, xF, xArgs, xTup, xLst, xAnd, xOr, dNot, xNot, xYes, xIf_t, xIf_f, xNo, sNext, thn2, sSeq, sRet, sRetN, sAsg, sIf, tN, sSq, sRng, sRng2, sEnu, wipeN, xLc, setAll, xSl, xPart, dPart, lcGo_N, lcGo_T, lcGo_P, lcGo_H, tup_tt, tup_it, tup_1, lst_1, tT_pr, dNeg_int, lcM_int, lcM_bool, lcM_tpl, lcM_pr, lss_fold, List.map_id', List.map_id_fun', List.map_id_fun, List.filter_yes, items_tpl, items_lss, items_nil, items_tnil, enu_rows, enu_prs, dEq_int, dEq_bool, dEq_tpl, dEq_lss, dEq_pr, dEq_nil, dEq_tnil, dNe_int, dNe_bool, dNe_tpl, dNe_lss, dNe_pr, dNe_nil, dNe_tnil, dIn_tpl, dIn_lss, dNotIn_tpl, dNotIn_lss, dLen_tpl, dLen_lss, dTuple_tpl, dTuple_lss, dList_tpl, dList_lss, dAll_lss, dAny_lss, dIx_0, dIx_1, dLt_int, dLe_int, dGt_int, dGe_int, dAdd_int, dSub_int, isT_bool, hr, m_having]

theorem m_only {m : Int} {L : List Ms} {s : Ms} (hL : L.length ≤ 1000) (h : s ≠ []) : f_only [tb m L, mk s] = some (tb s.length (L.map (cutR s))) := by
  have h0 : ¬ ((s.length : Int) = 0) := fun e => h (List.eq_nil_of_length_eq_zero (by omega))
  refine run_ret rfl ?_
  unfold c_only
  refine st_no (by simp only [N_only, runD, outD, startN, List.length_cons, List.length_nil, List.map_cons, List.map_nil, List.cons_append, List.nil_append, List.replicate, List.getElem?_cons_zero, List.getElem?_cons_succ, List.set_cons_zero, List.set_cons_succ, List.set_nil, Option.bind_some, id, if_true, Nat.reduceAdd, Nat.reduceSub, Nat.reduceLeDiff, Nat.reduceEqDiff, Option.some.injEq, xVar, xC, x1, x2, xF, xArgs, xTup, xLst, xAnd, xOr, dNot, xNot, xYes, xIf_t, xIf_f, xNo, sNext, thn2, sSeq, sRet, sRetN, sAsg, sIf, tN, sSq, sRng, sRng2, sEnu, wipeN, xLc, setAll, xSl, xPart, dPart, lcGo_N, lcGo_T, lcGo_P, lcGo_H, tup_tt, tup_it, tup_1, lst_1, tT_pr, dNeg_int, lcM_int, lcM_bool, lcM_tpl, lcM_pr, lss_fold, List.map_id', List.map_id_fun', List.map_id_fun, List.filter_yes, items_tpl, items_lss, items_nil, items_tnil, enu_rows, enu_prs, dEq_int, dEq_bool, dEq_tpl, dEq_lss, dEq_pr, dEq_nil, dEq_tnil, dNe_int, dNe_bool, dNe_tpl, dNe_lss, dNe_pr, dNe_nil, dNe_tnil, dIn_tpl, dIn_lss, dNotIn_tpl, dNotIn_lss, dLen_tpl, dLen_lss, dTuple_tpl, dTuple_lss, dList_tpl, dList_lss, dAll_lss, dAny_lss, dIx_0, dIx_1, dLt_int, dLe_int, dGt_int, dGe_int, dAdd_int, dSub_int, isT_bool, decide_eq_false h0]) ?_
  refine st_own (ds := []) rfl ?_
  refine st_for (f := mk) (fun i (b : List Ms) ρ => b.length = i ∧ ∃ y, ρ = [some (tb m L), some (mk s), some (lss mk b), y, none, none]) (fun b r => b ++ [cutR s r]) L [] (by simp only [N_only, runD, outD, startN, List.length_cons, List.length_nil, List.map_cons, List.map_nil, List.cons_append, List.nil_append, List.replicate, List.getElem?_cons_zero, List.getElem?_cons_succ, List.set_cons_zero, List.set_cons_succ, List.set_nil, Option.bind_some, id, if_true, Nat.reduceAdd, Nat.reduceSub, Nat.reduceLeDiff, Nat.reduceEqDiff, Option.some.injEq, xVar, xC, x1, x2, xF, xArgs, xTup, xLst, xAnd, xOr, dNot, xNot, xYes, xIf_t, xIf_f, xNo, sNext, thn2, sSeq, sRet, sRetN, sAsg, sIf, tN, sSq, sRng, sRng2, sEnu, wipeN, xLc, setAll, xSl, xPart, dPart, lcGo_N, lcGo_T, lcGo_P, lcGo_H, tup_tt, tup_it, tup_1, lst_1, tT_pr, dNeg_int, lcM_int, lcM_bool, lcM_tpl, lcM_pr, lss_fold, List.map_id', List.map_id_fun', List.map_id_fun, List.filter_yes, items_tpl, items_lss, items_nil, items_tnil, enu_rows, enu_prs, dEq_int, dEq_bool, dEq_tpl, dEq_lss, dEq_pr, dEq_nil, dEq_tnil, dNe_int, dNe_bool, dNe_tpl, dNe_lss, dNe_pr, dNe_nil, dNe_tnil, dIn_tpl, dIn_lss, dNotIn_tpl, dNotIn_lss, dLen_tpl, dLen_lss, dTuple_tpl, dTuple_lss, dList_tpl, dList_lss, dAll_lss, dAny_lss, dIx_0, dIx_1, dLt_int, dLe_int, dGt_int, dGe_int, dAdd_int, dSub_int, isT_bool]) ⟨rfl, none, rfl⟩ ?_ ?_
  · rintro j b ρ r hr ⟨hb, y, rfl⟩
    have hj : j < 1000 := Nat.lt_of_lt_of_le (List.getElem?_eq_some_iff.mp hr).1 hL
    have happ : appD (mk (cutR s r)) (lss mk b) = some (lss mk (b ++ [cutR s r])) := app_lss (by rw [hb]; exact Nat.lt_trans hj (by decide))
    refine ⟨_, [some (tb m L), some (mk s), some (lss mk (b ++ [cutR s r])), some (mk r), none, none], rfl, ?_, by rw [List.length_append, hb]; rfl, some (mk r), rfl⟩
    simp only [runD, outD, startN, List.length_cons, List.length_nil, List.map_cons, List.map_nil, List.cons_append, List.nil_append, List.replicate, List.getElem?_cons_zero, List.getElem?_cons_succ, List.set_cons_zero, List.set_cons_succ, List.set_nil, Option.bind_some, id, if_true, Nat.reduceAdd, Nat.reduceSub, Nat.reduceLeDiff, Nat.reduceEqDiff, Option.some.injEq, xVar, xC, x1, x2, xF, xArgs, xTup, xLst, xAnd, xOr, dNot, xNot, xYes, xIf_t, xIf_f, xNo, sNext, thn2, sSeq, sRet, sRetN, sAsg, sIf, tN, sSq, sRng, sRng2, sEnu, wipeN, xLc, setAll, xSl, xPart, dPart, lcGo_N, lcGo_T, lcGo_P, lcGo_H, tup_tt, tup_it, tup_1, lst_1, tT_pr, dNeg_int, lcM_int, lcM_bool, lcM_tpl, lcM_pr, lss_fold, List.map_id', List.map_id_fun', List.map_id_fun, List.filter_yes, items_tpl, items_lss, items_nil, items_tnil, enu_rows, enu_prs, dEq_int, dEq_bool, dEq_tpl, dEq_lss, dEq_pr, dEq_nil, dEq_tnil, dNe_int, dNe_bool, dNe_tpl, dNe_lss, dNe_pr, dNe_nil, dNe_tnil, dIn_tpl, dIn_lss, dNotIn_tpl, dNotIn_lss, dLen_tpl, dLen_lss, dTuple_tpl, dTuple_lss, dList_tpl, dList_lss, dAll_lss, dAny_lss, dIx_0, dIx_1, dLt_int, dLe_int, dGt_int, dGe_int, dAdd_int, dSub_int, isT_bool, sApp, enu_ints]
    show (appD (mk (cutR s r)) (lss mk b)).bind _ = _
    rw [happ]
    rfl
  · rintro ρ ⟨_, y, rfl⟩
    rw [foldl_app, List.nil_append]
    simp only [runD, outD, startN, List.length_cons, List.length_nil, List.map_cons, List.map_nil, List.cons_append, List.nil_append, List.replicate, List.getElem?_cons_zero, List.getElem?_cons_succ, List.set_cons_zero, List.set_cons_succ, List.set_nil, Option.bind_some, id, if_true, Nat.reduceAdd, Nat.reduceSub, Nat.reduceLeDiff, Nat.reduceEqDiff, Option.some.injEq, xVar, xC, x1, x2, xF, xArgs, xTup, xLst, xAnd, xOr, dNot, xNot, xYes, xIf_t, xIf_f, xNo, sNext, thn2, sSeq, sRet, sRetN, sAsg, sIf, tN, sSq, sRng, sRng2, sEnu, wipeN, xLc, setAll, xSl, xPart, dPart, lcGo_N, lcGo_T, lcGo_P, lcGo_H, tup_tt, tup_it, tup_1, lst_1, tT_pr, dNeg_int, lcM_int, lcM_bool, lcM_tpl, lcM_pr, lss_fold, List.map_id', List.map_id_fun', List.map_id_fun, List.filter_yes, items_tpl, items_lss, items_nil, items_tnil, enu_rows, enu_prs, dEq_int, dEq_bool, dEq_tpl, dEq_lss, dEq_pr, dEq_nil, dEq_tnil, dNe_int, dNe_bool, dNe_tpl, dNe_lss, dNe_pr, dNe_nil, dNe_tnil, dIn_tpl, dIn_lss, dNotIn_tpl, dNotIn_lss, dLen_tpl, dLen_lss, dTuple_tpl, dTuple_lss, dList_tpl, dList_lss, dAll_lss, dAny_lss, dIx_0, dIx_1, dLt_int, dLe_int, dGt_int, dGe_int, dAdd_int, dSub_int, isT_bool, noLst_rws]

theorem m_beside {m : Int} {L L2 : List Ms} (h : L.length + L2.length ≤ 64) : f_beside [tb m L, tb m L2] = some (tb m (L ++ L2)) := by
  have hadd : dAdd (rws L) (rws L2) = some (rws (L ++ L2)) := dAdd_tpl (by show _ ≤ 1000000; omega)
  refine run_ret rfl ?_
  unfold c_beside
  refine st_no ?_ ?_
  · simp only [N_beside, runD, outD, startN, List.length_cons, List.length_nil, List.map_cons, List.map_nil, List.cons_append, List.nil_append, List.replicate, List.getElem?_cons_zero, List.getElem?_cons_succ, List.set_cons_zero, List.set_cons_succ, List.set_nil, Option.bind_some, id, if_true, Nat.reduceAdd, Nat.reduceSub, Nat.reduceLeDiff, Nat.reduceEqDiff, Option.some.injEq, xVar, xC, x1, x2, xF, xArgs, xTup, xLst, xAnd, xOr, dNot, xNot, xYes, xIf_t, xIf_f, xNo, sNext, thn2, sSeq, sRet, sRetN, sAsg, sIf, tN, sSq, sRng, sRng2, sEnu, wipeN, xLc, setAll, xSl, xPart, dPart, lcGo_N, lcGo_T, lcGo_P, lcGo_H, tup_tt, tup_it, tup_1, lst_1, tT_pr, dNeg_int, lcM_int, lcM_bool, lcM_tpl, lcM_pr, lss_fold, List.map_id', List.map_id_fun', List.map_id_fun, List.filter_yes, items_tpl, items_lss, items_nil, items_tnil, enu_rows, enu_prs, dEq_int, dEq_bool, dEq_tpl, dEq_lss, dEq_pr, dEq_nil, dEq_tnil, dNe_int, dNe_bool, dNe_tpl, dNe_lss, dNe_pr, dNe_nil, dNe_tnil, dIn_tpl, dIn_lss, dNotIn_tpl, dNotIn_lss, dLen_tpl, dLen_lss, dTuple_tpl, dTuple_lss, dList_tpl, dList_lss, dAll_lss, dAny_lss, dIx_0, dIx_1, dLt_int, dLe_int, dGt_int, dGe_int, dAdd_int, dSub_int, isT_bool, decide_true, Bool.not_true, decide_eq_false (show ¬ (64 : Int) < L.length + L2.length by omega)]
  · simp only [N_beside, runD, outD, startN, List.length_cons, List.length_nil, List.map_cons, List.map_nil, List.cons_append, List.nil_append, List.replicate, List.getElem?_cons_zero, List.getElem?_cons_succ, List.set_cons_zero, List.set_cons_succ, List.set_nil, Option.bind_some, id, if_true, Nat.reduceAdd, Nat.reduceSub, Nat.reduceLeDiff, Nat.reduceEqDiff, Option.some.injEq, xVar, xC, x1, x2, xF, xArgs, xTup, xLst, xAnd, xOr, dNot, xNot, xYes, xIf_t, xIf_f, xNo, sNext, thn2, sSeq, sRet, sRetN, sAsg, sIf, tN, sSq, sRng, sRng2, sEnu, wipeN, xLc, setAll, xSl, xPart, dPart, lcGo_N, lcGo_T, lcGo_P, lcGo_H, tup_tt, tup_it, tup_1, lst_1, tT_pr, dNeg_int, lcM_int, lcM_bool, lcM_tpl, lcM_pr, lss_fold, List.map_id', List.map_id_fun', List.map_id_fun, List.filter_yes, items_tpl, items_lss, items_nil, items_tnil, enu_rows, enu_prs, dEq_int, dEq_bool, dEq_tpl, dEq_lss, dEq_pr, dEq_nil, dEq_tnil, dNe_int, dNe_bool, dNe_tpl, dNe_lss, dNe_pr, dNe_nil, dNe_tnil, dIn_tpl, dIn_lss, dNotIn_tpl, dNotIn_lss, dLen_tpl, dLen_lss, dTuple_tpl, dTuple_lss, dList_tpl, dList_lss, dAll_lss, dAny_lss, dIx_0, dIx_1, dLt_int, dLe_int, dGt_int, dGe_int, dAdd_int, dSub_int, isT_bool, hadd]

theorem m_law_marks_of {m : Int} {L : List Ms} (hm : 0 ≤ m ∧ m ≤ 6) : f_law_marks_of [tb m L] = some (lss mk (clM m L)) := by
  refine run_ret rfl ?_
  unfold c_law_marks_of
  simp only [N_law_marks_of, runD, outD, startN, List.length_cons, List.length_nil, List.map_cons, List.map_nil, List.cons_append, List.nil_append, List.replicate, List.getElem?_cons_zero, List.getElem?_cons_succ, List.set_cons_zero, List.set_cons_succ, List.set_nil, Option.bind_some, id, if_true, Nat.reduceAdd, Nat.reduceSub, Nat.reduceLeDiff, Nat.reduceEqDiff, Option.some.injEq, xVar, xC, x1, x2, xF, xArgs, xTup, xLst, xAnd, xOr, dNot, xNot, xYes, xIf_t, xIf_f, xNo, sNext, thn2, sSeq, sRet, sRetN, sAsg, sIf, tN, sSq, sRng, sRng2, sEnu, wipeN, xLc, setAll, xSl, xPart, dPart, lcGo_N, lcGo_T, lcGo_P, lcGo_H, tup_tt, tup_it, tup_1, lst_1, tT_pr, dNeg_int, lcM_int, lcM_bool, lcM_tpl, lcM_pr, lss_fold, List.map_id', List.map_id_fun', List.map_id_fun, List.filter_yes, items_tpl, items_lss, items_nil, items_tnil, enu_rows, enu_prs, dEq_int, dEq_bool, dEq_tpl, dEq_lss, dEq_pr, dEq_nil, dEq_tnil, dNe_int, dNe_bool, dNe_tpl, dNe_lss, dNe_pr, dNe_nil, dNe_tnil, dIn_tpl, dIn_lss, dNotIn_tpl, dNotIn_lss, dLen_tpl, dLen_lss, dTuple_tpl, dTuple_lss, dList_tpl, dList_lss, dAll_lss, dAny_lss, dIx_0, dIx_1, dLt_int, dLe_int, dGt_int, dGe_int, dAdd_int, dSub_int, isT_bool, m_notions hm]
  unfold nts
  rw [List.map_map]
  show Out.rt (lss mk ((clM m L).map id)) = _
  rw [List.map_id]


theorem law_true (ns : List Int) (hl : ns.length ≤ 63) : f_law [scr ns] = some (.bool true) := by
  obtain ⟨m, L, hT, T, hL8⟩ := m_law_table ns (most := 6) hl ⟨by decide, by decide⟩
  have hm6 : 0 ≤ m ∧ m ≤ 6 := ⟨by have := T.m1; omega, T.mm⟩
  have hm1 := T.m1
  have hm : 0 ≤ m ∧ m ≤ 100 := by omega
  have hr : dRange (.int 0) (.int m) = some ((up m).map .int) := dRange_up (by omega)
  have h12 : f_law_mixed [scr ns, .int 12] = some (.int (mixI ns 12)) := m_law_mixed (by decide)
  obtain ⟨s, hs, Is⟩ : ∃ s, f_law_marks [.int (mixI ns 12), .int m] = some (mk s) ∧ IsM m s := ⟨_, m_law_marks _ hm, mks_isM _ _⟩
  refine run_ret rfl ?_
  unfold c_law
  refine st_asg (d := tb m L) (by simp only [N_law, runD, outD, startN, List.length_cons, List.length_nil, List.map_cons, List.map_nil, List.cons_append, List.nil_append, List.replicate, List.getElem?_cons_zero, List.getElem?_cons_succ, List.set_cons_zero, List.set_cons_succ, List.set_nil, Option.bind_some, id, if_true, Nat.reduceAdd, Nat.reduceSub, Nat.reduceLeDiff, Nat.reduceEqDiff, Option.some.injEq, xVar, xC, x1, x2, xF, xArgs, xTup, xLst, xAnd, xOr, dNot, xNot, xYes, xIf_t, xIf_f, xNo, sNext, thn2, sSeq, sRet, sRetN, sAsg, sIf, tN, sSq, sRng, sRng2, sEnu, wipeN, xLc, setAll, xSl, xPart, dPart, lcGo_N, lcGo_T, lcGo_P, lcGo_H, tup_tt, tup_it, tup_1, lst_1, tT_pr, dNeg_int, lcM_int, lcM_bool, lcM_tpl, lcM_pr, lss_fold, List.map_id', List.map_id_fun', List.map_id_fun, List.filter_yes, items_tpl, items_lss, items_nil, items_tnil, enu_rows, enu_prs, dEq_int, dEq_bool, dEq_tpl, dEq_lss, dEq_pr, dEq_nil, dEq_tnil, dNe_int, dNe_bool, dNe_tpl, dNe_lss, dNe_pr, dNe_nil, dNe_tnil, dIn_tpl, dIn_lss, dNotIn_tpl, dNotIn_lss, dLen_tpl, dLen_lss, dTuple_tpl, dTuple_lss, dList_tpl, dList_lss, dAll_lss, dAny_lss, dIx_0, dIx_1, dLt_int, dLe_int, dGt_int, dGe_int, dAdd_int, dSub_int, isT_bool, hT]) ?_
  refine st_asg (d := .int m) (by simp only [N_law, runD, outD, startN, List.length_cons, List.length_nil, List.map_cons, List.map_nil, List.cons_append, List.nil_append, List.replicate, List.getElem?_cons_zero, List.getElem?_cons_succ, List.set_cons_zero, List.set_cons_succ, List.set_nil, Option.bind_some, id, if_true, Nat.reduceAdd, Nat.reduceSub, Nat.reduceLeDiff, Nat.reduceEqDiff, Option.some.injEq, xVar, xC, x1, x2, xF, xArgs, xTup, xLst, xAnd, xOr, dNot, xNot, xYes, xIf_t, xIf_f, xNo, sNext, thn2, sSeq, sRet, sRetN, sAsg, sIf, tN, sSq, sRng, sRng2, sEnu, wipeN, xLc, setAll, xSl, xPart, dPart, lcGo_N, lcGo_T, lcGo_P, lcGo_H, tup_tt, tup_it, tup_1, lst_1, tT_pr, dNeg_int, lcM_int, lcM_bool, lcM_tpl, lcM_pr, lss_fold, List.map_id', List.map_id_fun', List.map_id_fun, List.filter_yes, items_tpl, items_lss, items_nil, items_tnil, enu_rows, enu_prs, dEq_int, dEq_bool, dEq_tpl, dEq_lss, dEq_pr, dEq_nil, dEq_tnil, dNe_int, dNe_bool, dNe_tpl, dNe_lss, dNe_pr, dNe_nil, dNe_tnil, dIn_tpl, dIn_lss, dNotIn_tpl, dNotIn_lss, dLen_tpl, dLen_lss, dTuple_tpl, dTuple_lss, dList_tpl, dList_lss, dAll_lss, dAny_lss, dIx_0, dIx_1, dLt_int, dLe_int, dGt_int, dGe_int, dAdd_int, dSub_int, isT_bool]) ?_
  -- turned about
  refine st_if2 (b := decide (0 < L.length ∧ L.length < 7)) (fun ρ => ∃ y, ρ = [some (scr ns), some (tb m L), some (.int m), none, none, none, none, none, none, y, none]) ?_ (fun hb => ?_) (fun _ => ⟨none, rfl⟩) ?_
  · by_cases h0 : 0 < L.length
    · by_cases h7 : L.length < 7
      · simp only [N_law, runD, outD, startN, List.length_cons, List.length_nil, List.map_cons, List.map_nil, List.cons_append, List.nil_append, List.replicate, List.getElem?_cons_zero, List.getElem?_cons_succ, List.set_cons_zero, List.set_cons_succ, List.set_nil, Option.bind_some, id, if_true, Nat.reduceAdd, Nat.reduceSub, Nat.reduceLeDiff, Nat.reduceEqDiff, Option.some.injEq, xVar, xC, x1, x2, xF, xArgs, xTup, xLst, xAnd, xOr, dNot, xNot, xYes, xIf_t, xIf_f, xNo, sNext, thn2, sSeq, sRet, sRetN, sAsg, sIf, tN, sSq, sRng, sRng2, sEnu, wipeN, xLc, setAll, xSl, xPart, dPart, lcGo_N, lcGo_T, lcGo_P, lcGo_H, tup_tt, tup_it, tup_1, lst_1, tT_pr, dNeg_int, lcM_int, lcM_bool, lcM_tpl, lcM_pr, lss_fold, List.map_id', List.map_id_fun', List.map_id_fun, List.filter_yes, items_tpl, items_lss, items_nil, items_tnil, enu_rows, enu_prs, dEq_int, dEq_bool, dEq_tpl, dEq_lss, dEq_pr, dEq_nil, dEq_tnil, dNe_int, dNe_bool, dNe_tpl, dNe_lss, dNe_pr, dNe_nil, dNe_tnil, dIn_tpl, dIn_lss, dNotIn_tpl, dNotIn_lss, dLen_tpl, dLen_lss, dTuple_tpl, dTuple_lss, dList_tpl, dList_lss, dAll_lss, dAny_lss, dIx_0, dIx_1, dLt_int, dLe_int, dGt_int, dGe_int, dAdd_int, dSub_int, isT_bool, xChain, decide_eq_true (show (0 : Int) < L.length by omega), decide_eq_true (show (L.length : Int) < 7 by omega), eq_true h0, eq_true h7, and_self, decide_true]
      · simp only [N_law, runD, outD, startN, List.length_cons, List.length_nil, List.map_cons, List.map_nil, List.cons_append, List.nil_append, List.replicate, List.getElem?_cons_zero, List.getElem?_cons_succ, List.set_cons_zero, List.set_cons_succ, List.set_nil, Option.bind_some, id, if_true, Nat.reduceAdd, Nat.reduceSub, Nat.reduceLeDiff, Nat.reduceEqDiff, Option.some.injEq, xVar, xC, x1, x2, xF, xArgs, xTup, xLst, xAnd, xOr, dNot, xNot, xYes, xIf_t, xIf_f, xNo, sNext, thn2, sSeq, sRet, sRetN, sAsg, sIf, tN, sSq, sRng, sRng2, sEnu, wipeN, xLc, setAll, xSl, xPart, dPart, lcGo_N, lcGo_T, lcGo_P, lcGo_H, tup_tt, tup_it, tup_1, lst_1, tT_pr, dNeg_int, lcM_int, lcM_bool, lcM_tpl, lcM_pr, lss_fold, List.map_id', List.map_id_fun', List.map_id_fun, List.filter_yes, items_tpl, items_lss, items_nil, items_tnil, enu_rows, enu_prs, dEq_int, dEq_bool, dEq_tpl, dEq_lss, dEq_pr, dEq_nil, dEq_tnil, dNe_int, dNe_bool, dNe_tpl, dNe_lss, dNe_pr, dNe_nil, dNe_tnil, dIn_tpl, dIn_lss, dNotIn_tpl, dNotIn_lss, dLen_tpl, dLen_lss, dTuple_tpl, dTuple_lss, dList_tpl, dList_lss, dAll_lss, dAny_lss, dIx_0, dIx_1, dLt_int, dLe_int, dGt_int, dGe_int, dAdd_int, dSub_int, isT_bool, xChain, decide_eq_true (show (0 : Int) < L.length by omega), decide_eq_false (show ¬ (L.length : Int) < 7 by omega), eq_false h7, and_false, decide_false]
    · simp only [N_law, runD, outD, startN, List.length_cons, List.length_nil, List.map_cons, List.map_nil, List.cons_append, List.nil_append, List.replicate, List.getElem?_cons_zero, List.getElem?_cons_succ, List.set_cons_zero, List.set_cons_succ, List.set_nil, Option.bind_some, id, if_true, Nat.reduceAdd, Nat.reduceSub, Nat.reduceLeDiff, Nat.reduceEqDiff, Option.some.injEq, xVar, xC, x1, x2, xF, xArgs, xTup, xLst, xAnd, xOr, dNot, xNot, xYes, xIf_t, xIf_f, xNo, sNext, thn2, sSeq, sRet, sRetN, sAsg, sIf, tN, sSq, sRng, sRng2, sEnu, wipeN, xLc, setAll, xSl, xPart, dPart, lcGo_N, lcGo_T, lcGo_P, lcGo_H, tup_tt, tup_it, tup_1, lst_1, tT_pr, dNeg_int, lcM_int, lcM_bool, lcM_tpl, lcM_pr, lss_fold, List.map_id', List.map_id_fun', List.map_id_fun, List.filter_yes, items_tpl, items_lss, items_nil, items_tnil, enu_rows, enu_prs, dEq_int, dEq_bool, dEq_tpl, dEq_lss, dEq_pr, dEq_nil, dEq_tnil, dNe_int, dNe_bool, dNe_tpl, dNe_lss, dNe_pr, dNe_nil, dNe_tnil, dIn_tpl, dIn_lss, dNotIn_tpl, dNotIn_lss, dLen_tpl, dLen_lss, dTuple_tpl, dTuple_lss, dList_tpl, dList_lss, dAll_lss, dAny_lss, dIx_0, dIx_1, dLt_int, dLe_int, dGt_int, dGe_int, dAdd_int, dSub_int, isT_bool, xChain, decide_eq_false (show ¬ (0 : Int) < L.length by omega), eq_false h0, false_and, decide_false]
  · have hb' := of_decide_eq_true hb
    have hn6 : 0 ≤ (L.length : Int) ∧ (L.length : Int) ≤ 6 := by omega
    have hal := abt_len (m := m) (by omega) L
    have ea : f_about [tb m L] = some (tb L.length (abtL m L)) := m_about hm (by omega) (by omega)
    have eb : f_about [tb L.length (abtL m L)] = some (tb m L) := by
      rw [m_about (m := L.length) (by omega) (by omega) (by omega), hal, abt_abt (by omega) T.row]
    have hp := nts_turn hm6 (L := L) (by omega)
    have c1 : (nts L.length (abtL m L)).length ≤ 64 := by
      unfold nts
      rw [List.length_map]
      exact Nat.le_trans (List.length_filter_le _ _) (allM_len hn6)
    have c2 : ((nts m L).map swp).length ≤ 64 := by rw [← hp.length_eq]; exact c1
    have e1 := sortV_tuls (l := nts L.length (abtL m L)) (by omega)
    have e2 := sortV_ruls (l := (nts m L).map swp) (by omega)
    have e3 := sort2_eq hp
    have e4 : lcM (fun _ => some (.bool true)) (fun p : Rl => some (rul (p.2, p.1))) (nts m L) = some (((nts m L).map swp).map rul) := by
      rw [lcM_of (p := fun _ => true) (e := fun p : Rl => rul (p.2, p.1)) fun _ _ => ⟨rfl, fun _ => rfl⟩, List.filter_yes, List.map_map]
      rfl
    refine ⟨_, ?_, some (tb L.length (abtL m L)), rfl⟩
    refine st_asg (d := tb L.length (abtL m L)) (by simp only [N_law, runD, outD, startN, List.length_cons, List.length_nil, List.map_cons, List.map_nil, List.cons_append, List.nil_append, List.replicate, List.getElem?_cons_zero, List.getElem?_cons_succ, List.set_cons_zero, List.set_cons_succ, List.set_nil, Option.bind_some, id, if_true, Nat.reduceAdd, Nat.reduceSub, Nat.reduceLeDiff, Nat.reduceEqDiff, Option.some.injEq, xVar, xC, x1, x2, xF, xArgs, xTup, xLst, xAnd, xOr, dNot, xNot, xYes, xIf_t, xIf_f, xNo, sNext, thn2, sSeq, sRet, sRetN, sAsg, sIf, tN, sSq, sRng, sRng2, sEnu, wipeN, xLc, setAll, xSl, xPart, dPart, lcGo_N, lcGo_T, lcGo_P, lcGo_H, tup_tt, tup_it, tup_1, lst_1, tT_pr, dNeg_int, lcM_int, lcM_bool, lcM_tpl, lcM_pr, lss_fold, List.map_id', List.map_id_fun', List.map_id_fun, List.filter_yes, items_tpl, items_lss, items_nil, items_tnil, enu_rows, enu_prs, dEq_int, dEq_bool, dEq_tpl, dEq_lss, dEq_pr, dEq_nil, dEq_tnil, dNe_int, dNe_bool, dNe_tpl, dNe_lss, dNe_pr, dNe_nil, dNe_tnil, dIn_tpl, dIn_lss, dNotIn_tpl, dNotIn_lss, dLen_tpl, dLen_lss, dTuple_tpl, dTuple_lss, dList_tpl, dList_lss, dAll_lss, dAny_lss, dIx_0, dIx_1, dLt_int, dLe_int, dGt_int, dGe_int, dAdd_int, dSub_int, isT_bool, ea]) ?_
    refine st_no (by simp only [N_law, runD, outD, startN, List.length_cons, List.length_nil, List.map_cons, List.map_nil, List.cons_append, List.nil_append, List.replicate, List.getElem?_cons_zero, List.getElem?_cons_succ, List.set_cons_zero, List.set_cons_succ, List.set_nil, Option.bind_some, id, if_true, Nat.reduceAdd, Nat.reduceSub, Nat.reduceLeDiff, Nat.reduceEqDiff, Option.some.injEq, xVar, xC, x1, x2, xF, xArgs, xTup, xLst, xAnd, xOr, dNot, xNot, xYes, xIf_t, xIf_f, xNo, sNext, thn2, sSeq, sRet, sRetN, sAsg, sIf, tN, sSq, sRng, sRng2, sEnu, wipeN, xLc, setAll, xSl, xPart, dPart, lcGo_N, lcGo_T, lcGo_P, lcGo_H, tup_tt, tup_it, tup_1, lst_1, tT_pr, dNeg_int, lcM_int, lcM_bool, lcM_tpl, lcM_pr, lss_fold, List.map_id', List.map_id_fun', List.map_id_fun, List.filter_yes, items_tpl, items_lss, items_nil, items_tnil, enu_rows, enu_prs, dEq_int, dEq_bool, dEq_tpl, dEq_lss, dEq_pr, dEq_nil, dEq_tnil, dNe_int, dNe_bool, dNe_tpl, dNe_lss, dNe_pr, dNe_nil, dNe_tnil, dIn_tpl, dIn_lss, dNotIn_tpl, dNotIn_lss, dLen_tpl, dLen_lss, dTuple_tpl, dTuple_lss, dList_tpl, dList_lss, dAll_lss, dAny_lss, dIx_0, dIx_1, dLt_int, dLe_int, dGt_int, dGe_int, dAdd_int, dSub_int, isT_bool, eb, decide_true, Bool.not_true]) ?_
    have e5 : (x2 dNe (xF dSortV [xF f_notions [xVar 9]]) (xF dSortV [xLc (sSq (xF f_notions [xVar 1])) (tT [10, 6]) [10, 6] (xYes) (xTup [xVar 6, xVar 10])])) [some (scr ns), some (tb m L), some (.int m), none, none, none, none, none, none, some (tb L.length (abtL m L)), none] = some (.bool false) := by
      simp only [runD, outD, startN, List.length_cons, List.length_nil, List.map_cons, List.map_nil, List.cons_append, List.nil_append, List.replicate, List.getElem?_cons_zero, List.getElem?_cons_succ, List.set_cons_zero, List.set_cons_succ, List.set_nil, Option.bind_some, id, if_true, Nat.reduceAdd, Nat.reduceSub, Nat.reduceLeDiff, Nat.reduceEqDiff, Option.some.injEq, xVar, xC, x1, x2, xF, xArgs, xTup, xLst, xAnd, xOr, dNot, xNot, xYes, xIf_t, xIf_f, xNo, sNext, thn2, sSeq, sRet, sRetN, sAsg, sIf, tN, sSq, sRng, sRng2, sEnu, wipeN, xLc, setAll, xSl, xPart, dPart, lcGo_N, lcGo_T, lcGo_P, lcGo_H, tup_tt, tup_it, tup_1, lst_1, tT_pr, dNeg_int, lcM_int, lcM_bool, lcM_tpl, lcM_pr, lss_fold, List.map_id', List.map_id_fun', List.map_id_fun, List.filter_yes, items_tpl, items_lss, items_nil, items_tnil, enu_rows, enu_prs, dEq_int, dEq_bool, dEq_tpl, dEq_lss, dEq_pr, dEq_nil, dEq_tnil, dNe_int, dNe_bool, dNe_tpl, dNe_lss, dNe_pr, dNe_nil, dNe_tnil, dIn_tpl, dIn_lss, dNotIn_tpl, dNotIn_lss, dLen_tpl, dLen_lss, dTuple_tpl, dTuple_lss, dList_tpl, dList_lss, dAll_lss, dAny_lss, dIx_0, dIx_1, dLt_int, dLe_int, dGt_int, dGe_int, dAdd_int, dSub_int, isT_bool, m_notions hm6, m_notions hn6, e1, e4, e2, e3, decide_true, Bool.not_true]
    unfold sIf
    show Option.bind ((x2 dNe (xF dSortV [xF f_notions [xVar 9]]) (xF dSortV [xLc (sSq (xF f_notions [xVar 1])) (tT [10, 6]) [10, 6] (xYes) (xTup [xVar 6, xVar 10])])) [some (scr ns), some (tb m L), some (.int m), none, none, none, none, none, none, some (tb L.length (abtL m L)), none]) _ = _
    rw [e5]
    rfl
  rintro ρ ⟨y, rfl⟩
  -- plain, beside
  have ePl : f_plain [tb m L] = some (tb m (plnL m L)) := m_plain hm6
  have eB : f_beside [tb m L, tb m L] = some (tb m (L ++ L)) := m_beside (by omega)
  refine st_asg (d := tb m (plnL m L)) (by simp only [runD, outD, startN, List.length_cons, List.length_nil, List.map_cons, List.map_nil, List.cons_append, List.nil_append, List.replicate, List.getElem?_cons_zero, List.getElem?_cons_succ, List.set_cons_zero, List.set_cons_succ, List.set_nil, Option.bind_some, id, if_true, Nat.reduceAdd, Nat.reduceSub, Nat.reduceLeDiff, Nat.reduceEqDiff, Option.some.injEq, xVar, xC, x1, x2, xF, xArgs, xTup, xLst, xAnd, xOr, dNot, xNot, xYes, xIf_t, xIf_f, xNo, sNext, thn2, sSeq, sRet, sRetN, sAsg, sIf, tN, sSq, sRng, sRng2, sEnu, wipeN, xLc, setAll, xSl, xPart, dPart, lcGo_N, lcGo_T, lcGo_P, lcGo_H, tup_tt, tup_it, tup_1, lst_1, tT_pr, dNeg_int, lcM_int, lcM_bool, lcM_tpl, lcM_pr, lss_fold, List.map_id', List.map_id_fun', List.map_id_fun, List.filter_yes, items_tpl, items_lss, items_nil, items_tnil, enu_rows, enu_prs, dEq_int, dEq_bool, dEq_tpl, dEq_lss, dEq_pr, dEq_nil, dEq_tnil, dNe_int, dNe_bool, dNe_tpl, dNe_lss, dNe_pr, dNe_nil, dNe_tnil, dIn_tpl, dIn_lss, dNotIn_tpl, dNotIn_lss, dLen_tpl, dLen_lss, dTuple_tpl, dTuple_lss, dList_tpl, dList_lss, dAll_lss, dAny_lss, dIx_0, dIx_1, dLt_int, dLe_int, dGt_int, dGe_int, dAdd_int, dSub_int, isT_bool, ePl]) ?_
  refine st_asg (d := lss mk (clM m L)) (by simp only [runD, outD, startN, List.length_cons, List.length_nil, List.map_cons, List.map_nil, List.cons_append, List.nil_append, List.replicate, List.getElem?_cons_zero, List.getElem?_cons_succ, List.set_cons_zero, List.set_cons_succ, List.set_nil, Option.bind_some, id, if_true, Nat.reduceAdd, Nat.reduceSub, Nat.reduceLeDiff, Nat.reduceEqDiff, Option.some.injEq, xVar, xC, x1, x2, xF, xArgs, xTup, xLst, xAnd, xOr, dNot, xNot, xYes, xIf_t, xIf_f, xNo, sNext, thn2, sSeq, sRet, sRetN, sAsg, sIf, tN, sSq, sRng, sRng2, sEnu, wipeN, xLc, setAll, xSl, xPart, dPart, lcGo_N, lcGo_T, lcGo_P, lcGo_H, tup_tt, tup_it, tup_1, lst_1, tT_pr, dNeg_int, lcM_int, lcM_bool, lcM_tpl, lcM_pr, lss_fold, List.map_id', List.map_id_fun', List.map_id_fun, List.filter_yes, items_tpl, items_lss, items_nil, items_tnil, enu_rows, enu_prs, dEq_int, dEq_bool, dEq_tpl, dEq_lss, dEq_pr, dEq_nil, dEq_tnil, dNe_int, dNe_bool, dNe_tpl, dNe_lss, dNe_pr, dNe_nil, dNe_tnil, dIn_tpl, dIn_lss, dNotIn_tpl, dNotIn_lss, dLen_tpl, dLen_lss, dTuple_tpl, dTuple_lss, dList_tpl, dList_lss, dAll_lss, dAny_lss, dIx_0, dIx_1, dLt_int, dLe_int, dGt_int, dGe_int, dAdd_int, dSub_int, isT_bool, m_law_marks_of hm6]) ?_
  refine st_no (by simp only [runD, outD, startN, List.length_cons, List.length_nil, List.map_cons, List.map_nil, List.cons_append, List.nil_append, List.replicate, List.getElem?_cons_zero, List.getElem?_cons_succ, List.set_cons_zero, List.set_cons_succ, List.set_nil, Option.bind_some, id, if_true, Nat.reduceAdd, Nat.reduceSub, Nat.reduceLeDiff, Nat.reduceEqDiff, Option.some.injEq, xVar, xC, x1, x2, xF, xArgs, xTup, xLst, xAnd, xOr, dNot, xNot, xYes, xIf_t, xIf_f, xNo, sNext, thn2, sSeq, sRet, sRetN, sAsg, sIf, tN, sSq, sRng, sRng2, sEnu, wipeN, xLc, setAll, xSl, xPart, dPart, lcGo_N, lcGo_T, lcGo_P, lcGo_H, tup_tt, tup_it, tup_1, lst_1, tT_pr, dNeg_int, lcM_int, lcM_bool, lcM_tpl, lcM_pr, lss_fold, List.map_id', List.map_id_fun', List.map_id_fun, List.filter_yes, items_tpl, items_lss, items_nil, items_tnil, enu_rows, enu_prs, dEq_int, dEq_bool, dEq_tpl, dEq_lss, dEq_pr, dEq_nil, dEq_tnil, dNe_int, dNe_bool, dNe_tpl, dNe_lss, dNe_pr, dNe_nil, dNe_tnil, dIn_tpl, dIn_lss, dNotIn_tpl, dNotIn_lss, dLen_tpl, dLen_lss, dTuple_tpl, dTuple_lss, dList_tpl, dList_lss, dAll_lss, dAny_lss, dIx_0, dIx_1, dLt_int, dLe_int, dGt_int, dGe_int, dAdd_int, dSub_int, isT_bool, m_law_marks_of hm6, eB, clM_pln hm6 T.row, clM_twice, decide_true, Bool.not_true]) ?_
  have hPl : (plnL m L).length ≤ 64 := Nat.le_trans (List.length_filter_le _ _) (allM_len hm6)
  have hrP : dRange (.int 0) (.int (plnL m L).length) = some ((up (plnL m L).length).map .int) := dRange_up (by omega)
  refine st_for (f := PyData.int) (fun _ (_ : Unit) ρ => ∃ z, ρ = [some (scr ns), some (tb m L), some (.int m), some (tb m (plnL m L)), some (lss mk (clM m L)), z, none, none, none, y, none]) (fun b _ => b) (up (plnL m L).length) () ?_ ⟨none, rfl⟩ ?_ ?_
  · simp only [runD, outD, startN, List.length_cons, List.length_nil, List.map_cons, List.map_nil, List.cons_append, List.nil_append, List.replicate, List.getElem?_cons_zero, List.getElem?_cons_succ, List.set_cons_zero, List.set_cons_succ, List.set_nil, Option.bind_some, id, if_true, Nat.reduceAdd, Nat.reduceSub, Nat.reduceLeDiff, Nat.reduceEqDiff, Option.some.injEq, xVar, xC, x1, x2, xF, xArgs, xTup, xLst, xAnd, xOr, dNot, xNot, xYes, xIf_t, xIf_f, xNo, sNext, thn2, sSeq, sRet, sRetN, sAsg, sIf, tN, sSq, sRng, sRng2, sEnu, wipeN, xLc, setAll, xSl, xPart, dPart, lcGo_N, lcGo_T, lcGo_P, lcGo_H, tup_tt, tup_it, tup_1, lst_1, tT_pr, dNeg_int, lcM_int, lcM_bool, lcM_tpl, lcM_pr, lss_fold, List.map_id', List.map_id_fun', List.map_id_fun, List.filter_yes, items_tpl, items_lss, items_nil, items_tnil, enu_rows, enu_prs, dEq_int, dEq_bool, dEq_tpl, dEq_lss, dEq_pr, dEq_nil, dEq_tnil, dNe_int, dNe_bool, dNe_tpl, dNe_lss, dNe_pr, dNe_nil, dNe_tnil, dIn_tpl, dIn_lss, dNotIn_tpl, dNotIn_lss, dLen_tpl, dLen_lss, dTuple_tpl, dTuple_lss, dList_tpl, dList_lss, dAll_lss, dAny_lss, dIx_0, dIx_1, dLt_int, dLe_int, dGt_int, dGe_int, dAdd_int, dSub_int, isT_bool, hrP]
  · rintro j _ ρ k hk ⟨z, rfl⟩
    have hk2 := up_mem.mp (List.mem_of_getElem? hk)
    have s1 : dSl none (some k) (rws (plnL m L)) = some (rws ((plnL m L).take k.toNat)) := sl_to (f := mk) hk2.1 (by omega)
    have s2 : dSl (some (k + 1)) none (rws (plnL m L)) = some (rws ((plnL m L).drop (k.toNat + 1))) := by
      rw [show k.toNat + 1 = (k + 1).toNat by omega]
      exact sl_from (f := mk) (by omega) (by omega)
    have s3 : dAdd (rws ((plnL m L).take k.toNat)) (rws ((plnL m L).drop (k.toNat + 1))) = some (rws ((plnL m L).take k.toNat ++ (plnL m L).drop (k.toNat + 1))) := dAdd_tpl (by
      rw [List.length_take, List.length_drop]
      show _ ≤ 1000000
      omega)
    have hne : ¬ clM m ((plnL m L).take k.toNat ++ (plnL m L).drop (k.toNat + 1)) = clM m L := pln_need hm6 T.row (by omega)
    refine ⟨_, [some (scr ns), some (tb m L), some (.int m), some (tb m (plnL m L)), some (lss mk (clM m L)), some (.int k), none, none, none, y, none], rfl, ?_, some (.int k), rfl⟩
    simp only [runD, outD, startN, List.length_cons, List.length_nil, List.map_cons, List.map_nil, List.cons_append, List.nil_append, List.replicate, List.getElem?_cons_zero, List.getElem?_cons_succ, List.set_cons_zero, List.set_cons_succ, List.set_nil, Option.bind_some, id, if_true, Nat.reduceAdd, Nat.reduceSub, Nat.reduceLeDiff, Nat.reduceEqDiff, Option.some.injEq, xVar, xC, x1, x2, xF, xArgs, xTup, xLst, xAnd, xOr, dNot, xNot, xYes, xIf_t, xIf_f, xNo, sNext, thn2, sSeq, sRet, sRetN, sAsg, sIf, tN, sSq, sRng, sRng2, sEnu, wipeN, xLc, setAll, xSl, xPart, dPart, lcGo_N, lcGo_T, lcGo_P, lcGo_H, tup_tt, tup_it, tup_1, lst_1, tT_pr, dNeg_int, lcM_int, lcM_bool, lcM_tpl, lcM_pr, lss_fold, List.map_id', List.map_id_fun', List.map_id_fun, List.filter_yes, items_tpl, items_lss, items_nil, items_tnil, enu_rows, enu_prs, dEq_int, dEq_bool, dEq_tpl, dEq_lss, dEq_pr, dEq_nil, dEq_tnil, dNe_int, dNe_bool, dNe_tpl, dNe_lss, dNe_pr, dNe_nil, dNe_tnil, dIn_tpl, dIn_lss, dNotIn_tpl, dNotIn_lss, dLen_tpl, dLen_lss, dTuple_tpl, dTuple_lss, dList_tpl, dList_lss, dAll_lss, dAny_lss, dIx_0, dIx_1, dLt_int, dLe_int, dGt_int, dGe_int, dAdd_int, dSub_int, isT_bool, s1, s2, s3, m_law_marks_of hm6, decide_eq_false hne]
  rintro ρ ⟨z, rfl⟩
  refine st_asg (d := mk s) (by simp only [runD, outD, startN, List.length_cons, List.length_nil, List.map_cons, List.map_nil, List.cons_append, List.nil_append, List.replicate, List.getElem?_cons_zero, List.getElem?_cons_succ, List.set_cons_zero, List.set_cons_succ, List.set_nil, Option.bind_some, id, if_true, Nat.reduceAdd, Nat.reduceSub, Nat.reduceLeDiff, Nat.reduceEqDiff, Option.some.injEq, xVar, xC, x1, x2, xF, xArgs, xTup, xLst, xAnd, xOr, dNot, xNot, xYes, xIf_t, xIf_f, xNo, sNext, thn2, sSeq, sRet, sRetN, sAsg, sIf, tN, sSq, sRng, sRng2, sEnu, wipeN, xLc, setAll, xSl, xPart, dPart, lcGo_N, lcGo_T, lcGo_P, lcGo_H, tup_tt, tup_it, tup_1, lst_1, tT_pr, dNeg_int, lcM_int, lcM_bool, lcM_tpl, lcM_pr, lss_fold, List.map_id', List.map_id_fun', List.map_id_fun, List.filter_yes, items_tpl, items_lss, items_nil, items_tnil, enu_rows, enu_prs, dEq_int, dEq_bool, dEq_tpl, dEq_lss, dEq_pr, dEq_nil, dEq_tnil, dNe_int, dNe_bool, dNe_tpl, dNe_lss, dNe_pr, dNe_nil, dNe_tnil, dIn_tpl, dIn_lss, dNotIn_tpl, dNotIn_lss, dLen_tpl, dLen_lss, dTuple_tpl, dTuple_lss, dList_tpl, dList_lss, dAll_lss, dAny_lss, dIx_0, dIx_1, dLt_int, dLe_int, dGt_int, dGe_int, dAdd_int, dSub_int, isT_bool, h12, hs]) ?_
  by_cases hsn : s = []
  · exact st_if (b := true) (by subst hsn; simp only [runD, outD, startN, List.length_cons, List.length_nil, List.map_cons, List.map_nil, List.cons_append, List.nil_append, List.replicate, List.getElem?_cons_zero, List.getElem?_cons_succ, List.set_cons_zero, List.set_cons_succ, List.set_nil, Option.bind_some, id, if_true, Nat.reduceAdd, Nat.reduceSub, Nat.reduceLeDiff, Nat.reduceEqDiff, Option.some.injEq, xVar, xC, x1, x2, xF, xArgs, xTup, xLst, xAnd, xOr, dNot, xNot, xYes, xIf_t, xIf_f, xNo, sNext, thn2, sSeq, sRet, sRetN, sAsg, sIf, tN, sSq, sRng, sRng2, sEnu, wipeN, xLc, setAll, xSl, xPart, dPart, lcGo_N, lcGo_T, lcGo_P, lcGo_H, tup_tt, tup_it, tup_1, lst_1, tT_pr, dNeg_int, lcM_int, lcM_bool, lcM_tpl, lcM_pr, lss_fold, List.map_id', List.map_id_fun', List.map_id_fun, List.filter_yes, items_tpl, items_lss, items_nil, items_tnil, enu_rows, enu_prs, dEq_int, dEq_bool, dEq_tpl, dEq_lss, dEq_pr, dEq_nil, dEq_tnil, dNe_int, dNe_bool, dNe_tpl, dNe_lss, dNe_pr, dNe_nil, dNe_tnil, dIn_tpl, dIn_lss, dNotIn_tpl, dNotIn_lss, dLen_tpl, dLen_lss, dTuple_tpl, dTuple_lss, dList_tpl, dList_lss, dAll_lss, dAny_lss, dIx_0, dIx_1, dLt_int, dLe_int, dGt_int, dGe_int, dAdd_int, dSub_int, isT_bool, List.isEmpty_nil]) (fun _ => rfl) (fun h => by cases h)
  have hse : s.isEmpty = false := by
    cases s with
    | nil => exact absurd rfl hsn
    | cons _ _ => rfl
  refine st_no (by simp only [runD, outD, startN, List.length_cons, List.length_nil, List.map_cons, List.map_nil, List.cons_append, List.nil_append, List.replicate, List.getElem?_cons_zero, List.getElem?_cons_succ, List.set_cons_zero, List.set_cons_succ, List.set_nil, Option.bind_some, id, if_true, Nat.reduceAdd, Nat.reduceSub, Nat.reduceLeDiff, Nat.reduceEqDiff, Option.some.injEq, xVar, xC, x1, x2, xF, xArgs, xTup, xLst, xAnd, xOr, dNot, xNot, xYes, xIf_t, xIf_f, xNo, sNext, thn2, sSeq, sRet, sRetN, sAsg, sIf, tN, sSq, sRng, sRng2, sEnu, wipeN, xLc, setAll, xSl, xPart, dPart, lcGo_N, lcGo_T, lcGo_P, lcGo_H, tup_tt, tup_it, tup_1, lst_1, tT_pr, dNeg_int, lcM_int, lcM_bool, lcM_tpl, lcM_pr, lss_fold, List.map_id', List.map_id_fun', List.map_id_fun, List.filter_yes, items_tpl, items_lss, items_nil, items_tnil, enu_rows, enu_prs, dEq_int, dEq_bool, dEq_tpl, dEq_lss, dEq_pr, dEq_nil, dEq_tnil, dNe_int, dNe_bool, dNe_tpl, dNe_lss, dNe_pr, dNe_nil, dNe_tnil, dIn_tpl, dIn_lss, dNotIn_tpl, dNotIn_lss, dLen_tpl, dLen_lss, dTuple_tpl, dTuple_lss, dList_tpl, dList_lss, dAll_lss, dAny_lss, dIx_0, dIx_1, dLt_int, dLe_int, dGt_int, dGe_int, dAdd_int, dSub_int, isT_bool, hse]) ?_
  refine st_own (ds := []) rfl ?_
  have hD := clM_len (L := L) hm6
  have hsl := Is.len
  have hrs : dRange (.int 0) (.int s.length) = some ((up s.length).map .int) := dRange_up (by omega)
  have hin : ∀ r : Ms, lcM (fun k => (dIx (mk s) (.int k)).bind fun y => dIn y (mk r)) (fun k => some (.int k)) (up s.length) = some ((cutR s r).map .int) := fun r => by
    rw [lcM_of (p := fun k => decide (getI 0 s k ∈ r)) (e := fun k => .int k) fun k hk => ⟨by
      have := up_mem.mp hk
      rw [dIx_tpl s this.1 this.2 0]
      simp only [runD, outD, startN, List.length_cons, List.length_nil, List.map_cons, List.map_nil, List.cons_append, List.nil_append, List.replicate, List.getElem?_cons_zero, List.getElem?_cons_succ, List.set_cons_zero, List.set_cons_succ, List.set_nil, Option.bind_some, id, if_true, Nat.reduceAdd, Nat.reduceSub, Nat.reduceLeDiff, Nat.reduceEqDiff, Option.some.injEq, xVar, xC, x1, x2, xF, xArgs, xTup, xLst, xAnd, xOr, dNot, xNot, xYes, xIf_t, xIf_f, xNo, sNext, thn2, sSeq, sRet, sRetN, sAsg, sIf, tN, sSq, sRng, sRng2, sEnu, wipeN, xLc, setAll, xSl, xPart, dPart, lcGo_N, lcGo_T, lcGo_P, lcGo_H, tup_tt, tup_it, tup_1, lst_1, tT_pr, dNeg_int, lcM_int, lcM_bool, lcM_tpl, lcM_pr, lss_fold, List.map_id', List.map_id_fun', List.map_id_fun, List.filter_yes, items_tpl, items_lss, items_nil, items_tnil, enu_rows, enu_prs, dEq_int, dEq_bool, dEq_tpl, dEq_lss, dEq_pr, dEq_nil, dEq_tnil, dNe_int, dNe_bool, dNe_tpl, dNe_lss, dNe_pr, dNe_nil, dNe_tnil, dIn_tpl, dIn_lss, dNotIn_tpl, dNotIn_lss, dLen_tpl, dLen_lss, dTuple_tpl, dTuple_lss, dList_tpl, dList_lss, dAll_lss, dAny_lss, dIx_0, dIx_1, dLt_int, dLe_int, dGt_int, dGe_int, dAdd_int, dSub_int, isT_bool], fun _ => rfl⟩]
  refine st_for (f := mk) (fun i (b : List Ms) ρ => b.length = i ∧ ∃ z u, ρ = [some (scr ns), some (tb m L), some (.int m), some (tb m (plnL m L)), some (lss mk (clM m L)), z, some (mk s), some (lss mk b), u, y, none]) (fun b r => b ++ [cutR s r]) (clM m L) [] (by simp only [runD, outD, startN, List.length_cons, List.length_nil, List.map_cons, List.map_nil, List.cons_append, List.nil_append, List.replicate, List.getElem?_cons_zero, List.getElem?_cons_succ, List.set_cons_zero, List.set_cons_succ, List.set_nil, Option.bind_some, id, if_true, Nat.reduceAdd, Nat.reduceSub, Nat.reduceLeDiff, Nat.reduceEqDiff, Option.some.injEq, xVar, xC, x1, x2, xF, xArgs, xTup, xLst, xAnd, xOr, dNot, xNot, xYes, xIf_t, xIf_f, xNo, sNext, thn2, sSeq, sRet, sRetN, sAsg, sIf, tN, sSq, sRng, sRng2, sEnu, wipeN, xLc, setAll, xSl, xPart, dPart, lcGo_N, lcGo_T, lcGo_P, lcGo_H, tup_tt, tup_it, tup_1, lst_1, tT_pr, dNeg_int, lcM_int, lcM_bool, lcM_tpl, lcM_pr, lss_fold, List.map_id', List.map_id_fun', List.map_id_fun, List.filter_yes, items_tpl, items_lss, items_nil, items_tnil, enu_rows, enu_prs, dEq_int, dEq_bool, dEq_tpl, dEq_lss, dEq_pr, dEq_nil, dEq_tnil, dNe_int, dNe_bool, dNe_tpl, dNe_lss, dNe_pr, dNe_nil, dNe_tnil, dIn_tpl, dIn_lss, dNotIn_tpl, dNotIn_lss, dLen_tpl, dLen_lss, dTuple_tpl, dTuple_lss, dList_tpl, dList_lss, dAll_lss, dAny_lss, dIx_0, dIx_1, dLt_int, dLe_int, dGt_int, dGe_int, dAdd_int, dSub_int, isT_bool]) ⟨rfl, z, none, rfl⟩ ?_ ?_
  · rintro j b ρ r hr' ⟨hb, z, u, rfl⟩
    have hj : j < 64 := Nat.lt_of_lt_of_le (List.getElem?_eq_some_iff.mp hr').1 hD
    have happ : appD (mk (cutR s r)) (lss mk b) = some (lss mk (b ++ [cutR s r])) := app_lss (by rw [hb]; exact Nat.lt_trans hj (by decide))
    refine ⟨_, [some (scr ns), some (tb m L), some (.int m), some (tb m (plnL m L)), some (lss mk (clM m L)), z, some (mk s), some (lss mk (b ++ [cutR s r])), some (mk r), y, none], rfl, ?_, by rw [List.length_append, hb]; rfl, z, some (mk r), rfl⟩
    simp only [runD, outD, startN, List.length_cons, List.length_nil, List.map_cons, List.map_nil, List.cons_append, List.nil_append, List.replicate, List.getElem?_cons_zero, List.getElem?_cons_succ, List.set_cons_zero, List.set_cons_succ, List.set_nil, Option.bind_some, id, if_true, Nat.reduceAdd, Nat.reduceSub, Nat.reduceLeDiff, Nat.reduceEqDiff, Option.some.injEq, xVar, xC, x1, x2, xF, xArgs, xTup, xLst, xAnd, xOr, dNot, xNot, xYes, xIf_t, xIf_f, xNo, sNext, thn2, sSeq, sRet, sRetN, sAsg, sIf, tN, sSq, sRng, sRng2, sEnu, wipeN, xLc, setAll, xSl, xPart, dPart, lcGo_N, lcGo_T, lcGo_P, lcGo_H, tup_tt, tup_it, tup_1, lst_1, tT_pr, dNeg_int, lcM_int, lcM_bool, lcM_tpl, lcM_pr, lss_fold, List.map_id', List.map_id_fun', List.map_id_fun, List.filter_yes, items_tpl, items_lss, items_nil, items_tnil, enu_rows, enu_prs, dEq_int, dEq_bool, dEq_tpl, dEq_lss, dEq_pr, dEq_nil, dEq_tnil, dNe_int, dNe_bool, dNe_tpl, dNe_lss, dNe_pr, dNe_nil, dNe_tnil, dIn_tpl, dIn_lss, dNotIn_tpl, dNotIn_lss, dLen_tpl, dLen_lss, dTuple_tpl, dTuple_lss, dList_tpl, dList_lss, dAll_lss, dAny_lss, dIx_0, dIx_1, dLt_int, dLe_int, dGt_int, dGe_int, dAdd_int, dSub_int, isT_bool, sApp, hrs, hin, happ]
  rintro ρ ⟨_, z, u, rfl⟩
  rw [foldl_app, List.nil_append]
  have hs6 : 0 ≤ (s.length : Int) ∧ (s.length : Int) ≤ 6 := by omega
  have eO : f_only [tb m L, mk s] = some (tb s.length (L.map (cutR s))) := m_only (by omega) hsn
  have f1 := sortV_rows (l := clM s.length (L.map (cutR s))) (by have := clM_len (L := L.map (cutR s)) hs6; omega)
  have f2 := sortSetW_rows (l := (clM m L).map (cutR s)) (by rw [List.length_map]; exact hD)
  have f3 : (clM s.length (L.map (cutR s))).mergeSort rle = (onceR ((clM m L).map (cutR s))).mergeSort rle :=
    rsort_eq ((List.perm_ext_iff_of_nodup (clM_nodup hs6) (nodup_once _)).mpr fun A => by rw [mem_once]; exact clM_cut hm6 Is)
  simp only [runD, outD, startN, List.length_cons, List.length_nil, List.map_cons, List.map_nil, List.cons_append, List.nil_append, List.replicate, List.getElem?_cons_zero, List.getElem?_cons_succ, List.set_cons_zero, List.set_cons_succ, List.set_nil, Option.bind_some, id, if_true, Nat.reduceAdd, Nat.reduceSub, Nat.reduceLeDiff, Nat.reduceEqDiff, Option.some.injEq, xVar, xC, x1, x2, xF, xArgs, xTup, xLst, xAnd, xOr, dNot, xNot, xYes, xIf_t, xIf_f, xNo, sNext, thn2, sSeq, sRet, sRetN, sAsg, sIf, tN, sSq, sRng, sRng2, sEnu, wipeN, xLc, setAll, xSl, xPart, dPart, lcGo_N, lcGo_T, lcGo_P, lcGo_H, tup_tt, tup_it, tup_1, lst_1, tT_pr, dNeg_int, lcM_int, lcM_bool, lcM_tpl, lcM_pr, lss_fold, List.map_id', List.map_id_fun', List.map_id_fun, List.filter_yes, items_tpl, items_lss, items_nil, items_tnil, enu_rows, enu_prs, dEq_int, dEq_bool, dEq_tpl, dEq_lss, dEq_pr, dEq_nil, dEq_tnil, dNe_int, dNe_bool, dNe_tpl, dNe_lss, dNe_pr, dNe_nil, dNe_tnil, dIn_tpl, dIn_lss, dNotIn_tpl, dNotIn_lss, dLen_tpl, dLen_lss, dTuple_tpl, dTuple_lss, dList_tpl, dList_lss, dAll_lss, dAny_lss, dIx_0, dIx_1, dLt_int, dLe_int, dGt_int, dGe_int, dAdd_int, dSub_int, isT_bool, eO, m_law_marks_of hs6, f1, f2, f3, decide_true, noLst]

theorem all_mk {l : PySem.W.OpenLaw} {w : World} {K : PySem.W.Frag} {h : Heap} {mg : Str → Option Value} {fa : Addr} (X : K.In h) (Gn : h.Ns mainGlobals mg) (hfa : mg "law" = some (.ref fa))
    {f1 : Addr} {od1 an1 : Option Addr} {sl1 : Array (Option Value)} {oc1 kV1 dc1 pm1 cd1 ct1 : Value}
    {f2 : Addr} {od2 an2 : Option Addr} {sl2 : Array (Option Value)} {oc2 kV2 dc2 pm2 cd2 ct2 : Value}
    {f3 : Addr} {od3 an3 : Option Addr} {sl3 : Array (Option Value)} {oc3 kV3 dc3 pm3 cd3 ct3 : Value}
    {f4 : Addr} {od4 an4 : Option Addr} {sl4 : Array (Option Value)} {oc4 kV4 dc4 pm4 cd4 ct4 : Value}
    {f5 : Addr} {od5 an5 : Option Addr} {sl5 : Array (Option Value)} {oc5 kV5 dc5 pm5 cd5 ct5 : Value}
    {f6 : Addr} {od6 an6 : Option Addr} {sl6 : Array (Option Value)} {oc6 kV6 dc6 pm6 cd6 ct6 : Value}
    {f7 : Addr} {od7 an7 : Option Addr} {sl7 : Array (Option Value)} {oc7 kV7 dc7 pm7 cd7 ct7 : Value}
    {f8 : Addr} {od8 an8 : Option Addr} {sl8 : Array (Option Value)} {oc8 kV8 dc8 pm8 cd8 ct8 : Value}
    {f9 : Addr} {od9 an9 : Option Addr} {sl9 : Array (Option Value)} {oc9 kV9 dc9 pm9 cd9 ct9 : Value}
    {f10 : Addr} {od10 an10 : Option Addr} {sl10 : Array (Option Value)} {oc10 kV10 dc10 pm10 cd10 ct10 : Value}
    {f11 : Addr} {od11 an11 : Option Addr} {sl11 : Array (Option Value)} {oc11 kV11 dc11 pm11 cd11 ct11 : Value}
    {f12 : Addr} {od12 an12 : Option Addr} {sl12 : Array (Option Value)} {oc12 kV12 dc12 pm12 cd12 ct12 : Value}
    {f13 : Addr} {od13 an13 : Option Addr} {sl13 : Array (Option Value)} {oc13 kV13 dc13 pm13 cd13 ct13 : Value}
    {f14 : Addr} {od14 an14 : Option Addr} {sl14 : Array (Option Value)} {oc14 kV14 dc14 pm14 cd14 ct14 : Value}
    {f15 : Addr} {od15 an15 : Option Addr} {sl15 : Array (Option Value)} {oc15 kV15 dc15 pm15 cd15 ct15 : Value}
    {f16 : Addr} {od16 an16 : Option Addr} {sl16 : Array (Option Value)} {oc16 kV16 dc16 pm16 cd16 ct16 : Value}
    {f17 : Addr} {od17 an17 : Option Addr} {sl17 : Array (Option Value)} {oc17 kV17 dc17 pm17 cd17 ct17 : Value}
    {f18 : Addr} {od18 an18 : Option Addr} {sl18 : Array (Option Value)} {oc18 kV18 dc18 pm18 cd18 ct18 : Value}
    {f19 : Addr} {od19 an19 : Option Addr} {sl19 : Array (Option Value)} {oc19 kV19 dc19 pm19 cd19 ct19 : Value}
    {t0 : Tok}
    {t1 : Tok}
    (a1 : PySem.W.nsIn K mainGlobals "_law_cell_at" = some (some (.ref f1)))
    (l1 : K.lookup f1 = some ⟨oc1, od1, .func (PySem.W.fnOf "_law_cell_at" "_law_cell_at" (defArgs s_law_cell_at) (defBody s_law_cell_at) (defScope s_law_cell_at) .none kV1 dc1 pm1 an1 cd1 ct1), sl1⟩)
    (c1 : PySem.W.codeIn K cd1 "_law_cell_at" = true)
    (k1 : PySem.W.keepIn K (.ref f1) = true)
    (a2 : PySem.W.nsIn K mainGlobals "_law_mixed" = some (some (.ref f2)))
    (l2 : K.lookup f2 = some ⟨oc2, od2, .func (PySem.W.fnOf "_law_mixed" "_law_mixed" (defArgs s_law_mixed) (defBody s_law_mixed) (defScope s_law_mixed) .none kV2 dc2 pm2 an2 cd2 ct2), sl2⟩)
    (c2 : PySem.W.codeIn K cd2 "_law_mixed" = true)
    (k2 : PySem.W.keepIn K (.ref f2) = true)
    (a3 : PySem.W.nsIn K mainGlobals "_law_drawn" = some (some (.ref f3)))
    (l3 : K.lookup f3 = some ⟨oc3, od3, .func (PySem.W.fnOf "_law_drawn" "_law_drawn" (defArgs s_law_drawn) (defBody s_law_drawn) (defScope s_law_drawn) .none kV3 dc3 pm3 an3 cd3 ct3), sl3⟩)
    (c3 : PySem.W.codeIn K cd3 "_law_drawn" = true)
    (k3 : PySem.W.keepIn K (.ref f3) = true)
    (a4 : PySem.W.nsIn K mainGlobals "_law_marks" = some (some (.ref f4)))
    (l4 : K.lookup f4 = some ⟨oc4, od4, .func (PySem.W.fnOf "_law_marks" "_law_marks" (defArgs s_law_marks) (defBody s_law_marks) (defScope s_law_marks) .none kV4 dc4 pm4 an4 cd4 ct4), sl4⟩)
    (c4 : PySem.W.codeIn K cd4 "_law_marks" = true)
    (k4 : PySem.W.keepIn K (.ref f4) = true)
    (a5 : PySem.W.nsIn K mainGlobals "_law_table" = some (some (.ref f5)))
    (l5 : K.lookup f5 = some ⟨oc5, od5, .func (PySem.W.fnOf "_law_table" "_law_table" (defArgs s_law_table) (defBody s_law_table) (defScope s_law_table) .none kV5 dc5 pm5 an5 cd5 ct5), sl5⟩)
    (c5 : PySem.W.codeIn K cd5 "_law_table" = true)
    (k5 : PySem.W.keepIn K (.ref f5) = true)
    (a6 : PySem.W.nsIn K mainGlobals "has_all" = some (some (.ref f6)))
    (l6 : K.lookup f6 = some ⟨oc6, od6, .func (PySem.W.fnOf "has_all" "has_all" (defArgs s_has_all) (defBody s_has_all) (defScope s_has_all) .none kV6 dc6 pm6 an6 cd6 ct6), sl6⟩)
    (c6 : PySem.W.codeIn K cd6 "has_all" = true)
    (k6 : PySem.W.keepIn K (.ref f6) = true)
    (a7 : PySem.W.nsIn K mainGlobals "having" = some (some (.ref f7)))
    (l7 : K.lookup f7 = some ⟨oc7, od7, .func (PySem.W.fnOf "having" "having" (defArgs s_having) (defBody s_having) (defScope s_having) .none kV7 dc7 pm7 an7 cd7 ct7), sl7⟩)
    (c7 : PySem.W.codeIn K cd7 "having" = true)
    (k7 : PySem.W.keepIn K (.ref f7) = true)
    (a8 : PySem.W.nsIn K mainGlobals "about" = some (some (.ref f8)))
    (l8 : K.lookup f8 = some ⟨oc8, od8, .func (PySem.W.fnOf "about" "about" (defArgs s_about) (defBody s_about) (defScope s_about) .none kV8 dc8 pm8 an8 cd8 ct8), sl8⟩)
    (c8 : PySem.W.codeIn K cd8 "about" = true)
    (k8 : PySem.W.keepIn K (.ref f8) = true)
    (a9 : PySem.W.nsIn K mainGlobals "all_marks" = some (some (.ref f9)))
    (l9 : K.lookup f9 = some ⟨oc9, od9, .func (PySem.W.fnOf "all_marks" "all_marks" (defArgs s_all_marks) (defBody s_all_marks) (defScope s_all_marks) .none kV9 dc9 pm9 an9 cd9 ct9), sl9⟩)
    (c9 : PySem.W.codeIn K cd9 "all_marks" = true)
    (k9 : PySem.W.keepIn K (.ref f9) = true)
    (a10 : PySem.W.nsIn K mainGlobals "shared" = some (some (.ref f10)))
    (l10 : K.lookup f10 = some ⟨oc10, od10, .func (PySem.W.fnOf "shared" "shared" (defArgs s_shared) (defBody s_shared) (defScope s_shared) .none kV10 dc10 pm10 an10 cd10 ct10), sl10⟩)
    (c10 : PySem.W.codeIn K cd10 "shared" = true)
    (k10 : PySem.W.keepIn K (.ref f10) = true)
    (a11 : PySem.W.nsIn K mainGlobals "closed" = some (some (.ref f11)))
    (l11 : K.lookup f11 = some ⟨oc11, od11, .func (PySem.W.fnOf "closed" "closed" (defArgs s_closed) (defBody s_closed) (defScope s_closed) .none kV11 dc11 pm11 an11 cd11 ct11), sl11⟩)
    (c11 : PySem.W.codeIn K cd11 "closed" = true)
    (k11 : PySem.W.keepIn K (.ref f11) = true)
    (a12 : PySem.W.nsIn K mainGlobals "notions" = some (some (.ref f12)))
    (l12 : K.lookup f12 = some ⟨oc12, od12, .func (PySem.W.fnOf "notions" "notions" (defArgs s_notions) (defBody s_notions) (defScope s_notions) .none kV12 dc12 pm12 an12 cd12 ct12), sl12⟩)
    (c12 : PySem.W.codeIn K cd12 "notions" = true)
    (k12 : PySem.W.keepIn K (.ref f12) = true)
    (a13 : PySem.W.nsIn K mainGlobals "is_less" = some (some (.ref f13)))
    (l13 : K.lookup f13 = some ⟨oc13, od13, .func (PySem.W.fnOf "is_less" "is_less" (defArgs s_is_less) (defBody s_is_less) (defScope s_is_less) .none kV13 dc13 pm13 an13 cd13 ct13), sl13⟩)
    (c13 : PySem.W.codeIn K cd13 "is_less" = true)
    (k13 : PySem.W.keepIn K (.ref f13) = true)
    (a14 : PySem.W.nsIn K mainGlobals "is_shared_by_greater" = some (some (.ref f14)))
    (l14 : K.lookup f14 = some ⟨oc14, od14, .func (PySem.W.fnOf "is_shared_by_greater" "is_shared_by_greater" (defArgs s_is_shared_by_greater) (defBody s_is_shared_by_greater) (defScope s_is_shared_by_greater) .none kV14 dc14 pm14 an14 cd14 ct14), sl14⟩)
    (c14 : PySem.W.codeIn K cd14 "is_shared_by_greater" = true)
    (k14 : PySem.W.keepIn K (.ref f14) = true)
    (a15 : PySem.W.nsIn K mainGlobals "plain" = some (some (.ref f15)))
    (l15 : K.lookup f15 = some ⟨oc15, od15, .func (PySem.W.fnOf "plain" "plain" (defArgs s_plain) (defBody s_plain) (defScope s_plain) .none kV15 dc15 pm15 an15 cd15 ct15), sl15⟩)
    (c15 : PySem.W.codeIn K cd15 "plain" = true)
    (k15 : PySem.W.keepIn K (.ref f15) = true)
    (a16 : PySem.W.nsIn K mainGlobals "_law_marks_of" = some (some (.ref f16)))
    (l16 : K.lookup f16 = some ⟨oc16, od16, .func (PySem.W.fnOf "_law_marks_of" "_law_marks_of" (defArgs s_law_marks_of) (defBody s_law_marks_of) (defScope s_law_marks_of) .none kV16 dc16 pm16 an16 cd16 ct16), sl16⟩)
    (c16 : PySem.W.codeIn K cd16 "_law_marks_of" = true)
    (k16 : PySem.W.keepIn K (.ref f16) = true)
    (a17 : PySem.W.nsIn K mainGlobals "beside" = some (some (.ref f17)))
    (l17 : K.lookup f17 = some ⟨oc17, od17, .func (PySem.W.fnOf "beside" "beside" (defArgs s_beside) (defBody s_beside) (defScope s_beside) .none kV17 dc17 pm17 an17 cd17 ct17), sl17⟩)
    (c17 : PySem.W.codeIn K cd17 "beside" = true)
    (k17 : PySem.W.keepIn K (.ref f17) = true)
    (a18 : PySem.W.nsIn K mainGlobals "only" = some (some (.ref f18)))
    (l18 : K.lookup f18 = some ⟨oc18, od18, .func (PySem.W.fnOf "only" "only" (defArgs s_only) (defBody s_only) (defScope s_only) .none kV18 dc18 pm18 an18 cd18 ct18), sl18⟩)
    (c18 : PySem.W.codeIn K cd18 "only" = true)
    (k18 : PySem.W.keepIn K (.ref f18) = true)
    (a19 : PySem.W.nsIn K mainGlobals "law" = some (some (.ref f19)))
    (l19 : K.lookup f19 = some ⟨oc19, od19, .func (PySem.W.fnOf "law" "law" (defArgs s_law) (defBody s_law) (defScope s_law) .none kV19 dc19 pm19 an19 cd19 ct19), sl19⟩)
    (c19 : PySem.W.codeIn K cd19 "law" = true)
    (k19 : PySem.W.keepIn K (.ref f19) = true)
    (z0 : PySem.W.nsIn K mainGlobals "MARKS" = some (some (Value.int 6 t0)))
    (z1 : PySem.W.nsIn K mainGlobals "ROWS" = some (some (Value.int 64 t1)))
    (z2 : PySem.W.nsIn K mainGlobals "all" = some none)
    (z3 : PySem.W.nsIn K mainGlobals "enumerate" = some none)
    (z4 : PySem.W.nsIn K mainGlobals "len" = some none)
    (z5 : PySem.W.nsIn K mainGlobals "min" = some none)
    (z6 : PySem.W.nsIn K mainGlobals "range" = some none)
    (z7 : PySem.W.nsIn K mainGlobals "set" = some none)
    (z8 : PySem.W.nsIn K mainGlobals "sorted" = some none)
    (z9 : PySem.W.nsIn K mainGlobals "tuple" = some none)
    : ∃ fd : FuncData, (∀ (s : Shared) (v : Value), BindsTo s fd ⟨[v], []⟩ [("_law_script", v)]) ∧ ∀ base : Heap, K.In base → base.Ns mainGlobals mg → FnOk l.prog w K mg base CX0 6 fa fd ["_law_script"] (spD K 1 f_law) := by
  have e := hfa.symm.trans (PySem.W.mg_of X Gn a19)
  cases e
  refine ⟨PySem.W.fnOf "law" "law" (defArgs s_law) (defBody s_law) (defScope s_law) .none kV19 dc19 pm19 an19 cd19 ct19, fun s v => .of_eq rfl, fun base _ _ => ?_⟩
  have B : Bl ⟨l.prog, w, K, mg, base⟩ := ⟨⟨_, PySem.W.mg_of X Gn z0⟩, ⟨_, PySem.W.mg_of X Gn z1⟩, PySem.W.mg_none_of X Gn z2, PySem.W.mg_none_of X Gn z3, PySem.W.mg_none_of X Gn z4, PySem.W.mg_none_of X Gn z5, PySem.W.mg_none_of X Gn z6, PySem.W.mg_none_of X Gn z7, PySem.W.mg_none_of X Gn z8, PySem.W.mg_none_of X Gn z9⟩
  have K_law_cell_at := k_law_cell_at (G := ⟨l.prog, w, K, mg, base⟩) B ⟨_, _, fun_mk (st := s_law_cell_at) l1 c1 k1, PySem.W.mg_of X Gn a1⟩
  have K_law_mixed := k_law_mixed (G := ⟨l.prog, w, K, mg, base⟩) B ⟨_, _, fun_mk (st := s_law_mixed) l2 c2 k2, PySem.W.mg_of X Gn a2⟩ K_law_cell_at
  have K_law_drawn := k_law_drawn (G := ⟨l.prog, w, K, mg, base⟩) B ⟨_, _, fun_mk (st := s_law_drawn) l3 c3 k3, PySem.W.mg_of X Gn a3⟩
  have K_law_marks := k_law_marks (G := ⟨l.prog, w, K, mg, base⟩) B ⟨_, _, fun_mk (st := s_law_marks) l4 c4 k4, PySem.W.mg_of X Gn a4⟩ K_law_drawn
  have K_law_table := k_law_table (G := ⟨l.prog, w, K, mg, base⟩) B ⟨_, _, fun_mk (st := s_law_table) l5 c5 k5, PySem.W.mg_of X Gn a5⟩ K_law_mixed K_law_marks
  have K_has_all := k_has_all (G := ⟨l.prog, w, K, mg, base⟩) B ⟨_, _, fun_mk (st := s_has_all) l6 c6 k6, PySem.W.mg_of X Gn a6⟩
  have K_having := k_having (G := ⟨l.prog, w, K, mg, base⟩) B ⟨_, _, fun_mk (st := s_having) l7 c7 k7, PySem.W.mg_of X Gn a7⟩ K_has_all
  have K_about := k_about (G := ⟨l.prog, w, K, mg, base⟩) B ⟨_, _, fun_mk (st := s_about) l8 c8 k8, PySem.W.mg_of X Gn a8⟩ K_having
  have K_all_marks := k_all_marks (G := ⟨l.prog, w, K, mg, base⟩) B ⟨_, _, fun_mk (st := s_all_marks) l9 c9 k9, PySem.W.mg_of X Gn a9⟩
  have K_shared := k_shared (G := ⟨l.prog, w, K, mg, base⟩) B ⟨_, _, fun_mk (st := s_shared) l10 c10 k10, PySem.W.mg_of X Gn a10⟩
  have K_closed := k_closed (G := ⟨l.prog, w, K, mg, base⟩) B ⟨_, _, fun_mk (st := s_closed) l11 c11 k11, PySem.W.mg_of X Gn a11⟩ K_shared K_having
  have K_notions := k_notions (G := ⟨l.prog, w, K, mg, base⟩) B ⟨_, _, fun_mk (st := s_notions) l12 c12 k12, PySem.W.mg_of X Gn a12⟩ K_all_marks K_closed K_having
  have K_is_less := k_is_less (G := ⟨l.prog, w, K, mg, base⟩) B ⟨_, _, fun_mk (st := s_is_less) l13 c13 k13, PySem.W.mg_of X Gn a13⟩ K_has_all
  have K_is_shared_by_greater := k_is_shared_by_greater (G := ⟨l.prog, w, K, mg, base⟩) B ⟨_, _, fun_mk (st := s_is_shared_by_greater) l14 c14 k14, PySem.W.mg_of X Gn a14⟩ K_is_less
  have K_plain := k_plain (G := ⟨l.prog, w, K, mg, base⟩) B ⟨_, _, fun_mk (st := s_plain) l15 c15 k15, PySem.W.mg_of X Gn a15⟩ K_all_marks K_is_shared_by_greater
  have K_law_marks_of := k_law_marks_of (G := ⟨l.prog, w, K, mg, base⟩) B ⟨_, _, fun_mk (st := s_law_marks_of) l16 c16 k16, PySem.W.mg_of X Gn a16⟩ K_notions
  have K_beside := k_beside (G := ⟨l.prog, w, K, mg, base⟩) B ⟨_, _, fun_mk (st := s_beside) l17 c17 k17, PySem.W.mg_of X Gn a17⟩
  have K_only := k_only (G := ⟨l.prog, w, K, mg, base⟩) B ⟨_, _, fun_mk (st := s_only) l18 c18 k18, PySem.W.mg_of X Gn a18⟩
  exact ok_law (G := ⟨l.prog, w, K, mg, base⟩) B (fun_mk (st := s_law) l19 c19 k19) K_law_table K_about K_notions K_plain K_law_marks_of K_beside K_law_marks K_law_mixed K_only
end DL
open PySem PySem.W PyProof.Rows
set_option maxRecDepth 100000 in
set_option maxHeartbeats 0 in
theorem PySem.Challenge.cw_markhall_k51_whole_turned_about_and_plai_holds : PySem.Challenge.rw_markhall_k51_whole_turned_about_and_plai.Holds := by
  w_on; o_law; k_head; (case hw => w_witness2)
  k_fill
  refine L2.walk_ofK (l := PySem.Challenge.rw_markhall_k51_whole_turned_about_and_plai) (n := 63) (k := 6) (x := "_law_script") (CX := L2.CX0) (sp := fun K => DL.spD K 1 DL.f_law) rfl (by decide) rfl ⟨rfl, by decide, by decide⟩ (fun w h Y => PySem.W.kIn_of Y) ?F
    (fun K H a ns hl _ hS => DL.law_sp (DL.law_true ns hl) hl hS) (fun _ _ _ _ z => z)
  case F =>
    intro w mg fa h KX G hmg
    refine' DL.all_mk KX G hmg ?a1 ?l1 ?c1 ?k1 ?a2 ?l2 ?c2 ?k2 ?a3 ?l3 ?c3 ?k3 ?a4 ?l4 ?c4 ?k4 ?a5 ?l5 ?c5 ?k5 ?a6 ?l6 ?c6 ?k6 ?a7 ?l7 ?c7 ?k7 ?a8 ?l8 ?c8 ?k8 ?a9 ?l9 ?c9 ?k9 ?a10 ?l10 ?c10 ?k10 ?a11 ?l11 ?c11 ?k11 ?a12 ?l12 ?c12 ?k12 ?a13 ?l13 ?c13 ?k13 ?a14 ?l14 ?c14 ?k14 ?a15 ?l15 ?c15 ?k15 ?a16 ?l16 ?c16 ?k16 ?a17 ?l17 ?c17 ?k17 ?a18 ?l18 ?c18 ?k18 ?a19 ?l19 ?c19 ?k19 ?z0 ?z1 ?z2 ?z3 ?z4 ?z5 ?z6 ?z7 ?z8 ?z9
    (case a1 => k_is); (case l1 => k_is); (case c1 => k_is); (case k1 => k_is); (case a2 => k_is); (case l2 => k_is)
    (case c2 => k_is); (case k2 => k_is); (case a3 => k_is); (case l3 => k_is); (case c3 => k_is); (case k3 => k_is)
    (case a4 => k_is); (case l4 => k_is); (case c4 => k_is); (case k4 => k_is); (case a5 => k_is); (case l5 => k_is)
    (case c5 => k_is); (case k5 => k_is); (case a6 => k_is); (case l6 => k_is); (case c6 => k_is); (case k6 => k_is)
    (case a7 => k_is); (case l7 => k_is); (case c7 => k_is); (case k7 => k_is); (case a8 => k_is); (case l8 => k_is)
    (case c8 => k_is); (case k8 => k_is); (case a9 => k_is); (case l9 => k_is); (case c9 => k_is); (case k9 => k_is)
    (case a10 => k_is); (case l10 => k_is); (case c10 => k_is); (case k10 => k_is); (case a11 => k_is); (case l11 => k_is)
    (case c11 => k_is); (case k11 => k_is); (case a12 => k_is); (case l12 => k_is); (case c12 => k_is); (case k12 => k_is)
    (case a13 => k_is); (case l13 => k_is); (case c13 => k_is); (case k13 => k_is); (case a14 => k_is); (case l14 => k_is)
    (case c14 => k_is); (case k14 => k_is); (case a15 => k_is); (case l15 => k_is); (case c15 => k_is); (case k15 => k_is)
    (case a16 => k_is); (case l16 => k_is); (case c16 => k_is); (case k16 => k_is); (case a17 => k_is); (case l17 => k_is)
    (case c17 => k_is); (case k17 => k_is); (case a18 => k_is); (case l18 => k_is); (case c18 => k_is); (case k18 => k_is)
    (case a19 => k_is); (case l19 => k_is); (case c19 => k_is); (case k19 => k_is); (case z0 => k_is); (case z1 => k_is)
    (case z2 => k_is); (case z3 => k_is); (case z4 => k_is); (case z5 => k_is); (case z6 => k_is); (case z7 => k_is)
    (case z8 => k_is); (case z9 => k_is)
