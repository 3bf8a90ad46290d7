import PyProof.Rows.All
import Wide.All
import OpenK.AllK
import Wide.FinOn
import PyProof.ReprReads
import PyProof.ReprBulk
import PyProof.EqAt
import HandS.ForMost
import HandS.Star
import HandS.Deep
import HandS.IsInst
import HandS.Style
import HandS.Conv
import HandS.Defaults
import HandS.TupAny
import HandS.Iter
import HandS.Dict
import PyProof.ReprRoads
import HandS.Lambda
import KE.KSuper
import KE.KExcSuper
import HandS.Exc
import HandS.ExcOwn
import KE.KTryMore
import KE.KExcIs
import HandS.ExcIs
import HandS.EndBits
import HandS.EndTab
import HandS.HeadWalk
import KE.KStateDown
import HandS.Head0
import HandS.Head1
import HandS.Head2
import HandS.HeadEnd
import HandS.HeadHook1
import HandS.HeadHook2
import HandS.HeadHook3
import HandS.HeadHook4
import PySem.Challenge.RW_idlewishes_k03_whole_wishes
set_option Elab.async false
set_option linter.all false
set_option maxRecDepth 100000
set_option maxHeartbeats 4000000
/-! ## plain part: wishes, paths, parts -/
namespace K3
open PySem

inductive Wi where
  | mark (n : Int)
  | nul (c : Str)
  | un (c : Str) (f : Wi)
  | bi (c : Str) (f g : Wi)

def Wi.word : Wi → Str
  | .mark _ => "mark"
  | .nul c => c
  | .un c _ => c
  | .bi c _ _ => c
/-- the data of a wish -/
def Wi.dat : Wi → PyData
  | .mark n => .tuple [.str "mark", .int n]
  | .nul c => .tuple [.str c]
  | .un c f => .tuple [.str c, f.dat]
  | .bi c f g => .tuple [.str c, f.dat, g.dat]
/-- what stands behind the word -/
def Wi.rest : Wi → List PyData
  | .mark n => [.int n]
  | .nul _ => []
  | .un _ f => [f.dat]
  | .bi _ f g => [f.dat, g.dat]
theorem Wi.dat_eq (w : Wi) : w.dat = .tuple (.str w.word :: w.rest) := by cases w <;> rfl

abbrev unW : List Str := ["no", "next", "ever", "always"]
abbrev biW : List Str := ["and", "or", "till"]
abbrev nulW : List Str := ["true", "false"]
abbrev timedW : List Str := ["next", "till", "ever", "always"]
def Wi.Ok : Wi → Prop
  | .mark n => 0 ≤ n ∧ n ≤ 3
  | .nul c => c ∈ nulW
  | .un c f => c ∈ unW ∧ f.Ok
  | .bi c f g => c ∈ biW ∧ f.Ok ∧ g.Ok
def Wi.size : Wi → Nat
  | .mark _ => 1
  | .nul _ => 1
  | .un _ f => f.size + 1
  | .bi _ f g => f.size + g.size + 1
def tmW (c : Str) : Nat := if c ∈ timedW then 1 else 0
def Wi.tm : Wi → Nat
  | .mark _ => tmW "mark"
  | .nul c => tmW c
  | .un c f => f.tm + tmW c
  | .bi c f g => f.tm + g.tm + tmW c
theorem Wi.size_pos (w : Wi) : 0 < w.size := by cases w <;> simp [Wi.size]

/-! ### the parts at places -/
def Wi.kids : Wi → List (Int × Wi)
  | .mark _ => []
  | .nul _ => []
  | .un _ f => [(1, f)]
  | .bi _ f g => [(1, f), (2, g)]
def Wi.pieces : Wi → List (List Int × Wi)
  | .mark n => [([], .mark n)]
  | .nul c => [([], .nul c)]
  | .un c f => ([], .un c f) :: f.pieces.map fun p => (1 :: p.1, p.2)
  | .bi c f g => ([], .bi c f g) :: ((f.pieces.map fun p => (1 :: p.1, p.2)) ++ g.pieces.map fun p => (2 :: p.1, p.2))
def Wi.at : Wi → List Int → Option Wi
  | w, [] => some w
  | .mark _, _ :: _ => none
  | .nul _, _ :: _ => none
  | .un _ f, i :: p => if i = 1 then f.at p else none
  | .bi _ f g, i :: p => if i = 1 then f.at p else if i = 2 then g.at p else none
def Wi.put : Wi → List Int → Wi → Wi
  | _, [], q => q
  | .mark n, _ :: _, _ => .mark n
  | .nul c, _ :: _, _ => .nul c
  | .un c f, i :: p, q => if i = 1 then .un c (f.put p q) else .un c f
  | .bi c f g, i :: p, q => if i = 1 then .bi c (f.put p q) g else if i = 2 then .bi c f (g.put p q) else .bi c f g
/-- how many "no" stand around -/
def Wi.noes : Wi → List Int → Nat
  | _, [] => 0
  | .mark _, _ :: _ => 0
  | .nul _, _ :: _ => 0
  | .un c f, i :: p => (if c = "no" then 1 else 0) + (if i = 1 then f.noes p else 0)
  | .bi c f g, i :: p => (if c = "no" then 1 else 0) + (if i = 1 then f.noes p else if i = 2 then g.noes p else 0)
def Wi.even (w : Wi) (p : List Int) : Bool := w.noes p % 2 == 0
def Wi.worst (w : Wi) (p : List Int) : Wi := if w.even p then .nul "false" else .nul "true"
def Wi.best (w : Wi) (p : List Int) : Wi := if w.even p then .nul "true" else .nul "false"

theorem Wi.at_nil (w : Wi) : w.at [] = some w := by cases w <;> rfl
theorem Wi.put_nil (w q : Wi) : w.put [] q = q := by cases w <;> rfl
theorem Wi.noes_nil (w : Wi) : w.noes [] = 0 := by cases w <;> rfl

theorem mem_cons_map {w x : Wi} {p : List Int} {j : Int} {l : List (List Int × Wi)} : ((p, x) ∈ l.map fun q : List Int × Wi => (j :: q.1, q.2)) ↔ ∃ r, p = j :: r ∧ (r, x) ∈ l := by
  constructor
  · intro h
    obtain ⟨⟨r, y⟩, h1, h2⟩ := List.mem_map.mp h
    injection h2 with e1 e2
    exact ⟨r, e1.symm, e2 ▸ h1⟩
  · rintro ⟨r, rfl, h⟩
    exact List.mem_map.mpr ⟨(r, x), h, rfl⟩
theorem Wi.mem_pieces : ∀ (w : Wi) (p : List Int) (x : Wi), (p, x) ∈ w.pieces ↔ w.at p = some x
  | .mark n, p, x => by
    cases p with
    | nil =>
      simp only [Wi.pieces, Wi.at, List.mem_singleton, Prod.mk.injEq, true_and, Option.some.injEq]
      exact eq_comm
    | cons i p => simp [Wi.pieces, Wi.at]
  | .nul c, p, x => by
    cases p with
    | nil =>
      simp only [Wi.pieces, Wi.at, List.mem_singleton, Prod.mk.injEq, true_and, Option.some.injEq]
      exact eq_comm
    | cons i p => simp [Wi.pieces, Wi.at]
  | .un c f, p, x => by
    have ih := Wi.mem_pieces f
    unfold Wi.pieces
    rw [List.mem_cons, mem_cons_map (w := f)]
    cases p with
    | nil =>
      rw [Wi.at_nil]
      constructor
      · rintro (h | ⟨r, h, _⟩)
        · injection h with _ e
          rw [e]
        · cases h
      · intro h
        exact .inl (by rw [Option.some.inj h])
    | cons i p =>
      unfold Wi.at
      constructor
      · rintro (h | ⟨r, h, hm⟩)
        · injection h with e _
          cases e
        · injection h with e1 e2
          subst e1 e2
          rw [if_pos rfl]
          exact (ih _ _).mp hm
      · intro h
        by_cases e : i = 1
        · rw [if_pos e] at h
          exact .inr ⟨p, by rw [e], (ih _ _).mpr h⟩
        · rw [if_neg e] at h
          cases h
  | .bi c f g, p, x => by
    have ih1 := Wi.mem_pieces f
    have ih2 := Wi.mem_pieces g
    unfold Wi.pieces
    rw [List.mem_cons, List.mem_append, mem_cons_map (w := f), mem_cons_map (w := g)]
    cases p with
    | nil =>
      rw [Wi.at_nil]
      constructor
      · rintro (h | ⟨r, h, _⟩ | ⟨r, h, _⟩)
        · injection h with _ e
          rw [e]
        · cases h
        · cases h
      · intro h
        exact .inl (by rw [Option.some.inj h])
    | cons i p =>
      unfold Wi.at
      constructor
      · rintro (h | ⟨r, h, hm⟩ | ⟨r, h, hm⟩)
        · injection h with e _
          cases e
        · injection h with e1 e2
          subst e1 e2
          rw [if_pos rfl]
          exact (ih1 _ _).mp hm
        · injection h with e1 e2
          subst e1 e2
          rw [if_neg (by decide), if_pos rfl]
          exact (ih2 _ _).mp hm
      · intro h
        by_cases e : i = 1
        · rw [if_pos e] at h
          exact .inr (.inl ⟨p, by rw [e], (ih1 _ _).mpr h⟩)
        · rw [if_neg e] at h
          by_cases e2 : i = 2
          · rw [if_pos e2] at h
            exact .inr (.inr ⟨p, by rw [e2], (ih2 _ _).mpr h⟩)
          · rw [if_neg e2] at h
            cases h
theorem Wi.pieces_len : ∀ w : Wi, w.pieces.length = w.size
  | .mark _ => rfl
  | .nul _ => rfl
  | .un c f => by simp [Wi.pieces, Wi.size, Wi.pieces_len f]
  | .bi c f g => by simp [Wi.pieces, Wi.size, Wi.pieces_len f, Wi.pieces_len g]
theorem Wi.pieces_ne (w : Wi) : ∃ r, w.pieces = ([], w) :: r := by cases w <;> exact ⟨_, rfl⟩
theorem Wi.Ok.at : ∀ {w : Wi} {p : List Int} {x : Wi}, w.Ok → w.at p = some x → x.Ok
  | w, [], x, h, e => by
    rw [Wi.at_nil] at e
    cases e
    exact h
  | .mark _, _ :: _, x, h, e => by cases e
  | .nul _, _ :: _, x, h, e => by cases e
  | .un c f, i :: p, x, h, e => by
    unfold Wi.at at e
    split at e
    · exact Wi.Ok.at h.2 e
    · cases e
  | .bi c f g, i :: p, x, h, e => by
    unfold Wi.at at e
    split at e
    · exact Wi.Ok.at h.2.1 e
    · split at e
      · exact Wi.Ok.at h.2.2 e
      · cases e
theorem Wi.size_at : ∀ {w : Wi} {p : List Int} {x : Wi}, w.at p = some x → x.size + p.length ≤ w.size
  | w, [], x, e => by
    rw [Wi.at_nil] at e
    cases e
    exact Nat.le_refl _
  | .mark _, _ :: _, x, e => by cases e
  | .nul _, _ :: _, x, e => by cases e
  | .un c f, i :: p, x, e => by
    unfold Wi.at at e
    split at e
    · have := Wi.size_at e
      simp only [Wi.size, List.length_cons]
      omega
    · cases e
  | .bi c f g, i :: p, x, e => by
    unfold Wi.at at e
    split at e
    · have := Wi.size_at e
      simp only [Wi.size, List.length_cons]
      omega
    · split at e
      · have := Wi.size_at e
        simp only [Wi.size, List.length_cons]
        omega
      · cases e
theorem Wi.at_place : ∀ {w : Wi} {p : List Int} {x : Wi}, w.at p = some x → ∀ i ∈ p, i = 1 ∨ i = 2
  | w, [], x, e, i, hi => by cases hi
  | .mark _, _ :: _, x, e, _, _ => by cases e
  | .nul _, _ :: _, x, e, _, _ => by cases e
  | .un c f, j :: p, x, e, i, hi => by
    unfold Wi.at at e
    split at e
    · rename_i h
      rcases List.mem_cons.mp hi with z | z
      · exact .inl (z.trans h)
      · exact Wi.at_place e i z
    · cases e
  | .bi c f g, j :: p, x, e, i, hi => by
    unfold Wi.at at e
    split at e
    · rename_i h
      rcases List.mem_cons.mp hi with z | z
      · exact .inl (z.trans h)
      · exact Wi.at_place e i z
    · split at e
      · rename_i h
        rcases List.mem_cons.mp hi with z | z
        · exact .inr (z.trans h)
        · exact Wi.at_place e i z
      · cases e
theorem Wi.Ok.put : ∀ {w : Wi} {p : List Int} {q : Wi}, w.Ok → q.Ok → (w.put p q).Ok
  | w, [], q, _, hq => by rw [Wi.put_nil]; exact hq
  | .mark _, _ :: _, q, h, _ => h
  | .nul _, _ :: _, q, h, _ => h
  | .un c f, i :: p, q, h, hq => by
    unfold Wi.put
    split
    · exact ⟨h.1, Wi.Ok.put h.2 hq⟩
    · exact h
  | .bi c f g, i :: p, q, h, hq => by
    unfold Wi.put
    split
    · exact ⟨h.1, Wi.Ok.put h.2.1 hq, h.2.2⟩
    · split
      · exact ⟨h.1, h.2.1, Wi.Ok.put h.2.2 hq⟩
      · exact h
theorem Wi.size_put : ∀ (w : Wi) (p : List Int) (q : Wi), (w.put p q).size ≤ w.size + q.size
  | w, [], q => by rw [Wi.put_nil]; omega
  | .mark _, _ :: _, q => by simp only [Wi.put, Wi.size]; omega
  | .nul _, _ :: _, q => by simp only [Wi.put, Wi.size]; omega
  | .un c f, i :: p, q => by
    have := Wi.size_put f p q
    unfold Wi.put
    split <;> simp only [Wi.size] <;> omega
  | .bi c f g, i :: p, q => by
    have h1 := Wi.size_put f p q
    have h2 := Wi.size_put g p q
    unfold Wi.put
    split
    · simp only [Wi.size]; omega
    · split <;> simp only [Wi.size] <;> omega
theorem Wi.at_put : ∀ {w : Wi} {p : List Int} {x : Wi} (q : Wi), w.at p = some x → (w.put p q).at p = some q
  | w, [], x, q, e => by rw [Wi.put_nil, Wi.at_nil]
  | .mark _, _ :: _, x, q, e => by cases e
  | .nul _, _ :: _, x, q, e => by cases e
  | .un c f, i :: p, x, q, e => by
    unfold Wi.at at e
    split at e
    · rename_i h
      simp only [Wi.put, if_pos h, Wi.at]
      exact Wi.at_put q e
    · cases e
  | .bi c f g, i :: p, x, q, e => by
    unfold Wi.at at e
    split at e
    · rename_i h
      simp only [Wi.put, if_pos h, Wi.at]
      exact Wi.at_put q e
    · rename_i h1
      split at e
      · rename_i h
        simp only [Wi.put, if_neg h1, if_pos h, Wi.at]
        exact Wi.at_put q e
      · cases e

/-! ### data of paths, pairs -/
def pD (p : List Int) : PyData := .tuple (p.map .int)
def prD (x : List Int × Wi) : PyData := .tuple [pD x.1, x.2.dat]

/-! ### the walk by a stack -/
def grow (x : List Int × Wi) : List (List Int × Wi) := x.2.pieces.map fun q => (x.1 ++ q.1, q.2)
def kidsAt (x : List Int × Wi) : List (List Int × Wi) := x.2.kids.map fun k => (x.1 ++ [k.1], k.2)
theorem grow_eq (x : List Int × Wi) : grow x = x :: (kidsAt x).flatMap grow := by
  obtain ⟨p, w⟩ := x
  cases w with
  | mark n => simp [grow, kidsAt, Wi.pieces, Wi.kids]
  | nul c => simp [grow, kidsAt, Wi.pieces, Wi.kids]
  | un c f => simp [grow, kidsAt, Wi.pieces, Wi.kids, List.map_map, Function.comp_def]
  | bi c f g => simp [grow, kidsAt, Wi.pieces, Wi.kids, List.map_map, Function.comp_def]
theorem grow_root (w : Wi) : grow ([], w) = w.pieces := by simp [grow]
def sizes (l : List (List Int × Wi)) : Nat := (l.map fun x => x.2.size).sum
def tms (l : List (List Int × Wi)) : Nat := (l.map fun x => x.2.tm).sum
theorem sizes_append (a b : List (List Int × Wi)) : sizes (a ++ b) = sizes a + sizes b := by simp [sizes]
theorem tms_append (a b : List (List Int × Wi)) : tms (a ++ b) = tms a + tms b := by simp [tms]
theorem sizes_kids (x : List Int × Wi) : sizes (kidsAt x) + 1 = x.2.size := by
  obtain ⟨p, w⟩ := x
  cases w <;> simp [sizes, kidsAt, Wi.kids, Wi.size]
theorem tms_kids (x : List Int × Wi) : tms (kidsAt x) + tmW x.2.word = x.2.tm := by
  obtain ⟨p, w⟩ := x
  cases w <;> simp [tms, kidsAt, Wi.kids, Wi.tm, Wi.word]
theorem kids_ok {x : List Int × Wi} (h : x.2.Ok) : ∀ y ∈ kidsAt x, y.2.Ok := by
  obtain ⟨p, w⟩ := x
  cases w with
  | mark n => intro y hy; simp [kidsAt, Wi.kids] at hy
  | nul c => intro y hy; simp [kidsAt, Wi.kids] at hy
  | un c f =>
    intro y hy
    simp [kidsAt, Wi.kids] at hy
    subst hy
    exact h.2
  | bi c f g =>
    intro y hy
    simp [kidsAt, Wi.kids] at hy
    rcases hy with rfl | rfl
    · exact h.2.1
    · exact h.2.2
theorem kids_len (x : List Int × Wi) : (kidsAt x).length ≤ 2 := by
  obtain ⟨p, w⟩ := x
  cases w <;> simp [kidsAt, Wi.kids]
theorem len_sizes : ∀ l : List (List Int × Wi), l.length ≤ sizes l
  | [] => Nat.le_refl _
  | x :: l => by
    have h := len_sizes l
    have h2 := x.2.size_pos
    simp only [sizes, List.map_cons, List.sum_cons, List.length_cons] at h ⊢
    omega
theorem mem_sizes : ∀ {l : List (List Int × Wi)} {x : List Int × Wi}, x ∈ l → x.2.size ≤ sizes l
  | y :: l, x, h => by
    simp only [sizes, List.map_cons, List.sum_cons]
    rcases List.mem_cons.mp h with e | h
    · rw [e]
      omega
    · have := mem_sizes h
      simp only [sizes] at this
      omega
end K3
set_option maxRecDepth 100000
set_option maxHeartbeats 4000000
/-! ## what stands for data on the heap; what an expression denotes -/
namespace L2
open PySem PySem.Spec PyProof.Rows

section
variable {K : PySem.W.Frag} {H H' H1 H2 : Hp}
/-- what is a tuple stays one -/
def TStay (K : PySem.W.Frag) (H H' : Hp) : Prop := ∀ a xs, SqT K H a xs → SqT K H' a xs
theorem TStay.refl (H : Hp) : TStay K H H := fun _ _ h => h
theorem TStay.trans (a : TStay K H H1) (b : TStay K H1 H2) : TStay K H H2 := fun _ _ h => b _ _ (a _ _ h)
theorem TStay.same (h : Same H H') : TStay K H H' := fun a xs q => by
  rcases q with (q | ⟨o, q⟩) | q
  · exact .inl (.inl (h _ _ q))
  · exact .inl (.inr ⟨o, h _ _ q⟩)
  · exact .inr q
/-- an object that is no tuple may change -/
theorem TStay.chg {l : Addr} {u o : HO} (e : H l = some u) (h1 : ∀ xs, u ≠ .tup xs) (h2 : ∀ ob xs, u ≠ .frz ob (.tup xs)) : TStay K H (upd H l o) := fun a xs q => by
  rcases q with (q | ⟨ob, q⟩) | q
  · refine .inl (.inl ?_)
    rw [upd_ne fun z => ?_]
    · exact q
    · subst z
      rw [e] at q
      exact h1 xs (Option.some.inj q)
  · refine .inl (.inr ⟨ob, ?_⟩)
    rw [upd_ne fun z => ?_]
    · exact q
    · subst z
      rw [e] at q
      exact h2 ob xs (Option.some.inj q)
  · exact .inr q
theorem TStay.lst {l : Addr} {xs : List V} {o : HO} (e : H l = some (.lst xs)) : TStay K H (upd H l o) := TStay.chg e (fun _ z => by cases z) fun _ _ z => by cases z
theorem same_new {p : Addr} (h : H p = none) (o : HO) : Same H (upd H p o) := fun b u q => by
  rw [upd_ne (ne_of_none q h)]
  exact q
theorem ne_keep {p q : Addr} {o u : HO} (h : H p = some o) (d : o ≠ u) (hq : H q = some u) : p ≠ q := ne_of h hq d

mutual
/-- no list within -/
def tupD : PyData → Bool
  | .none | .bool _ | .int _ | .str _ => true
  | .list _ | .dict _ => false
  | .tuple xs => tupDs xs
def tupDs : List PyData → Bool
  | [] => true
  | x :: xs => tupD x && tupDs xs
end
mutual
theorem Dp.ts (e : TStay K H H') : ∀ (d : PyData) (v : V), tupD d = true → Dp K H v d → Dp K H' v d
  | .none, v, _, h => by cases h; exact .non
  | .bool b, v, _, h => by cases h; exact .bl b
  | .int i, v, _, h => by cases h; exact .int i
  | .str x, v, _, h => by cases h; exact .str x
  | .list _, v, t, _ => absurd t (by simp [tupD])
  | .dict _, v, t, _ => absurd t (by simp [tupD])
  | .tuple ds, v, t, h => by
    cases h with
    | tup hs ha => exact .tup (e _ _ hs) (DpAll.ts e ds _ (by simpa [tupD] using t) ha)
theorem DpAll.ts (e : TStay K H H') : ∀ (ds : List PyData) (vs : List V), tupDs ds = true → DpAll K H vs ds → DpAll K H' vs ds
  | [], vs, _, h => by cases h; exact .nil
  | d :: ds, vs, t, h => by
    cases h with
    | cons h1 h2 =>
      simp only [tupDs, Bool.and_eq_true] at t
      exact .cons (Dp.ts e d _ t.1 h1) (DpAll.ts e ds _ t.2 h2)
end
mutual
theorem Dp.same (e : Same H H') : ∀ (d : PyData) (v : V), Dp K H v d → Dp K H' v d
  | .none, v, h => by cases h; exact .non
  | .bool b, v, h => by cases h; exact .bl b
  | .int i, v, h => by cases h; exact .int i
  | .str x, v, h => by cases h; exact .str x
  | .list ds, v, h => by
    cases h with
    | lst hs ha => exact .lst (e.seq hs) (DpAll.same e ds _ ha)
  | .dict _, v, h => by cases h
  | .tuple ds, v, h => by
    cases h with
    | tup hs ha => exact .tup (TStay.same e _ _ hs) (DpAll.same e ds _ ha)
theorem DpAll.same (e : Same H H') : ∀ (ds : List PyData) (vs : List V), DpAll K H vs ds → DpAll K H' vs ds
  | [], vs, h => by cases h; exact .nil
  | d :: ds, vs, h => by
    cases h with
    | cons h1 h2 => exact .cons (Dp.same e d _ h1) (DpAll.same e ds _ h2)
end
theorem DpAll.len : ∀ {vs : List V} {ds : List PyData}, DpAll K H vs ds → vs.length = ds.length
  | _, _, .nil => rfl
  | _, _, .cons _ h => by rw [List.length_cons, List.length_cons, DpAll.len h]
theorem DpAll.get : ∀ {vs : List V} {ds : List PyData} {i : Nat} {d : PyData}, DpAll K H vs ds → ds[i]? = some d → ∃ v, vs[i]? = some v ∧ Dp K H v d
  | _, _, _, _, .nil, e => by simp at e
  | _, _, 0, _, .cons h _, e => by
    simp at e
    subst e
    exact ⟨_, rfl, h⟩
  | _, _, i + 1, d, .cons _ t, e => by
    obtain ⟨v, h1, h2⟩ := DpAll.get (i := i) (d := d) t (by simpa using e)
    exact ⟨v, by simpa using h1, h2⟩
theorem DpAll.getV : ∀ {vs : List V} {ds : List PyData} {i : Nat} {v : V}, DpAll K H vs ds → vs[i]? = some v → ∃ d, ds[i]? = some d ∧ Dp K H v d
  | _, _, _, _, .nil, e => by simp at e
  | _, _, 0, _, .cons h _, e => by
    simp at e
    subst e
    exact ⟨_, rfl, h⟩
  | _, _, i + 1, v, .cons _ t, e => by
    obtain ⟨d, h1, h2⟩ := DpAll.getV (i := i) (v := v) t (by simpa using e)
    exact ⟨d, by simpa using h1, h2⟩
theorem DpAll.append : ∀ {vs ws : List V} {ds es : List PyData}, DpAll K H vs ds → DpAll K H ws es → DpAll K H (vs ++ ws) (ds ++ es)
  | _, _, _, _, .nil, h => h
  | _, _, _, _, .cons a b, h => .cons a (DpAll.append b h)
theorem DpAll.drop : ∀ {vs : List V} {ds : List PyData} (n : Nat), DpAll K H vs ds → DpAll K H (vs.drop n) (ds.drop n)
  | _, _, 0, h => h
  | _, _, _ + 1, .nil => .nil
  | _, _, n + 1, .cons _ h => DpAll.drop n h
theorem DpAll.take : ∀ {vs : List V} {ds : List PyData} (n : Nat), DpAll K H vs ds → DpAll K H (vs.take n) (ds.take n)
  | _, _, 0, _ => .nil
  | _, _, _ + 1, .nil => .nil
  | _, _, n + 1, .cons a h => .cons a (DpAll.take n h)
theorem DpAll.reverse {vs : List V} {ds : List PyData} (h : DpAll K H vs ds) : DpAll K H vs.reverse ds.reverse := by
  induction vs generalizing ds with
  | nil => cases h; exact .nil
  | cons v vs ih =>
    cases h with
    | cons a b =>
      rw [List.reverse_cons, List.reverse_cons]
      exact (ih b).append (.cons a .nil)
theorem DpAll.one {vs : List V} {d : PyData} (h : DpAll K H vs [d]) : ∃ v, vs = [v] ∧ Dp K H v d := by
  cases h with
  | cons a b => cases b; exact ⟨_, rfl, a⟩
theorem DpAll.two {vs : List V} {d e : PyData} (h : DpAll K H vs [d, e]) : ∃ v w, vs = [v, w] ∧ Dp K H v d ∧ Dp K H w e := by
  cases h with
  | cons a b =>
    obtain ⟨w, rfl, c⟩ := b.one
    exact ⟨_, _, rfl, a, c⟩
theorem DpAll.three {vs : List V} {d e f : PyData} (h : DpAll K H vs [d, e, f]) : ∃ v w x, vs = [v, w, x] ∧ Dp K H v d ∧ Dp K H w e ∧ Dp K H x f := by
  cases h with
  | cons a b =>
    obtain ⟨w, x, rfl, c, e⟩ := b.two
    exact ⟨_, _, _, rfl, a, c, e⟩
theorem Dp.tupOf {v : V} {ds : List PyData} (h : Dp K H v (.tuple ds)) : ∃ a xs, v = .ref a ∧ SqT K H a xs ∧ DpAll K H xs ds := by
  cases h with
  | tup a b => exact ⟨_, _, rfl, a, b⟩
theorem Dp.lstOf {v : V} {ds : List PyData} (h : Dp K H v (.list ds)) : ∃ a xs, v = .ref a ∧ SqL K H a xs ∧ DpAll K H xs ds := by
  cases h with
  | lst a b => exact ⟨_, _, rfl, a, b⟩
theorem Dp.intOf {v : V} {i : Int} (h : Dp K H v (.int i)) : v = .int i := by cases h; rfl
theorem Dp.strOf {v : V} {x : Str} (h : Dp K H v (.str x)) : v = .str x := by cases h; rfl
theorem Dp.blOf {v : V} {b : Bool} (h : Dp K H v (.bool b)) : v = .bl b := by cases h; rfl
theorem sz100 {n : Nat} (h : n ≤ 100000) : n ≤ sizeLine := Nat.le_trans h (by decide)
theorem sz100' {n : Nat} (h : n < 100000) : n < sizeLine := Nat.lt_of_lt_of_le h (by decide)

end
end L2
namespace K3
open PySem PySem.Spec PyProof.Rows L2
section
variable {K : PySem.W.Frag} {H H' H1 H2 : Hp}
/-! ### what denotes what -/
def EvD (K : PySem.W.Frag) (te : TE) (σ : L2.St) (H : Hp) (d : PyData) : Prop := ∀ H1, Same H H1 → ∀ Q : VK, (∀ v H2, Same H1 H2 → Dp K H2 v d → Q v H2) → te σ H1 Q
def EvDA (K : PySem.W.Frag) (ta : TA) (σ : L2.St) (H : Hp) (ds : List PyData) : Prop := ∀ H1, Same H H1 → ∀ Q : List V → Hp → Prop, (∀ vs H2, Same H1 H2 → DpAll K H2 vs ds → Q vs H2) → ta σ H1 Q
def EvT (tt : TT) (σ : L2.St) (H : Hp) (b : Bool) : Prop := ∀ H1, Same H H1 → ∀ Q : Bool → Hp → Prop, (∀ H2, Same H1 H2 → Q b H2) → tt σ H1 Q
def EvO (to : TO) (σ : L2.St) (H : Hp) (o : Option Int) : Prop := ∀ H1, Same H H1 → ∀ Q : Option Int → Hp → Prop, (∀ H2, Same H1 H2 → Q o H2) → to σ H1 Q
/-- a new list -/
def EvL (K : PySem.W.Frag) (te : TE) (σ : L2.St) (H : Hp) (ds : List PyData) : Prop := ∀ H1, Same H H1 → ∀ Q : VK, (∀ p xs H2, Same H1 H2 → H1 p = none → H2 p = some (.lst xs) → DpAll K H2 xs ds → Q (.ref p) H2) → te σ H1 Q

variable {σ : L2.St} {ta tb te tc : TE} {t u : TT} {as bs : TA} {d e f : PyData} {ds es rs : List PyData}
theorem EvD.mono (a : Same H H') (h : EvD K te σ H d) : EvD K te σ H' d := fun H1 b Q q => h H1 (a.trans b) Q q
theorem EvDA.mono (a : Same H H') (h : EvDA K as σ H ds) : EvDA K as σ H' ds := fun H1 b Q q => h H1 (a.trans b) Q q
theorem EvT.mono {b : Bool} (a : Same H H') (h : EvT t σ H b) : EvT t σ H' b := fun H1 c Q q => h H1 (a.trans c) Q q
theorem EvL.mono (a : Same H H') (h : EvL K te σ H ds) : EvL K te σ H' ds := fun H1 b Q q => h H1 (a.trans b) Q q
theorem EvL.toD (h : EvL K te σ H ds) : EvD K te σ H (.list ds) := fun H1 e Q q => h H1 e Q fun p xs H2 s n hp ha => q _ _ s (.lst (SqL.of hp) ha)

theorem ed_var {i : Nat} {v : V} (h : σ[i]? = some (some v)) (hd : Dp K H v d) : EvD K (tVar i) σ H d := fun H1 e Q q => ⟨v, h, q v H1 (Same.refl _) (Dp.same e _ _ hd)⟩
theorem ed_int {i : Int} : EvD K (tC (.int i)) σ H (.int i) := fun H1 _ Q q => q _ H1 (Same.refl _) (.int i)
theorem ed_str {x : Str} : EvD K (tC (.str x)) σ H (.str x) := fun H1 _ Q q => q _ H1 (Same.refl _) (.str x)
theorem ed_bl {b : Bool} : EvD K (tC (.bl b)) σ H (.bool b) := fun H1 _ Q q => q _ H1 (Same.refl _) (.bl b)
theorem ed_c {v : V} (h : Dp K H v d) : EvD K (tC v) σ H d := fun H1 e Q q => q _ H1 (Same.refl _) (Dp.same e _ _ h)
theorem ea_nil : EvDA K tNil σ H [] := fun H1 _ Q q => q _ H1 (Same.refl _) .nil
theorem ea_cons (ha : EvD K ta σ H d) (hr : EvDA K as σ H ds) : EvDA K (tCons ta as) σ H (d :: ds) := fun H1 e Q q =>
  ha H1 e _ fun v H2 s2 h2 => hr H2 (e.trans s2) _ fun vs H3 s3 h3 => q _ H3 (s2.trans s3) (.cons (Dp.same s3 _ _ h2) h3)
theorem ea_star (ha : EvD K ta σ H (.tuple es)) (hr : EvDA K as σ H ds) : EvDA K (StX.tStar K ta as) σ H (es ++ ds) := fun H1 e Q q =>
  ha H1 e _ fun v H2 s2 h2 => by
    obtain ⟨a, xs, rfl, hs, hx⟩ := h2.tupOf
    exact ⟨a, xs, rfl, .inl hs, hr H2 (e.trans s2) _ fun vs H3 s3 h3 => q _ H3 (s2.trans s3) ((DpAll.same s3 _ _ hx).append h3)⟩
theorem ed_tup (h : EvDA K as σ H ds) (hl : ds.length ≤ 100000) : EvD K (tTup as) σ H (.tuple ds) := fun H1 e Q q =>
  h H1 e _ fun vs H2 s2 h2 => ⟨by rw [h2.len]; exact sz100 hl, fun p hp => q _ _ (s2.trans (same_new hp _)) (.tup (SqT.of upd_same) (DpAll.same (same_new hp _) _ _ h2))⟩
theorem el_lst (h : EvDA K as σ H ds) (hl : ds.length ≤ 100000) : EvL K (tLst as) σ H ds := fun H1 e Q q =>
  h H1 e _ fun vs H2 s2 h2 => ⟨by rw [h2.len]; exact sz100 hl, fun p hp => q p vs _ (s2.trans (same_new hp _)) (s2.free hp) upd_same (DpAll.same (same_new hp _) _ _ h2)⟩
theorem ed_lst (h : EvDA K as σ H ds) (hl : ds.length ≤ 100000) : EvD K (tLst as) σ H (.list ds) := (el_lst h hl).toD
theorem ed_if {c : Bool} (hc : EvT t σ H c) (h1 : c = true → EvD K ta σ H d) (h2 : c = false → EvD K tb σ H d) : EvD K (tIf t ta tb) σ H d := fun H1 e Q q =>
  hc H1 e _ fun H2 s2 => by
    cases c with
    | true => exact iteT (h1 rfl H2 (e.trans s2) Q fun v H3 s3 h3 => q v H3 (s2.trans s3) h3)
    | false => exact iteF (h2 rfl H2 (e.trans s2) Q fun v H3 s3 h3 => q v H3 (s2.trans s3) h3)
theorem ed_ixT {i : Nat} (ha : EvD K ta σ H (.tuple ds)) (hb : EvD K tb σ H (.int i)) (hi : ds[i]? = some d) : EvD K (tOp (rIxT K) ta tb) σ H d := fun H1 e Q q =>
  ha H1 e _ fun v H2 s2 h2 => hb H2 (e.trans s2) _ fun w H3 s3 h3 => by
    obtain ⟨a, xs, rfl, hs, hx⟩ := (Dp.same s3 _ _ h2).tupOf
    cases h3.intOf
    obtain ⟨x, e1, e2⟩ := hx.get hi
    exact ⟨a, xs, _, x, rfl, rfl, hs, atI_nat e1, q x H3 (s2.trans s3) e2⟩
theorem ed_ixL {i : Nat} (ha : EvD K ta σ H (.list ds)) (hb : EvD K tb σ H (.int i)) (hi : ds[i]? = some d) : EvD K (tOp (rIxL K) ta tb) σ H d := fun H1 e Q q =>
  ha H1 e _ fun v H2 s2 h2 => hb H2 (e.trans s2) _ fun w H3 s3 h3 => by
    obtain ⟨a, xs, rfl, hs, hx⟩ := (Dp.same s3 _ _ h2).lstOf
    cases h3.intOf
    obtain ⟨x, e1, e2⟩ := hx.get hi
    exact ⟨a, xs, _, x, rfl, rfl, hs, atI_nat e1, q x H3 (s2.trans s3) e2⟩
theorem ed_op2 {r : R2} (ha : EvD K ta σ H d) (hb : EvD K tb σ H e) (hr : ∀ x y H2, Same H H2 → Dp K H2 x d → Dp K H2 y e → ∀ Q : VK, (∀ v H3, Same H2 H3 → Dp K H3 v f → Q v H3) → r x y H2 Q) : EvD K (tOp r ta tb) σ H f := fun H1 s1 Q q =>
  ha H1 s1 _ fun v H2 s2 h2 => hb H2 (s1.trans s2) _ fun w H3 s3 h3 => hr v w H3 ((s1.trans s2).trans s3) (Dp.same s3 _ _ h2) h3 Q fun x H4 s4 h4 => q x H4 ((s2.trans s3).trans s4) h4
theorem ed_I0 {g : Int → Int → V} {i j : Int} (ha : EvD K ta σ H (.int i)) (hb : EvD K tb σ H (.int j)) (hg : ∀ H2, Dp K H2 (g i j) d) : EvD K (tOp (rI0 g) ta tb) σ H d :=
  ed_op2 ha hb fun x y H2 _ hx hy Q q => by
    cases hx.intOf
    cases hy.intOf
    exact ⟨i, j, rfl, rfl, q _ H2 (Same.refl _) (hg _)⟩
theorem ed_I {C : Int → Int → Prop} {g : Int → Int → V} {i j : Int} (ha : EvD K ta σ H (.int i)) (hb : EvD K tb σ H (.int j)) (hc : C i j) (hg : ∀ H2, Dp K H2 (g i j) d) : EvD K (tOp (rI C g) ta tb) σ H d :=
  ed_op2 ha hb fun x y H2 _ hx hy Q q => by
    cases hx.intOf
    cases hy.intOf
    exact ⟨i, j, rfl, rfl, hc, q _ H2 (Same.refl _) (hg _)⟩
theorem ed_eqD (ha : EvD K ta σ H d) (hb : EvD K tb σ H e) (hd : SeqAt.shaped d = true) (he : SeqAt.shaped e = true) : EvD K (tOp (rEqD K) ta tb) σ H (.bool (PyData.eqv d e)) :=
  ed_op2 ha hb fun x y H2 _ hx hy Q q => ⟨d, e, hx, hy, hd, he, q _ H2 (Same.refl _) (.bl _)⟩
theorem ed_neD (ha : EvD K ta σ H d) (hb : EvD K tb σ H e) (hd : SeqAt.shaped d = true) (he : SeqAt.shaped e = true) : EvD K (tOp (rNeD K) ta tb) σ H (.bool (!PyData.eqv d e)) :=
  ed_op2 ha hb fun x y H2 _ hx hy Q q => ⟨d, e, hx, hy, hd, he, q _ H2 (Same.refl _) (.bl _)⟩
theorem et_test {b : Bool} (h : EvD K te σ H (.bool b)) : EvT (tTest te) σ H b := fun H1 e Q q => h H1 e _ fun v H2 s2 h2 => ⟨b, h2.blOf, q H2 s2⟩
theorem et_B {b : Bool} (h : EvD K te σ H (.bool b)) : EvT (tB te) σ H b := fun H1 e Q q => h H1 e _ fun v H2 s2 h2 => ⟨b, h2.blOf, q H2 s2⟩
theorem et_not {b : Bool} (h : EvT t σ H b) : EvT (tNot t) σ H (!b) := fun H1 e Q q => h H1 e _ fun H2 s2 => q H2 s2
theorem et_and {a b : Bool} (h1 : EvT t σ H a) (h2 : a = true → EvT u σ H b) : EvT (tAnd t u) σ H (a && b) := fun H1 e Q q => h1 H1 e _ fun H2 e2 => by
  cases a with
  | true => exact iteT (h2 rfl H2 (e.trans e2) Q fun H3 e3 => q H3 (e2.trans e3))
  | false => exact iteF (q H2 e2)
theorem et_or {a b : Bool} (h1 : EvT t σ H a) (h2 : a = false → EvT u σ H b) : EvT (tOr t u) σ H (a || b) := fun H1 e Q q => h1 H1 e _ fun H2 e2 => by
  cases a with
  | true => exact iteT (q H2 e2)
  | false => exact iteF (h2 rfl H2 (e.trans e2) Q fun H3 e3 => q H3 (e2.trans e3))
theorem ed_orV {a b : Bool} (h1 : EvD K ta σ H (.bool a)) (h2 : a = false → EvD K tb σ H (.bool b)) : EvD K (tOrV ta tb) σ H (.bool (a || b)) := fun H1 s1 Q q => h1 H1 s1 _ fun v H2 s2 hv => ⟨a, hv.blOf, by
  cases a with
  | true => exact iteT (q _ H2 s2 (.bl _))
  | false => exact iteF (h2 rfl H2 (s1.trans s2) Q fun w H3 s3 h3 => q w H3 (s2.trans s3) h3)⟩
theorem ed_andV {a b : Bool} (h1 : EvD K ta σ H (.bool a)) (h2 : a = true → EvD K tb σ H (.bool b)) : EvD K (tAndV ta tb) σ H (.bool (a && b)) := fun H1 s1 Q q => h1 H1 s1 _ fun v H2 s2 hv => ⟨a, hv.blOf, by
  cases a with
  | true => exact iteT (h2 rfl H2 (s1.trans s2) Q fun w H3 s3 h3 => q w H3 (s2.trans s3) h3)
  | false => exact iteF (q _ H2 s2 (.bl _))⟩
theorem ed_notV {a : Bool} (h : EvD K ta σ H (.bool a)) : EvD K (tNotV ta) σ H (.bool (!a)) := fun H1 s1 Q q => h H1 s1 _ fun v H2 s2 hv => ⟨a, hv.blOf, q _ H2 s2 (.bl _)⟩
theorem eo_no : EvO tNoPart σ H none := fun H1 _ Q q => q H1 (Same.refl _)
theorem eo_some {i : Int} (h : EvD K te σ H (.int i)) : EvO (tPart te) σ H (some i) := fun H1 e Q q => h H1 e _ fun v H2 s2 h2 => ⟨i, h2.intOf, q H2 s2⟩
/-- a call of a built-in by values -/
theorem ed_CB {r : List V → Hp → VK → Prop} (ha : EvDA K as σ H ds) (hr : ∀ vs H2, Same H H2 → DpAll K H2 vs ds → ∀ Q : VK, (∀ v H3, Same H2 H3 → Dp K H3 v d → Q v H3) → r vs H2 Q) : EvD K (tCB r as) σ H d := fun H1 s1 Q q =>
  ha H1 s1 _ fun vs H2 s2 h2 => hr vs H2 (s1.trans s2) h2 Q fun v H3 s3 h3 => q v H3 (s2.trans s3) h3

/-! ### promises of defs that only read data -/
/-- data in, data out -/
def spD (K : PySem.W.Frag) (n : Nat) (R : List PyData → PyData → Prop) : Sp := fun vs H Q _ => ∃ ds r, ds.length = n ∧ DpAll K H vs ds ∧ R ds r ∧ ∀ v H', Same H H' → Dp K H' v r → Q v H'
/-- data in, a new list out -/
def spL (K : PySem.W.Frag) (n : Nat) (R : List PyData → List PyData → Prop) : Sp := fun vs H Q _ => ∃ ds rs, ds.length = n ∧ DpAll K H vs ds ∧ R ds rs ∧ ∀ p xs H', Same H H' → H p = none → H' p = some (.lst xs) → DpAll K H' xs rs → Q (.ref p) H'
theorem spD_len {n : Nat} {R : List PyData → PyData → Prop} {ps : List Str} (hn : ps.length = n) (vs : List V) (H : Hp) (Q : VK) (E : XK) (h : spD K n R vs H Q E) : vs.length = ps.length := by
  obtain ⟨ds, r, e, hd, _⟩ := h
  rw [hd.len, e, hn]
theorem spL_len {n : Nat} {R : List PyData → List PyData → Prop} {ps : List Str} (hn : ps.length = n) (vs : List V) (H : Hp) (Q : VK) (E : XK) (h : spL K n R vs H Q E) : vs.length = ps.length := by
  obtain ⟨ds, r, e, hd, _⟩ := h
  rw [hd.len, e, hn]
theorem ed_call {n : Nat} {R : List PyData → PyData → Prop} {E : XK} (ha : EvDA K as σ H ds) (hn : ds.length = n) (hr : R ds d) : EvD K (tCall (spD K n R) [] E as) σ H d := fun H1 s1 Q q =>
  ha H1 s1 _ fun vs H2 s2 h2 => ⟨ds, d, hn, by rw [List.append_nil]; exact h2, hr, fun v H3 s3 h3 => q v H3 (s2.trans s3) h3⟩
theorem el_call {n : Nat} {R : List PyData → List PyData → Prop} {E : XK} (ha : EvDA K as σ H ds) (hn : ds.length = n) (hr : R ds rs) : EvL K (tCall (spL K n R) [] E as) σ H rs := fun H1 s1 Q q =>
  ha H1 s1 _ fun vs H2 s2 h2 => ⟨ds, rs, hn, by rw [List.append_nil]; exact h2, hr, fun p xs H3 s3 np hp h3 => q p xs H3 (s2.trans s3) (s2.free np) hp h3⟩

/-! ### statements -/
variable {D : Ends} {ts us : L2.TS}
theorem q_set {i : Nat} (h : EvD K te σ H d) (k : ∀ v H2, Same H H2 → Dp K H2 v d → D.nx (σ.set i (some v)) H2) : tAsg te (gName i) D σ H := h H (Same.refl H) _ k
theorem q_setL {i : Nat} (h : EvL K te σ H ds) (k : ∀ p xs H2, Same H H2 → H p = none → H2 p = some (.lst xs) → DpAll K H2 xs ds → D.nx (σ.set i (some (.ref p))) H2) : tAsg te (gName i) D σ H := h H (Same.refl H) _ k
theorem q_ret (h : EvD K te σ H d) (k : ∀ v H2, Same H H2 → Dp K H2 v d → D.rt v H2) : tRet te D σ H := h H (Same.refl H) _ k
theorem q_retL (h : EvL K te σ H ds) (k : ∀ p xs H2, Same H H2 → H p = none → H2 p = some (.lst xs) → DpAll K H2 xs ds → D.rt (.ref p) H2) : tRet te D σ H := h H (Same.refl H) _ k
theorem q_if {b : Bool} (h : EvT t σ H b) (k1 : b = true → ∀ H2, Same H H2 → ts D σ H2) (k2 : b = false → ∀ H2, Same H H2 → us D σ H2) : tIfS t ts us D σ H := h H (Same.refl H) _ fun H2 s2 => by
  cases b with
  | true => exact iteT (k1 rfl H2 s2)
  | false => exact iteF (k2 rfl H2 s2)
theorem q_next (k : D.nx σ H) : tNext D σ H := k
/-! .. with what stands behind -/
theorem s_set {i : Nat} (h : EvD K te σ H d) (k : ∀ v H2, Same H H2 → Dp K H2 v d → us D (σ.set i (some v)) H2) : tSeq (tAsg te (gName i)) us D σ H := h H (Same.refl H) _ k
theorem s_setL {i : Nat} (h : EvL K te σ H ds) (k : ∀ p xs H2, Same H H2 → H p = none → H2 p = some (.lst xs) → DpAll K H2 xs ds → us D (σ.set i (some (.ref p))) H2) : tSeq (tAsg te (gName i)) us D σ H := h H (Same.refl H) _ k
theorem s_drop (h : EvD K te σ H d) (k : ∀ H2, Same H H2 → us D σ H2) : tSeq (tDrop te) us D σ H := h H (Same.refl H) _ fun _ H2 s2 _ => k H2 s2
/-- a test that is false, nothing else behind the if -/
theorem s_pass (h : EvT t σ H false) (k : ∀ H2, Same H H2 → us D σ H2) : tSeq (tIfS t ts tNext) us D σ H := h H (Same.refl H) _ fun H2 s2 => iteF (k H2 s2)
theorem s_take {vs : L2.TS} (h : EvT t σ H true) (k : ∀ H2, Same H H2 → ts { D with nx := us D } σ H2) : tSeq (tIfS t ts vs) us D σ H := h H (Same.refl H) _ fun H2 s2 => iteT (k H2 s2)
theorem s_if {vs : L2.TS} {b : Bool} (h : EvT t σ H b) (k1 : b = true → ∀ H2, Same H H2 → ts { D with nx := us D } σ H2) (k2 : b = false → ∀ H2, Same H H2 → vs { D with nx := us D } σ H2) : tSeq (tIfS t ts vs) us D σ H := h H (Same.refl H) _ fun H2 s2 => by
  cases b with
  | true => exact iteT (k1 rfl H2 s2)
  | false => exact iteF (k2 rfl H2 s2)
theorem q_drop (h : EvD K te σ H d) (k : ∀ H2, Same H H2 → D.nx σ H2) : tDrop te D σ H := h H (Same.refl H) _ fun _ H2 s2 _ => k H2 s2
end
end K3
set_option maxRecDepth 100000
set_option maxHeartbeats 4000000
/-! ## the text by places, what is leaned on, calls by name -/
namespace K3
open PySem PySem.Spec PyProof.Rows L2
def top (i : Nat) : Stmt := PySem.Challenge.pw_idlewishes_k03_whole_wishes.main.body.getD i (.Pass ⟨0, 0, 0, 0⟩)
abbrev s_is_whole : Stmt := top 11
abbrev s_has_form : Stmt := top 27
abbrev s_inner_of : Stmt := top 28
abbrev s_wrong_in : Stmt := top 29
abbrev s_need_wish : Stmt := top 30
abbrev s_parts_of : Stmt := top 31
abbrev s_paths : Stmt := top 32
abbrev s_need_path : Stmt := top 33
abbrev s_part_in : Stmt := top 34
abbrev s_part_at : Stmt := top 35
abbrev s_put_in : Stmt := top 36
abbrev s_replaced : Stmt := top 37
abbrev s_is_plain_in : Stmt := top 38
abbrev s_is_plain : Stmt := top 39
abbrev s_worst_in : Stmt := top 40
abbrev s_worst : Stmt := top 41
abbrev s_hardened_of : Stmt := top 42
abbrev s_hardened : Stmt := top 43
abbrev s_timed_of : Stmt := top 44
abbrev s_timed_parts : Stmt := top 45
abbrev s_softened : Stmt := top 47
abbrev s_law_mixed : Stmt := top 49
abbrev s_law_folded : Stmt := top 50
abbrev s_law_draw : Stmt := top 51
abbrev s_law_begun : Stmt := top 52
abbrev s_law_like : Stmt := top 53
abbrev s_law_hope : Stmt := top 54
abbrev s_law_pieces : Stmt := top 55
abbrev s_law_with : Stmt := top 56
abbrev s_law_is_even : Stmt := top 57
abbrev s_law_timed : Stmt := top 58
abbrev s_law_told : Stmt := top 59
abbrev s_law_right : Stmt := top 60
abbrev s_law : Stmt := top 61
abbrev s_BadWish_init : Stmt := inClass (top 3) 0
/-- a def of the module under its name -/
structure Dn (K : PySem.W.Frag) (mg : Str → Option Value) (x : Str) (st : Stmt) (f : Addr) (fd : FuncData) : Prop where
  fn : FunD K x x (defArgs st) (defBody st) (defScope st) [] [] f fd
  at_ : mg x = some (.ref f)
abbrev wideL : List (Str × Int) := [("true", 1), ("false", 1), ("mark", 2), ("no", 2), ("and", 3), ("or", 3), ("next", 2), ("till", 3), ("ever", 2), ("always", 2)]
structure Tx (K : PySem.W.Frag) (mg : Str → Option Value) (w : World) : Prop where
  f_is_whole : ∃ f fd, Dn K mg "is_whole" s_is_whole f fd
  f_has_form : ∃ f fd, Dn K mg "has_form" s_has_form f fd
  f_inner_of : ∃ f fd, Dn K mg "inner_of" s_inner_of f fd
  f_wrong_in : ∃ f fd, Dn K mg "wrong_in" s_wrong_in f fd
  f_need_wish : ∃ f fd, Dn K mg "need_wish" s_need_wish f fd
  f_parts_of : ∃ f fd, Dn K mg "parts_of" s_parts_of f fd
  f_paths : ∃ f fd, Dn K mg "paths" s_paths f fd
  f_need_path : ∃ f fd, Dn K mg "need_path" s_need_path f fd
  f_part_in : ∃ f fd, Dn K mg "part_in" s_part_in f fd
  f_part_at : ∃ f fd, Dn K mg "part_at" s_part_at f fd
  f_put_in : ∃ f fd, Dn K mg "put_in" s_put_in f fd
  f_replaced : ∃ f fd, Dn K mg "replaced" s_replaced f fd
  f_is_plain_in : ∃ f fd, Dn K mg "is_plain_in" s_is_plain_in f fd
  f_is_plain : ∃ f fd, Dn K mg "is_plain" s_is_plain f fd
  f_worst_in : ∃ f fd, Dn K mg "worst_in" s_worst_in f fd
  f_worst : ∃ f fd, Dn K mg "worst" s_worst f fd
  f_hardened_of : ∃ f fd, Dn K mg "hardened_of" s_hardened_of f fd
  f_hardened : ∃ f fd, Dn K mg "hardened" s_hardened f fd
  f_timed_of : ∃ f fd, Dn K mg "timed_of" s_timed_of f fd
  f_timed_parts : ∃ f fd, Dn K mg "timed_parts" s_timed_parts f fd
  f_softened : ∃ f fd, Dn K mg "softened" s_softened f fd
  f_law_mixed : ∃ f fd, Dn K mg "_law_mixed" s_law_mixed f fd
  f_law_folded : ∃ f fd, Dn K mg "_law_folded" s_law_folded f fd
  f_law_draw : ∃ f fd, Dn K mg "_law_draw" s_law_draw f fd
  f_law_begun : ∃ f fd, Dn K mg "_law_begun" s_law_begun f fd
  f_law_like : ∃ f fd, Dn K mg "_law_like" s_law_like f fd
  f_law_hope : ∃ f fd, Dn K mg "_law_hope" s_law_hope f fd
  f_law_pieces : ∃ f fd, Dn K mg "_law_pieces" s_law_pieces f fd
  f_law_with : ∃ f fd, Dn K mg "_law_with" s_law_with f fd
  f_law_is_even : ∃ f fd, Dn K mg "_law_is_even" s_law_is_even f fd
  f_law_timed : ∃ f fd, Dn K mg "_law_timed" s_law_timed f fd
  f_law_told : ∃ f fd, Dn K mg "_law_told" s_law_told f fd
  f_law_right : ∃ f fd, Dn K mg "_law_right" s_law_right f fd
  f_law : ∃ f fd, Dn K mg "law" s_law f fd
  b_isinstance : mg "isinstance" = none
  b_tuple : mg "tuple" = none
  b_str : mg "str" = none
  b_len : mg "len" = none
  b_int : mg "int" = none
  b_bool : mg "bool" = none
  b_range : mg "range" = none
  b_all : mg "all" = none
  b_repr : mg "repr" = none
  b_enumerate : mg "enumerate" = none
  b_super : mg "super" = none
  c_TRUE : ∃ u, mg "TRUE" = some u ∧ RelV (.str "true") u
  c_FALSE : ∃ u, mg "FALSE" = some u ∧ RelV (.str "false") u
  c_MARK : ∃ u, mg "MARK" = some u ∧ RelV (.str "mark") u
  c_NO : ∃ u, mg "NO" = some u ∧ RelV (.str "no") u
  c_AND : ∃ u, mg "AND" = some u ∧ RelV (.str "and") u
  c_OR : ∃ u, mg "OR" = some u ∧ RelV (.str "or") u
  c_NEXT : ∃ u, mg "NEXT" = some u ∧ RelV (.str "next") u
  c_TILL : ∃ u, mg "TILL" = some u ∧ RelV (.str "till") u
  c_EVER : ∃ u, mg "EVER" = some u ∧ RelV (.str "ever") u
  c_ALWAYS : ∃ u, mg "ALWAYS" = some u ∧ RelV (.str "always") u
  c_LAST_MARK : ∃ u, mg "LAST_MARK" = some u ∧ RelV (.int 3) u
  c_MOST_PARTS : ∃ u, mg "MOST_PARTS" = some u ∧ RelV (.int 12) u
  c_MOST_TIMED : ∃ u, mg "MOST_TIMED" = some u ∧ RelV (.int 5) u
  wide : ∃ d es n, mg "WIDE" = some (.ref d) ∧ KDict K w d es n ∧ ∀ q ∈ wideL, ∃ u, PySem.W.nsIn K d q.1 = some (some u) ∧ RelV (.int q.2) u
  timed : ∃ a, mg "TIMED" = some (.ref a) ∧ ∀ H : Hp, SqT K H a (timedW.map V.str)
/-- a def that may be called by its name and lets nothing out -/
structure Cl (P : Program) (w : World) (K : PySem.W.Frag) (mg : Str → Option Value) (base : Heap) (k : Nat) (x : Str) (sp : Sp) : Prop where
  ex : ∃ (f : Addr) (fd : FuncData) (ps : List Str), FnOk P w K mg base CX0 k f fd ps sp ∧ mg x = some (.ref f) ∧ PySem.W.keepIn K (.ref f) = true ∧ Binds K fd ps []
theorem Cl.mono {P : Program} {w : World} {K : PySem.W.Frag} {mg : Str → Option Value} {base : Heap} {j k : Nat} {x : Str} {sp : Sp} (c : Cl P w K mg base j x sp) (h : j ≤ k) : Cl P w K mg base k x sp := by
  obtain ⟨f, fd, ps, F, r⟩ := c.ex
  exact ⟨f, fd, ps, F.mono h, r⟩
section
variable {P : Program} {w : World} {K : PySem.W.Frag} {mg : Str → Option Value} {base : Heap}
abbrev BindsN (x : Str) (st : Stmt) (ps : List Str) : Prop := ∀ (kV doc pm : Value) (an : Option Addr) (cdv ct : Value) (us : List Value), us.length = ps.length → bindArgs (PySem.W.fnOf x x (defArgs st) (defBody st) (defScope st) .none kV doc pm an cdv ct) ⟨us, []⟩ = pure (ps.zip us)
theorem cl_of {x : Str} {st : Stmt} {N ps : List Str} {k : Nat} {sp : Sp} (D : ∃ f fd, Dn K mg x st f fd) (S : FnScope N ps (defScope st)) (hb : BindsN x st ps) (len : ∀ vs H Q E, sp vs H Q E → vs.length = ps.length)
    (hbody : ∀ (f : Addr) (cdv : Value) (A : Around) (outer : List Env) (s : Shared) (H : Hp) (vs : List V) (Q : VK) (E : XK), Room k (A.deeper (envOfC x (defScope st) s.heap.objs.size f cdv)) → sp vs H Q E →
      ∃ t, PSs (cxOf CX0 P w K mg base N x (defScope st) f cdv A outer s H E).nox (defBody st) t ∧ t { nx := fun _ H' => Q .non H', rt := Q } (start N vs) H) : Cl P w K mg base (k + 1) x sp := by
  obtain ⟨f, fd, D⟩ := D
  refine ⟨f, fd, ps, D.fn.ok S len (fun cdv A outer s H vs Q E hr h => ?_), D.at_, D.fn.kp, D.fn.bindsN hb⟩
  obtain ⟨t, h1, h2⟩ := hbody f cdv A outer s H vs Q E hr h
  exact ⟨t, h1.nox, h2⟩
end
section
variable {X : Cx} {k j : Nat} {x : Str} {sp : Sp} {p pos apos cpos : Pos} {e o : Expr} {es : List Expr} {t : TA} {td ty : TE}
theorem pe_cl (c : Cl X.prog X.w X.K X.mg X.base k x sp) (hr : Room j X.A) (hk : k ≤ j) (ha : PA X (e :: es) t) (hg : Gl X x := by rfl)
    (hdb : (x == ("__debug__" : Str)) = false := by decide) (he : starEach (e :: es) X.env = (false, eval e X.env) :: starEach es X.env := by rfl) (hpl : (backTo pos (starEach es X.env)).any (·.1) = false := by rfl) :
    PE X (.Call (.Name x p) (e :: es) [] pos) (tCall sp [] E0 t) := by
  obtain ⟨f, fd, ps, F, hm, kp, b⟩ := c.ex
  exact pe_call F (hr.mono hk) hg hm kp b .nil (fun _ _ _ _ _ _ _ h => h.elim) ha hdb he hpl
/-- a constant of the module -/
theorem pe_k {v : V} (h : ∃ u, X.mg x = some u ∧ RelV v u) (hg : Gl X x := by rfl) (hdb : (x == ("__debug__" : Str)) = false := by decide) : PE X (.Name x pos) (tC v) := by
  obtain ⟨u, h1, h2⟩ := h
  exact pe_glob hg h1 h2 hdb
/-- a built-in class as a value -/
theorem pe_ty {n : String} (hm : X.mg x = none) (hv : bootBuiltins x = some (.type n) := by decide +kernel) (hg : Gl X x := by rfl) (hn : x ≠ "__name__" := by decide) (hdb : (x == ("__debug__" : Str)) = false := by decide) : PE X (.Name x pos) (tC (.ty n)) :=
  pe_bltn hg hm hv rfl hn hdb
/-- d.get(k), d a dict of the written part, the key there -/
def tKGet (K : PySem.W.Frag) (d : Addr) (td ty : TE) : TE := fun σ H Q => td σ H fun x H1 => x = .ref d ∧ ty σ H1 fun y H2 => ∃ (z : Str) (u0 : Value) (v0 : V), y = .str z ∧ PySem.W.nsIn K d z = some (some u0) ∧ RelV v0 u0 ∧ Q v0 H2
theorem pe_kget {d : Addr} {es' : Array DictEntry} {n : Nat} (D : KDict X.K X.w d es' n) (ho : PE X o td) (he : PE X e ty) (m : M1 X o "get" apos e cpos) : PE X (.Call (.Attribute o "get" apos) [e] [] cpos) (tKGet X.K d td ty) := by
  refine ⟨fun pins s σ H Q I h => ?_⟩
  refine wpAny_Call_method m.base m.few m.line PySem.F.plainAttrs_dict PySem.F.slot_dict_get PySem.F.type_dict_get (thn (ho.run pins s σ H _ I h) fun u s1 ⟨x, H1, I1, rx, ex, q1⟩ => ?_)
  subst ex
  obtain rfl : u = Value.ref d := rx
  refine ⟨kd_type D I1, fun a ea => ⟨_, by cases ea; exact I1.kIn _ _ D.at_, rfl⟩, ?_⟩
  rw [m.trees]
  refine Calls.callWith_builtin rfl (Calls.evalArgs_plain (Calls.spliced_cons (thn (he.run pins s1 σ H1 _ I1 q1) fun iv s2 ⟨y, H2, I2, ry, z, u0, v0, ey, en, r0, q2⟩ => Calls.spliced_nil ?_)))
  subst ey
  obtain ⟨t, rfl⟩ := ry
  have hm := PySem.W.mapOf_K (prog := X.prog) (w := X.w) I2.kIn D.at_ D.lit
  refine call_meetsIn PySem.F.slot_dict_get ⟨_, I2.kIn _ _ D.at_, rfl⟩ PySem.F.entry_dict_get (PySem.F.args_dict_get_2 _ _) (meets_dict_get (PySem.strKind X.prog X.w) d (PySem.strKind_is X.prog X.w z t) D.low) ⟨_, hm, ?_⟩
  show wants (EP X pins σ Q) X.xe (.ok (.ret ((findBy Value.isStrOf es' z).getD .none))) _
  rw [PySem.W.find_K D.at_ en]
  exact ⟨v0, H2, I2.tok _, r0, q2⟩
end
section
variable {K : PySem.W.Frag} {H : Hp} {σ : L2.St} {ta tb te : TE} {d e : PyData} {ds : List PyData} {as : TA}
/-! ### more of what denotes what -/
theorem ed_int1 {i : Int} (h : EvD K ta σ H (.int i)) : EvD K (tCB (fun xs H Q => (∃ i, xs = [.int i] ∧ Q (.int i) H) ∨ ∃ k, xs = [.bl k] ∧ Q (.int (if k then 1 else 0)) H) (tCons ta tNil)) σ H (.int i) :=
  ed_CB (ea_cons h ea_nil) fun vs H2 _ hv Q q => by
    obtain ⟨v, rfl, h1⟩ := hv.one
    cases h1.intOf
    exact .inl ⟨i, rfl, q _ H2 (Same.refl _) (.int i)⟩
theorem ed_intB {b : Bool} (h : EvD K ta σ H (.bool b)) : EvD K (tCB (fun xs H Q => (∃ i, xs = [.int i] ∧ Q (.int i) H) ∨ ∃ k, xs = [.bl k] ∧ Q (.int (if k then 1 else 0)) H) (tCons ta tNil)) σ H (.int (if b then 1 else 0)) :=
  ed_CB (ea_cons h ea_nil) fun vs H2 _ hv Q q => by
    obtain ⟨v, rfl, h1⟩ := hv.one
    cases h1.blOf
    exact .inr ⟨b, rfl, q _ H2 (Same.refl _) (.int _)⟩
theorem ed_lenT (h : EvD K ta σ H (.tuple ds)) : EvD K (tCB (fun xs H Q => ∃ p ys, xs = [.ref p] ∧ (SqL K H p ys ∨ SqT K H p ys) ∧ Q (.int ys.length) H) (tCons ta tNil)) σ H (.int (ds.length : Int)) :=
  ed_CB (ea_cons h ea_nil) fun vs H2 _ hv Q q => by
    obtain ⟨v, rfl, h1⟩ := hv.one
    obtain ⟨a, xs, rfl, hs, hx⟩ := h1.tupOf
    exact ⟨a, xs, rfl, .inr hs, by rw [hx.len]; exact q _ H2 (Same.refl _) (.int _)⟩
theorem ed_lenL (h : EvD K ta σ H (.list ds)) : EvD K (tCB (fun xs H Q => ∃ p ys, xs = [.ref p] ∧ (SqL K H p ys ∨ SqT K H p ys) ∧ Q (.int ys.length) H) (tCons ta tNil)) σ H (.int (ds.length : Int)) :=
  ed_CB (ea_cons h ea_nil) fun vs H2 _ hv Q q => by
    obtain ⟨v, rfl, h1⟩ := hv.one
    obtain ⟨a, xs, rfl, hs, hx⟩ := h1.lstOf
    exact ⟨a, xs, rfl, .inl hs, by rw [hx.len]; exact q _ H2 (Same.refl _) (.int _)⟩
/-- the built-in type of data -/
def tyD : PyData → String
  | .none => "NoneType"
  | .bool _ => "bool"
  | .int _ => "int"
  | .str _ => "str"
  | .list _ => "list"
  | .tuple _ => "tuple"
  | .dict _ => "dict"
theorem Dp_ty {v : V} (h : Dp K H v d) (hn : d ≠ .none) (hl : ∀ ds, d ≠ .list ds) : TyX K H v (.type (tyD d)) := by
  cases h with
  | non => exact absurd rfl hn
  | bl b => exact .base (.bl b)
  | int i => exact .base (.int i)
  | str x => exact .base (.str x)
  | lst => exact absurd rfl (hl _)
  | tup hs ha =>
    rcases hs with (hs | ⟨o, hs⟩) | ⟨o, its, n, hk, hc, _⟩
    · exact .base (.tup hs)
    · exact .fTuple hs
    · exact .kTuple hk hc
theorem ed_isi {n : String} {b : Bool} (h : EvD K ta σ H d) (hn : d ≠ .none) (hl : ∀ ds, d ≠ .list ds) (hb : kitB (tyD d) n = some b) : EvD K (tCB (rIsi K) (tCons ta (tCons (tC (.ty n)) tNil))) σ H (.bool b) := fun H1 s1 Q q =>
  h H1 s1 _ fun v H2 s2 hv => ⟨v, .ty n, _, _, b, rfl, .ty n, Dp_ty hv hn hl, kit_ty hb, q _ H2 s2 (.bl b)⟩
theorem ed_scal {x y : V} {r : R2} {b : Bool} (ha : EvD K ta σ H d) (hb : EvD K tb σ H e) (hx : ∀ H v, Dp K H v d → v = x) (hy : ∀ H v, Dp K H v e → v = y) (hr : ∀ H2 (Q : VK), Q (.bl b) H2 → r x y H2 Q) : EvD K (tOp r ta tb) σ H (.bool b) :=
  ed_op2 ha hb fun v w H2 _ h1 h2 Q q => by
    cases hx _ _ h1
    cases hy _ _ h2
    exact hr H2 Q (q _ H2 (Same.refl _) (.bl b))
theorem ed_eqS {x y : Str} (ha : EvD K ta σ H (.str x)) (hb : EvD K tb σ H (.str y)) : EvD K (tOp rEq ta tb) σ H (.bool (decide (x = y))) :=
  ed_scal ha hb (fun _ _ h => h.strOf) (fun _ _ h => h.strOf) fun H2 Q q => ⟨rfl, by
    have e : decide (V.str x = V.str y) = decide (x = y) := by
      by_cases z : x = y
      · rw [decide_eq_true z, decide_eq_true (congrArg V.str z)]
      · rw [decide_eq_false z, decide_eq_false fun q => z (V.str.inj q)]
    rw [e]
    exact q⟩
theorem ed_neS {x y : Str} (ha : EvD K ta σ H (.str x)) (hb : EvD K tb σ H (.str y)) : EvD K (tOp rNe ta tb) σ H (.bool (!decide (x = y))) :=
  ed_scal ha hb (fun _ _ h => h.strOf) (fun _ _ h => h.strOf) fun H2 Q q => ⟨rfl, by
    have e : decide (V.str x = V.str y) = decide (x = y) := by
      by_cases z : x = y
      · rw [decide_eq_true z, decide_eq_true (congrArg V.str z)]
      · rw [decide_eq_false z, decide_eq_false fun q => z (V.str.inj q)]
    rw [e]
    exact q⟩
theorem dec_i {i j : Int} : decide (V.int i = V.int j) = decide (i = j) := by
  by_cases z : i = j
  · rw [decide_eq_true z, decide_eq_true (congrArg V.int z)]
  · rw [decide_eq_false z, decide_eq_false fun q => z (V.int.inj q)]
theorem ed_eqI {i j : Int} (ha : EvD K ta σ H (.int i)) (hb : EvD K tb σ H (.int j)) : EvD K (tOp rEq ta tb) σ H (.bool (decide (i = j))) :=
  ed_scal ha hb (fun _ _ h => h.intOf) (fun _ _ h => h.intOf) fun H2 Q q => ⟨rfl, by rw [dec_i]; exact q⟩
theorem ed_neI {i j : Int} (ha : EvD K ta σ H (.int i)) (hb : EvD K tb σ H (.int j)) : EvD K (tOp rNe ta tb) σ H (.bool (!decide (i = j))) :=
  ed_scal ha hb (fun _ _ h => h.intOf) (fun _ _ h => h.intOf) fun H2 Q q => ⟨rfl, by rw [dec_i]; exact q⟩
end
end K3
set_option maxRecDepth 100000
set_option maxHeartbeats 4000000
/-! ## comprehensions over data -/
namespace K3
open PySem PySem.Spec PyProof.Rows L2
section
variable {K : PySem.W.Frag} {H H1 : Hp} {σ : L2.St} {ta te : TE} {g : TG} {tt : TT} {vs : List Nat} {ds : List PyData} {F : PyData → Option PyData}
theorem tupDs_append : ∀ {xs ys : List PyData}, tupDs xs = true → tupDs ys = true → tupDs (xs ++ ys) = true
  | [], _, _, h => h
  | x :: xs, ys, h1, h2 => by
    simp only [tupDs, Bool.and_eq_true] at h1
    simp only [List.cons_append, tupDs, Bool.and_eq_true]
    exact ⟨h1.1, tupDs_append h1.2 h2⟩
theorem tupDs_one {x : PyData} (h : tupD x = true) : tupDs [x] = true := by simp [tupDs, h]
theorem tupDs_of : ∀ {xs : List PyData}, (∀ x ∈ xs, tupD x = true) → tupDs xs = true
  | [], _ => rfl
  | x :: xs, h => by
    simp only [tupDs, Bool.and_eq_true]
    exact ⟨h x List.mem_cons_self, tupDs_of fun y hy => h y (List.mem_cons_of_mem _ hy)⟩
theorem take_snoc {α : Type} {l : List α} {i : Nat} {x : α} (h : l[i]? = some x) : l.take (i + 1) = l.take i ++ [x] := by
  rw [List.take_add_one, h]
  rfl
/-- one item of a comprehension -/
def ItemOk (K : PySem.W.Frag) (g : TG) (tt : TT) (te : TE) (vs : List Nat) (σ : L2.St) (H : Hp) (F : PyData → Option PyData) (d : PyData) : Prop :=
  ∀ (x : V) (H' : Hp), Same H H' → Dp K H' x d → ∃ (σ2 : L2.St) (b : Bool), (∀ Q : L2.St → Hp → Prop, Q σ2 H' → g x (wipe σ vs) H' Q) ∧ wipe σ2 vs = wipe σ vs ∧ EvT tt σ2 H' b ∧
    (if b = true then ∃ r, F d = some r ∧ tupD r = true ∧ EvD K te σ2 H' r else F d = none)
/-- what holds between two turns -/
structure LcP (K : PySem.W.Frag) (H1 : Hp) (D : Addr) (rs : List PyData) (H' : Hp) : Prop where
  same : Same H1 H'
  tup : tupDs rs = true
  at_ : ∃ acc, H' D = some (.lst acc) ∧ DpAll K H' acc rs
theorem lc_turn {D : Addr} {i : Nat} {d : PyData} {x : V} {H' : Hp} (hs : Same H H1) (hD : H1 D = none) (hl : ds.length ≤ 100000) (hd : ds[i]? = some d) (hi : ItemOk K g tt te vs σ H F d) (P : LcP K H1 D ((ds.take i).filterMap F) H') (hx : Dp K H' x d) :
    g x (wipe σ vs) H' fun σ2 H2 => wipe σ2 vs = wipe σ vs ∧ tt σ2 H2 fun b H3 => if b = true then te σ2 H3 fun y H4 => ∃ acc, H4 D = some (.lst acc) ∧ acc.length < sizeLine ∧ LcP K H1 D ((ds.take (i + 1)).filterMap F) (upd H4 D (.lst (acc ++ [y]))) else LcP K H1 D ((ds.take (i + 1)).filterMap F) H3 := by
  obtain ⟨σ2, b, hg, hw, ht, hb⟩ := hi x H' (hs.trans P.same) hx
  refine hg _ ⟨hw, ht H' (Same.refl _) _ fun H3 s3 => ?_⟩
  obtain ⟨acc, e, ha⟩ := P.at_
  have il : i < ds.length := (List.getElem?_eq_some_iff.mp hd).1
  have ln : ((ds.take i).filterMap F).length ≤ i := Nat.le_trans (List.length_filterMap_le _ _) (by rw [List.length_take]; omega)
  cases b with
  | true =>
    obtain ⟨r, er, tr, he⟩ : ∃ r, F d = some r ∧ tupD r = true ∧ EvD K te σ2 H' r := by simpa using hb
    refine iteT (he H3 s3 _ fun y H4 s4 hy => ⟨acc, s4 _ _ (s3 _ _ e), ?_, ?_⟩)
    · rw [ha.len]
      exact sz100' (by omega)
    · have eD : H4 D = some (.lst acc) := s4 _ _ (s3 _ _ e)
      have ef : (ds.take (i + 1)).filterMap F = (ds.take i).filterMap F ++ [r] := by
        rw [take_snoc hd, List.filterMap_append]
        simp [er]
      rw [ef]
      refine ⟨fun c o z => ?_, tupDs_append P.tup (tupDs_one tr), acc ++ [y], upd_same, ?_⟩
      · rw [upd_ne (ne_of_none z hD)]
        exact s4 _ _ (s3 _ _ (P.same c o z))
      · exact (DpAll.ts (TStay.lst eD) _ _ P.tup (DpAll.same (s3.trans s4) _ _ ha)).append (.cons (Dp.ts (TStay.lst eD) _ _ tr hy) .nil)
  | false =>
    refine iteF ?_
    have en : F d = none := by simpa using hb
    have ef : (ds.take (i + 1)).filterMap F = (ds.take i).filterMap F := by
      rw [take_snoc hd, List.filterMap_append]
      simp [en]
    rw [ef]
    exact ⟨P.same.trans s3, P.tup, acc, s3 _ _ e, DpAll.same s3 _ _ ha⟩
theorem lc_begin {D : Addr} (hD : H1 D = none) : LcP K H1 D ((ds.take 0).filterMap F) (upd H1 D (.lst [])) := by
  have e : (ds.take 0).filterMap F = [] := by simp
  rw [e]
  exact ⟨same_new hD _, rfl, [], upd_same, .nil⟩
/-- over a list -/
theorem el_lc (ha : EvD K ta σ H (.list ds)) (hl : ds.length ≤ 100000) (hi : ∀ d ∈ ds, ItemOk K g tt te vs σ H F d) : EvL K (tLc (iList K ta) g tt te vs) σ H (ds.filterMap F) := fun H0 s0 Q q =>
  ha H0 s0 _ fun v H1 s1 hv => by
    obtain ⟨a, xs, rfl, hs, hx⟩ := hv.lstOf
    refine ⟨a, rfl, ⟨xs, hs⟩, fun D hD => lc_list (K := K) (a := a) (xs := xs) (fun i H' => LcP K H1 D ((ds.take i).filterMap F) H') (lc_begin hD) (fun i H' _ P => P.same.seq hs) (fun i x H' hxi P => ?_) fun H' P => ?_⟩
    · obtain ⟨d, hd, hp⟩ := hx.getV hxi
      exact lc_turn (s0.trans s1) hD hl hd (hi d (List.mem_of_getElem? hd)) P (Dp.same P.same _ _ hp)
    · rw [hx.len, List.take_length] at P
      obtain ⟨acc, e, ha⟩ := P.at_
      exact q D acc H' (s1.trans P.same) (s1.free hD) e ha
/-- over a tuple -/
theorem el_lcT (ha : EvD K ta σ H (.tuple ds)) (hl : ds.length ≤ 100000) (hi : ∀ d ∈ ds, ItemOk K g tt te vs σ H F d) : EvL K (tLc (iTup K ta) g tt te vs) σ H (ds.filterMap F) := fun H0 s0 Q q =>
  ha H0 s0 _ fun v H1 s1 hv => by
    obtain ⟨a, xs, rfl, hs, hx⟩ := hv.tupOf
    refine ⟨a, rfl, ⟨xs, hs⟩, fun D hD => lc_tup (K := K) (a := a) (xs := xs) (fun i H' => LcP K H1 D ((ds.take i).filterMap F) H') (lc_begin hD) (fun i H' _ P => TStay.same P.same _ _ hs) (fun i x H' hxi P => ?_) fun H' P => ?_⟩
    · obtain ⟨d, hd, hp⟩ := hx.getV hxi
      exact lc_turn (s0.trans s1) hD hl hd (hi d (List.mem_of_getElem? hd)) P (Dp.same P.same _ _ hp)
    · rw [hx.len, List.take_length] at P
      obtain ⟨acc, e, ha⟩ := P.at_
      exact q D acc H' (s1.trans P.same) (s1.free hD) e ha
/-- lo, lo + 1, .. -/
def upD (lo : Int) (n : Nat) : List PyData := (List.range n).map fun (i : Nat) => .int (lo + (i : Int))
theorem upD_get {lo : Int} {n i : Nat} (h : i < n) : (upD lo n)[i]? = some (.int (lo + (i : Int))) := by
  unfold upD
  rw [List.getElem?_map, List.getElem?_range h]
  rfl
theorem upD_len {lo : Int} {n : Nat} : (upD lo n).length = n := by
  unfold upD
  rw [List.length_map, List.length_range]
/-- over range(lo, hi) -/
theorem el_lcR {lo up : Int} {as : TA} (ha : EvDA K as σ H [.int lo, .int up]) (h1 : 0 ≤ lo) (h2 : lo ≤ up) (h3 : up ≤ 100000) (hi : ∀ d ∈ upD lo (up - lo).toNat, ItemOk K g tt te vs σ H F d) : EvL K (tLc (iRng2 as) g tt te vs) σ H ((upD lo (up - lo).toNat).filterMap F) := fun H0 s0 Q q =>
  ha H0 s0 _ fun v H1 s1 hv => by
    obtain ⟨x, y, rfl, hx, hy⟩ := hv.two
    cases hx.intOf
    cases hy.intOf
    refine ⟨lo, _, rfl, ⟨by omega, by omega, by omega, by omega⟩, fun D hD => lc_range (fun i H' => LcP K H1 D (((upD lo (up - lo).toNat).take i).filterMap F) H') (lc_begin hD) (fun i H' hlt P => ?_) fun H' P => ?_⟩
    · have hd := upD_get (lo := lo) hlt
      exact lc_turn (s0.trans s1) hD (by rw [upD_len]; omega) hd (hi _ (List.mem_of_getElem? hd)) P (.int _)
    · have e : (upD lo (up - lo).toNat).take (up - lo).toNat = upD lo (up - lo).toNat := List.take_of_length_le (by rw [upD_len]; exact Nat.le_refl _)
      rw [e] at P
      obtain ⟨acc, e, ha⟩ := P.at_
      exact q D acc H' (s1.trans P.same) (s1.free hD) e ha
/-- a pair taken apart -/
theorem g_pair {i j : Nat} {v : V} {d e : PyData} (h : Dp K H v (.tuple [d, e])) : ∃ x y, Dp K H x d ∧ Dp K H y e ∧ ∀ (σ : L2.St) (Q : L2.St → Hp → Prop), Q ((σ.set i (some x)).set j (some y)) H → gTup K 2 (gCons (gName i) (gCons (gName j) gNil)) v σ H Q := by
  obtain ⟨a, xs, rfl, hs, hx⟩ := h.tupOf
  obtain ⟨x, y, rfl, h1, h2⟩ := hx.two
  exact ⟨x, y, h1, h2, fun σ Q q => ⟨a, _, rfl, hs, rfl, x, [y], rfl, y, [], rfl, rfl, q⟩⟩
end
end K3
set_option maxRecDepth 100000
set_option maxHeartbeats 4000000
/-! ## facts of the data of wishes -/
namespace K3
open PySem PySem.Spec PyProof.Rows L2
theorem word_cases {w : Wi} (h : w.Ok) : w.word ∈ (["mark", "true", "false", "no", "next", "ever", "always", "and", "or", "till"] : List Str) := by
  cases w with
  | mark n => exact List.mem_cons_self
  | nul c =>
    have h1 : c ∈ nulW := h
    show c ∈ _
    simp only [nulW, List.mem_cons, List.not_mem_nil, or_false] at h1 ⊢
    rcases h1 with e | e <;> simp [e]
  | un c f =>
    have h1 : c ∈ unW := h.1
    show c ∈ _
    simp only [unW, List.mem_cons, List.not_mem_nil, or_false] at h1 ⊢
    rcases h1 with e | e | e | e <;> simp [e]
  | bi c f g =>
    have h1 : c ∈ biW := h.1
    show c ∈ _
    simp only [biW, List.mem_cons, List.not_mem_nil, or_false] at h1 ⊢
    rcases h1 with e | e | e <;> simp [e]
theorem all_lay : ∀ c ∈ (["mark", "true", "false", "no", "next", "ever", "always", "and", "or", "till"] : List Str), PyData.canLay0 (.str c) = true := by decide +kernel
theorem dat_tup : ∀ w : Wi, tupD w.dat = true
  | .mark n => by simp [Wi.dat, tupD, tupDs]
  | .nul c => by simp [Wi.dat, tupD, tupDs]
  | .un c f => by simp [Wi.dat, tupD, tupDs, dat_tup f]
  | .bi c f g => by simp [Wi.dat, tupD, tupDs, dat_tup f, dat_tup g]
theorem dat_depth : ∀ w : Wi, w.dat.depth ≤ w.size
  | .mark n => by simp [Wi.dat, PyData.depth, PyData.depthAll, Wi.size]
  | .nul c => by simp [Wi.dat, PyData.depth, PyData.depthAll, Wi.size]
  | .un c f => by
    have h := dat_depth f
    simp only [Wi.dat, PyData.depth, PyData.depthAll, Wi.size]
    omega
  | .bi c f g => by
    have h1 := dat_depth f
    have h2 := dat_depth g
    simp only [Wi.dat, PyData.depth, PyData.depthAll, Wi.size]
    omega
theorem dat_lay : ∀ w : Wi, w.Ok → w.dat.canLay0 = true
  | .mark n, h => by
    have z := all_lay _ (word_cases h)
    simp only [Wi.word] at z
    simp [Wi.dat, PyData.canLay0, PyData.canLayAll0] at z ⊢
    exact z
  | .nul c, h => by
    have z := all_lay _ (word_cases h)
    simp only [Wi.word] at z
    simp [Wi.dat, PyData.canLay0, PyData.canLayAll0] at z ⊢
    exact z
  | .un c f, h => by
    have z := all_lay _ (word_cases h)
    simp only [Wi.word] at z
    simp [Wi.dat, PyData.canLay0, PyData.canLayAll0, dat_lay f h.2] at z ⊢
    exact z
  | .bi c f g, h => by
    have z := all_lay _ (word_cases h)
    simp only [Wi.word] at z
    simp [Wi.dat, PyData.canLay0, PyData.canLayAll0, dat_lay f h.2.1, dat_lay g h.2.2] at z ⊢
    exact z
theorem shaped_of {d : PyData} (h1 : d.canLay0 = true) (h2 : d.depth ≤ 64) : SeqAt.shaped d = true := by
  show (d.canLay0 && decide (d.depth ≤ 64)) = true
  rw [h1, decide_eq_true h2]
  rfl
theorem dat_shaped {w : Wi} (h : w.Ok) (hz : w.size ≤ 64) : SeqAt.shaped w.dat = true := shaped_of (dat_lay w h) (Nat.le_trans (dat_depth w) hz)
theorem ints_lay : ∀ p : List Int, PyData.canLayAll0 (p.map .int) = true
  | [] => by simp [PyData.canLayAll0]
  | i :: p => by simp [PyData.canLayAll0, PyData.canLay0, ints_lay p]
theorem ints_depth : ∀ p : List Int, PyData.depthAll (p.map .int) = 0
  | [] => by simp [PyData.depthAll]
  | i :: p => by simp [PyData.depthAll, PyData.depth, ints_depth p]
theorem ints_tup : ∀ p : List Int, tupDs (p.map .int) = true
  | [] => rfl
  | i :: p => by simp [tupDs, tupD, ints_tup p]
theorem pD_lay (p : List Int) : (pD p).canLay0 = true := by simp [pD, PyData.canLay0, ints_lay p]
theorem pD_depth (p : List Int) : (pD p).depth = 1 := by simp [pD, PyData.depth, ints_depth p]
theorem pD_tup (p : List Int) : tupD (pD p) = true := by simp [pD, tupD, ints_tup p]
theorem pD_shaped (p : List Int) : SeqAt.shaped (pD p) = true := shaped_of (pD_lay p) (by rw [pD_depth]; decide)
theorem prD_tup (x : List Int × Wi) : tupD (prD x) = true := by simp [prD, tupD, tupDs, pD_tup, dat_tup]
theorem ints_eqv : ∀ p q : List Int, PyData.eqvAll (p.map .int) (q.map .int) = decide (p = q)
  | [], [] => by simp [PyData.eqvAll]
  | [], _ :: _ => by simp [PyData.eqvAll]
  | _ :: _, [] => by simp [PyData.eqvAll]
  | i :: p, j :: q => by
    have h := ints_eqv p q
    simp only [List.map_cons, PyData.eqvAll, PyData.eqv, h]
    by_cases e : i = j <;> by_cases e2 : p = q <;> simp [e, e2]
theorem pD_eqv (p q : List Int) : PyData.eqv (pD p) (pD q) = decide (p = q) := by
  show PyData.eqv (.tuple _) (.tuple _) = _
  simp only [PyData.eqv, ints_eqv]
theorem dat_eqv_nil (w : Wi) : PyData.eqv w.dat (.tuple []) = false := by cases w <;> simp [Wi.dat, PyData.eqv, PyData.eqvAll]
theorem nil_shaped : SeqAt.shaped (.tuple []) = true := by decide +kernel
theorem rest_len (w : Wi) (h : w.Ok) : (w.word, ((w.rest.length + 1 : Nat) : Int)) ∈ ([("true", 1), ("false", 1), ("mark", 2), ("no", 2), ("and", 3), ("or", 3), ("next", 2), ("till", 3), ("ever", 2), ("always", 2)] : List (Str × Int)) := by
  cases w with
  | mark n => simp [Wi.word, Wi.rest]
  | nul c =>
    have h1 : c ∈ nulW := h
    simp only [nulW, List.mem_cons, List.not_mem_nil, or_false] at h1
    rcases h1 with e | e <;> simp [Wi.word, Wi.rest, e]
  | un c f =>
    have h1 : c ∈ unW := h.1
    simp only [unW, List.mem_cons, List.not_mem_nil, or_false] at h1
    rcases h1 with e | e | e | e <;> simp [Wi.word, Wi.rest, e]
  | bi c f g =>
    have h1 : c ∈ biW := h.1
    simp only [biW, List.mem_cons, List.not_mem_nil, or_false] at h1
    rcases h1 with e | e | e <;> simp [Wi.word, Wi.rest, e]
theorem ne_mark : ∀ c ∈ (["true", "false", "no", "next", "ever", "always", "and", "or", "till"] : List Str), c ≠ "mark" := by decide +kernel
/-- only a mark's word is "mark" -/
theorem mark_only {w : Wi} (h : w.Ok) : (∃ n, w = .mark n ∧ 0 ≤ n ∧ n ≤ 3) ∨ w.word ≠ "mark" := by
  cases w with
  | mark n => exact .inl ⟨n, rfl, h⟩
  | nul c =>
    refine .inr (ne_mark c ?_)
    have h1 : c ∈ nulW := h
    simp only [nulW, List.mem_cons, List.not_mem_nil, or_false] at h1 ⊢
    rcases h1 with e | e <;> simp [e]
  | un c f =>
    refine .inr (ne_mark c ?_)
    have h1 : c ∈ unW := h.1
    simp only [unW, List.mem_cons, List.not_mem_nil, or_false] at h1 ⊢
    rcases h1 with e | e | e | e <;> simp [e]
  | bi c f g =>
    refine .inr (ne_mark c ?_)
    have h1 : c ∈ biW := h.1
    simp only [biW, List.mem_cons, List.not_mem_nil, or_false] at h1 ⊢
    rcases h1 with e | e | e <;> simp [e]
end K3
set_option maxRecDepth 100000
set_option maxHeartbeats 4000000
/-! ## is_whole, has_form, inner_of -/
namespace K3
open PySem PySem.Spec PyProof.Rows L2
section
variable {P : Program} {w : World} {K : PySem.W.Frag} {mg : Str → Option Value} {base : Heap} {H : Hp} {σ : L2.St} {ta tb tc : TE}
theorem ed_chainI {i j k : Int} (ha : EvD K ta σ H (.int i)) (hb : EvD K tb σ H (.int j)) (hc : EvD K tc σ H (.int k)) :
    EvD K (tChain (rI0 fun i j => .bl (decide (i ≤ j))) (rI0 fun i j => .bl (decide (i ≤ j))) ta tb tc) σ H (.bool (decide (i ≤ j) && decide (j ≤ k))) := fun H1 s1 Q q =>
  ha H1 s1 _ fun v H2 s2 h2 => hb H2 (s1.trans s2) _ fun u H3 s3 h3 => by
    cases h2.intOf
    cases h3.intOf
    refine ⟨i, j, rfl, rfl, _, rfl, ?_⟩
    cases e : decide (i ≤ j) with
    | true =>
      refine iteT (hc H3 ((s1.trans s2).trans s3) _ fun x H4 s4 h4 => ?_)
      cases h4.intOf
      refine ⟨j, k, rfl, rfl, q _ H4 ((s2.trans s3).trans s4) ?_⟩
      rw [e]
      exact .bl _
    | false =>
      refine iteF (q _ H3 (s2.trans s3) ?_)
      rw [e]
      exact .bl _
/-! ### is_whole -/
def rWhole (ds : List PyData) (r : PyData) : Prop := ∃ n lo hi : Int, ds = [.int n, .int lo, .int hi] ∧ r = .bool (decide (lo ≤ n) && decide (n ≤ hi))
theorem sc_is_whole : FnScope ["value", "least", "most"] ["value", "least", "most"] (defScope s_is_whole) := ⟨rfl, rfl, rfl, by decide +kernel, rfl, by decide +kernel, by decide +kernel⟩
theorem ok_is_whole (T : Tx K mg w) : Cl P w K mg base 1 "is_whole" (spD K 3 rWhole) := by
  refine cl_of T.f_is_whole sc_is_whole (fun _ _ _ _ _ _ us hl => match us, hl with | [_, _, _], _ => rfl) (spD_len rfl) (fun f cdv A outer s H vs Q E hr h => ?_)
  obtain ⟨ds, r, _, hd, ⟨n, lo, hi, rfl, rfl⟩, q⟩ := h
  obtain ⟨v1, v2, v3, rfl, h1, h2, h3⟩ := hd.three
  refine ⟨_, pss_one (ps_ret (pe_and (pe_callB call_isi rfl T.b_isinstance (by decide +kernel) (pa_cons (pv 0) (pa_cons (pe_ty (n := "int") T.b_int) pa_nil)))
    (pe_and (pe_not (pe_callB call_isi rfl T.b_isinstance (by decide +kernel) (pa_cons (pv 0) (pa_cons (pe_ty (n := "bool") T.b_bool) pa_nil)))) (pe_one (pe_chain op_le op_le (pv 1) (pv 0) (pv 2)))))), ?_⟩
  have e0 : EvD K (tVar 0) (start ["value", "least", "most"] [v1, v2, v3]) H (.int n) := ed_var rfl h1
  refine q_ret (d := .bool (decide (lo ≤ n) && decide (n ≤ hi))) ?_ q
  have e1 := ed_andV (K := K) (ed_isi (n := "int") e0 (by simp) (by simp) (show kitB "int" "int" = some true by decide +kernel)) fun _ =>
    ed_andV (ed_notV (ed_isi (n := "bool") e0 (by simp) (by simp) (show kitB "int" "bool" = some false by decide +kernel))) fun _ => ed_chainI (ed_var (K := K) (i := 1) rfl h2) e0 (ed_var (i := 2) rfl h3)
  exact e1
/-! ### has_form -/
def rForm (ds : List PyData) (r : PyData) : Prop := ∃ w : Wi, w.Ok ∧ w.size ≤ 60 ∧ ds = [w.dat] ∧ r = .bool true
theorem sc_has_form : FnScope ["value"] ["value"] (defScope s_has_form) := ⟨rfl, rfl, rfl, by decide +kernel, rfl, by decide +kernel, by decide +kernel⟩
theorem ed_kget {d : Addr} {es : Array DictEntry} {n : Nat} {x : Str} {i : Int} (ha : ∀ H1 Q, (Q (V.ref d) H1) → ta σ H1 Q) (hb : EvD K tb σ H (.str x)) (hv : ∃ u, PySem.W.nsIn K d x = some (some u) ∧ RelV (.int i) u) : EvD K (tKGet K d ta tb) σ H (.int i) := fun H1 s1 Q q =>
  ha H1 _ ⟨rfl, hb H1 s1 _ fun y H2 s2 hy => by
    obtain ⟨u, e, r⟩ := hv
    exact ⟨x, u, .int i, hy.strOf, e, r, q _ H2 s2 (.int i)⟩⟩
theorem ok_has_form (T : Tx K mg w) : Cl P w K mg base 2 "has_form" (spD K 1 rForm) := by
  have cW : Cl P w K mg base 1 "is_whole" (spD K 3 rWhole) := ok_is_whole T
  obtain ⟨d, es, n, mW, D, hW⟩ := T.wide
  refine cl_of T.f_has_form sc_has_form (fun _ _ _ _ _ _ us hl => match us, hl with | [_], _ => rfl) (spD_len rfl) (fun f cdv A outer s H vs Q E hr h => ?_)
  obtain ⟨ds, r, _, hd, ⟨wi, ok, sz, rfl, rfl⟩, q⟩ := h
  obtain ⟨v, rfl, hv⟩ := hd.one
  have hu := hr.units
  refine ⟨_, pss_cons (ps_if (PW.pt (pw_or (pt_not (pt_val (pe_callB call_isi rfl T.b_isinstance (by decide +kernel) (pa_cons (pv 0) (pa_cons (pe_ty (n := "tuple") T.b_tuple) pa_nil)))))
      (pw_or (pt_cmpR (op_eqD hu) (pv 0) (pe_tup pa_nil) (nomark _)) (pw_or1 (pt_not (pt_val (pe_callB call_isi rfl T.b_isinstance (by decide +kernel) (pa_cons (pe_ix ix_tup (pv 0) pe_int (fun _ _ => rfl)) (pa_cons (pe_ty (n := "str") T.b_str) pa_nil)))))))))
      (pss_one (ps_ret pe_bl)) pss_nil)
    (pss_cons (ps_if (pt_cmpR op_ne (pe_kget D (pe_glob (v := .ref d) rfl mW rfl) (pe_ix ix_tup (pv 0) pe_int (fun _ _ => rfl)) ⟨by rfl, by rfl, by rfl, by rfl⟩) (pe_callB call_len_seq rfl T.b_len PySem.boot_len (pa_cons (pv 0) pa_nil)) (nomark _))
      (pss_one (ps_ret pe_bl)) pss_nil)
    (pss_one (ps_ret (pe_or (pe_cmpR op_ne (pe_ix ix_tup (pv 0) pe_int (fun _ _ => rfl)) (pe_k T.c_MARK) (nomark _))
      (pe_one (pe_cl cW hr (by decide) (pa_cons (pe_ix ix_tup (pv 0) pe_int (fun _ _ => rfl)) (pa_cons pe_int (pa_cons (pe_k T.c_LAST_MARK) pa_nil))))))))), ?_⟩
  have e0 : EvD K (tVar 0) (start ["value"] [v]) H wi.dat := ed_var rfl hv
  have et : EvD K (tVar 0) (start ["value"] [v]) H (.tuple (.str wi.word :: wi.rest)) := by rw [← Wi.dat_eq]; exact e0
  have ew : EvD K (tOp (rIxT K) (tVar 0) (tC (.int 0))) (start ["value"] [v]) H (.str wi.word) := ed_ixT (i := 0) et ed_int rfl
  refine s_pass ?_ fun H2 s2 => ?_
  · have z := et_or (et_not (et_B (ed_isi (K := K) (n := "tuple") et (by simp) (by simp) (show kitB "tuple" "tuple" = some true by decide +kernel)))) fun _ =>
      et_or (et_test (ed_eqD e0 (ed_tup ea_nil (by decide)) (dat_shaped ok (by omega)) nil_shaped)) fun _ =>
        et_not (et_B (ed_isi (K := K) (n := "str") ew (by simp) (by simp) (show kitB "str" "str" = some true by decide +kernel)))
    rw [dat_eqv_nil] at z
    exact z
  · refine s_pass ?_ fun H3 s3 => ?_
    · have hm := hW _ (rest_len wi ok)
      have z := et_test (ed_neI (ed_kget (es := es) (n := n) (ta := tC (.ref d)) (fun _ _ q => q) (ew.mono s2) hm) (ed_lenT (et.mono s2)))
      have e : (!decide (((wi.rest.length + 1 : Nat) : Int) = (((PyData.str wi.word :: wi.rest).length : Nat) : Int))) = false := by simp
      rw [e] at z
      exact z
    · have s23 : Same H H3 := s2.trans s3
      refine q_ret (d := .bool true) ?_ fun v' H' s' h' => q v' H' (s23.trans s') h'
      rcases mark_only ok with ⟨m, rfl, m0, m3⟩ | hne
      · have z := ed_orV (K := K) (ed_neS (ew.mono s23) (ed_c (K := K) (H := H3) (v := .str "mark") (.str _))) fun _ =>
          ed_call (K := K) (E := E0) (R := rWhole) (ea_cons (ed_ixT (i := 1) (et.mono s23) ed_int rfl) (ea_cons (ed_int (i := 0)) (ea_cons (ed_c (v := .int 3) (.int 3)) ea_nil))) rfl ⟨m, 0, 3, rfl, rfl⟩
        have e : (!decide ((Wi.mark m).word = "mark") || (decide (0 ≤ m) && decide (m ≤ 3))) = true := by
          rw [decide_eq_true m0, decide_eq_true m3]
          simp
        rw [e] at z
        exact z
      · have z := ed_orV (K := K) (a := true) (b := true) (tb := tCall (spD K 3 rWhole) [] E0 (tCons (tOp (rIxT K) (tVar 0) (tC (.int 1))) (tCons (tC (.int 0)) (tCons (tC (.int 3)) tNil)))) (by
          have y := ed_neS (K := K) (ew.mono s23) (ed_c (K := K) (H := H3) (v := .str "mark") (.str _))
          rw [decide_eq_false hne] at y
          exact y) fun z => by cases z
        exact z
end
end K3
set_option maxRecDepth 100000
set_option maxHeartbeats 4000000
/-! ## inner_of -/
namespace K3
open PySem PySem.Spec PyProof.Rows L2
section
variable {P : Program} {w : World} {K : PySem.W.Frag} {mg : Str → Option Value} {base : Heap} {H : Hp} {σ : L2.St} {ta tb tc : TE} {t : TT} {ds : List PyData}
theorem el_if {c : Bool} (hc : EvT t σ H c) (h1 : c = true → EvL K ta σ H ds) (h2 : c = false → EvL K tb σ H ds) : EvL K (tIf t ta tb) σ H ds := fun H1 e Q q =>
  hc H1 e _ fun H2 s2 => by
    cases c with
    | true => exact iteT (h1 rfl H2 (e.trans s2) Q fun p xs H3 s3 n hp h3 => q p xs H3 (s2.trans s3) (s2.free n) hp h3)
    | false => exact iteF (h2 rfl H2 (e.trans s2) Q fun p xs H3 s3 n hp h3 => q p xs H3 (s2.trans s3) (s2.free n) hp h3)
theorem et_yes : EvT tYes σ H true := fun H1 _ Q q => q H1 (Same.refl _)
/-- the pairs of places and parts -/
def kidsD (w : Wi) : List PyData := w.kids.map fun p => .tuple [.int p.1, p.2.dat]
def rInner (ds rs : List PyData) : Prop := ∃ w : Wi, w.Ok ∧ ds = [w.dat] ∧ rs = kidsD w
def pickF (ds : List PyData) : PyData → Option PyData
  | .int n => (ds[n.toNat]?).map fun k => .tuple [.int n, k]
  | _ => none
theorem kids_eq {w : Wi} (h : w.word ≠ "mark") : (upD 1 ((((PyData.str w.word :: w.rest).length : Nat) : Int) - 1).toNat).filterMap (pickF (.str w.word :: w.rest)) = kidsD w := by
  cases w with
  | mark n => exact absurd rfl h
  | nul c => rfl
  | un c f => rfl
  | bi c f g => rfl
theorem sc_inner_of : FnScope ["wish", "place"] ["wish"] (defScope s_inner_of) := ⟨rfl, rfl, rfl, by decide +kernel, rfl, by decide +kernel, by decide +kernel⟩
theorem rest_tup (w : Wi) : tupDs (.str w.word :: w.rest) = true := by
  have h := dat_tup w
  rw [Wi.dat_eq] at h
  simpa [tupD] using h
theorem rest_small (w : Wi) : w.rest.length ≤ 2 := by cases w <;> simp [Wi.rest]
theorem tupDs_get : ∀ {ds : List PyData} {i : Nat} {d : PyData}, tupDs ds = true → ds[i]? = some d → tupD d = true
  | [], _, _, _, e => by simp at e
  | x :: xs, 0, d, h, e => by
    simp at e
    subst e
    simp only [tupDs, Bool.and_eq_true] at h
    exact h.1
  | x :: xs, i + 1, d, h, e => by
    simp only [tupDs, Bool.and_eq_true] at h
    exact tupDs_get (i := i) h.2 (by simpa using e)
theorem ok_inner_of (T : Tx K mg w) : Cl P w K mg base 1 "inner_of" (spL K 1 rInner) := by
  refine cl_of T.f_inner_of sc_inner_of (fun _ _ _ _ _ _ us hl => match us, hl with | [_], _ => rfl) (spL_len rfl) (fun f cdv A outer s H vs Q E hr h => ?_)
  obtain ⟨ds, r, _, hd, ⟨wi, ok, rfl, rfl⟩, q⟩ := h
  obtain ⟨v, rfl, hv⟩ := hd.one
  have nd := sc_inner_of.nd
  refine ⟨_, pss_one (ps_ret (pe_ifExp (pt_cmpR op_eq (pe_ix ix_tup (pv 0) pe_int (fun _ _ => rfl)) (pe_k T.c_MARK) (nomark _)) (pe_lst pa_nil)
    (pe_lc (own := [("place", 1)]) (g := gName 1) (tt := tYes) rfl nd (pi_range2 rfl T.b_range (pa_cons pe_int (pa_cons (pe_callB call_len_seq rfl T.b_len PySem.boot_len (pa_cons (pv 0) pa_nil)) pa_nil)))
      (blkOk_by (N := ["wish", "place"]) (sc := defScope s_inner_of) (by decide +kernel)) (fun _ _ _ _ _ => pg_name (i := 1) nd rfl (Or.inl rfl)) (fun _ _ _ _ _ => pts_nil)
      (fun _ _ _ _ _ => pe_tup (pa_cons (pv 1) (pa_cons (pe_ix (r := rIxT K) ix_tup (pv 0) (pv 1) (fun _ _ => rfl)) pa_nil)))))), ?_⟩
  have e0 : EvD K (tVar 0) (start ["wish", "place"] [v]) H wi.dat := ed_var rfl hv
  have et : EvD K (tVar 0) (start ["wish", "place"] [v]) H (.tuple (.str wi.word :: wi.rest)) := by rw [← Wi.dat_eq]; exact e0
  refine q_retL (ds := kidsD wi) ?_ fun p xs H' s' n hp hx => q p xs H' s' n hp hx
  refine el_if (et_test (ed_eqS (ed_ixT (i := 0) et ed_int rfl) (ed_c (.str "mark")))) (fun z => ?_) fun z => ?_
  · have z1 : wi.word = "mark" := of_decide_eq_true z
    rcases mark_only ok with ⟨m, rfl, _⟩ | hne
    · exact el_lst ea_nil (by show 0 ≤ 100000; decide)
    · exact absurd z1 hne
  · have z1 : wi.word ≠ "mark" := of_decide_eq_false z
    have hl := rest_small wi
    rw [← kids_eq z1]
    refine el_lcR (F := pickF (.str wi.word :: wi.rest)) (ea_cons ed_int (ea_cons (ed_lenT et) ea_nil)) (by decide) (by simp only [List.length_cons]; omega) (by simp only [List.length_cons]; omega) fun d hdm => ?_
    unfold upD at hdm
    obtain ⟨i, hi, rfl⟩ := List.mem_map.mp hdm
    have hi2 : i < wi.rest.length := by
      have := List.mem_range.mp hi
      simp only [List.length_cons] at this
      omega
    have e1 : (1 + (i : Int)).toNat = i + 1 := by omega
    have e2 : (.str wi.word :: wi.rest : List PyData)[i + 1]? = some wi.rest[i] := by simp [hi2]
    intro x H' s' hx
    cases hx.intOf
    refine ⟨_, true, fun Q q => q, rfl, et_yes, ?_⟩
    rw [if_pos rfl]
    have et' : EvD K (tVar 0) ((wipe (start ["wish", "place"] [v]) [1]).set 1 (some (.int (1 + (i : Int))))) H' (.tuple (.str wi.word :: wi.rest)) := by
      rw [← Wi.dat_eq]
      exact ed_var rfl (Dp.same s' _ _ hv)
    have ei : EvD K (tVar 1) ((wipe (start ["wish", "place"] [v]) [1]).set 1 (some (.int (1 + (i : Int))))) H' (.int (((i + 1 : Nat)) : Int)) := by
      have e : (((i + 1 : Nat)) : Int) = 1 + (i : Int) := by omega
      rw [e]
      exact ed_var rfl (.int _)
    refine ⟨.tuple [.int (1 + (i : Int)), wi.rest[i]], ?_, ?_, ?_⟩
    · show ((_ : List PyData)[(1 + (i : Int)).toNat]?).map _ = _
      rw [e1, e2]
      rfl
    · simp only [tupD, tupDs, Bool.true_and, Bool.and_true]
      exact tupDs_get (rest_tup wi) e2
    · exact ed_tup (ea_cons (ed_var rfl (.int _)) (ea_cons (ed_ixT et' ei e2) ea_nil)) (by simp)
end
end K3
set_option maxRecDepth 100000
set_option maxHeartbeats 4000000
/-! ## lists that grow and shrink; the walk by a stack -/
namespace K3
open PySem PySem.Spec PyProof.Rows L2
section
variable {K : PySem.W.Frag} {H H1 H2 : Hp} {σ : L2.St} {ta te : TE} {D : Ends} {us : L2.TS}
theorem TStay.at_same {l : Addr} {xs ys : List V} {v : V} {d : PyData} (e : H l = some (.lst xs)) (t : tupD d = true) (h : Dp K H v d) : Dp K (upd H l (.lst ys)) v d := Dp.ts (TStay.lst e) _ _ t h
theorem ed_tup' {as : TA} {ds : List PyData} (h : EvDA K as σ H ds) (hl : ds.length ≤ 100000) : EvD K (tTup as) σ H (.tuple ds) := ed_tup h hl
/-- a, b = xs.pop() -/
theorem s_pop2 {i a b : Nat} {p : Addr} {xs : List V} {x : V} {d e : PyData} (hv : σ[i]? = some (some (.ref p))) (hp : H p = some (.lst (xs ++ [x]))) (hx : Dp K H x (.tuple [d, e])) (ht : tupD (.tuple [d, e]) = true)
    (k : ∀ u v, Dp K (upd H p (.lst xs)) u d → Dp K (upd H p (.lst xs)) v e → us D ((σ.set a (some u)).set b (some v)) (upd H p (.lst xs))) :
    tSeq (tAsg (tBM0 K "list" rPop (tVar i)) (gTup K 2 (gCons (gName a) (gCons (gName b) gNil)))) us D σ H := by
  have hx2 := TStay.at_same (ys := xs) hp ht hx
  obtain ⟨u, v, h1, h2, g⟩ := g_pair (i := a) (j := b) hx2
  refine ⟨_, hv, .inl ⟨rfl, _, SqL.of hp⟩, p, xs ++ [x], x, rfl, rfl, hp, by simp, ?_⟩
  rw [List.dropLast_concat]
  exact g σ _ (k u v h1 h2)
/-- xs.append(e) -/
theorem s_app {i : Nat} {p : Addr} {xs : List V} {d : PyData} (hv : σ[i]? = some (some (.ref p))) (hp : H p = some (.lst xs)) (hl : xs.length < 100000) (he : EvD K te σ H d) (ht : tupD d = true)
    (k : ∀ y H2, Same H H2 → Dp K (upd H2 p (.lst (xs ++ [y]))) y d → us D σ (upd H2 p (.lst (xs ++ [y])))) : tSeq (tDrop (tBM K "list" rAppend (tVar i) (tCons te tNil))) us D σ H := by
  refine ⟨_, hv, .inl ⟨rfl, _, SqL.of hp⟩, ?_⟩
  refine he H (Same.refl _) _ fun y H2 s2 hy => ?_
  exact ⟨p, xs, y, rfl, rfl, s2 _ _ hp, sz100' hl, k y H2 s2 (TStay.at_same (s2 _ _ hp) ht hy)⟩
/-- the same at a block's end -/
theorem q_app {i : Nat} {p : Addr} {xs : List V} {d : PyData} (hv : σ[i]? = some (some (.ref p))) (hp : H p = some (.lst xs)) (hl : xs.length < 100000) (he : EvD K te σ H d) (ht : tupD d = true)
    (k : ∀ y H2, Same H H2 → Dp K (upd H2 p (.lst (xs ++ [y]))) y d → D.nx σ (upd H2 p (.lst (xs ++ [y])))) : tDrop (tBM K "list" rAppend (tVar i) (tCons te tNil)) D σ H := by
  refine ⟨_, hv, .inl ⟨rfl, _, SqL.of hp⟩, ?_⟩
  refine he H (Same.refl _) _ fun y H2 s2 hy => ?_
  exact ⟨p, xs, y, rfl, rfl, s2 _ _ hp, sz100' hl, k y H2 s2 (TStay.at_same (s2 _ _ hp) ht hy)⟩
/-- xs.extend(new list) -/
theorem q_ext {i : Nat} {p : Addr} {xs : List V} {ds : List PyData} (hv : σ[i]? = some (some (.ref p))) (hp : H p = some (.lst xs)) (hl : xs.length + ds.length ≤ 100000) (he : EvL K te σ H ds) (ht : tupDs ds = true)
    (k : ∀ ys H2, Same H H2 → DpAll K (upd H2 p (.lst (xs ++ ys))) ys ds → D.nx σ (upd H2 p (.lst (xs ++ ys)))) : tDrop (tBM K "list" rExtend (tVar i) (tCons te tNil)) D σ H := by
  refine ⟨_, hv, .inl ⟨rfl, _, SqL.of hp⟩, ?_⟩
  refine he H (Same.refl _) _ fun q ys H2 s2 nq hq hy => ?_
  exact ⟨p, q, xs, ys, rfl, rfl, s2 _ _ hp, hq, by rw [hy.len]; exact sz100 hl, k ys H2 s2 (DpAll.ts (TStay.lst (s2 _ _ hp)) _ _ ht hy)⟩
/-- xs[::-1] -/
theorem el_rev {ds : List PyData} (h : EvD K ta σ H (.list ds)) : EvL K (tRevL K ta) σ H ds.reverse := fun H1 s1 Q q =>
  h H1 s1 _ fun v H2 s2 hv => by
    obtain ⟨a, xs, rfl, hs, hx⟩ := hv.lstOf
    exact ⟨a, xs, rfl, hs, fun p hp => q p _ _ (s2.trans (same_new hp _)) (s2.free hp) upd_same (DpAll.same (same_new hp _) _ _ hx.reverse)⟩
/-! ### lists of pairs -/
def stD (l : List (List Int × Wi)) : List PyData := l.map prD
theorem stD_tup (l : List (List Int × Wi)) : tupDs (stD l) = true := tupDs_of fun x hx => by
  obtain ⟨y, _, rfl⟩ := List.mem_map.mp hx
  exact prD_tup y
theorem stD_append (a b : List (List Int × Wi)) : stD (a ++ b) = stD a ++ stD b := List.map_append
theorem stD_rev (a : List (List Int × Wi)) : stD a.reverse = (stD a).reverse := List.map_reverse
/-- the element of the comprehension -/
def growF (p : List Int) : PyData → Option PyData
  | .tuple [.int n, k] => some (.tuple [.tuple (p.map .int ++ [.int n]), k])
  | _ => none
theorem kids_grow (p : List Int) (w : Wi) : (kidsD w).filterMap (growF p) = stD (kidsAt (p, w)) := by
  cases w with
  | mark n => rfl
  | nul c => rfl
  | un c f => simp [kidsD, Wi.kids, growF, stD, kidsAt, prD, pD]
  | bi c f g => simp [kidsD, Wi.kids, growF, stD, kidsAt, prD, pD]
theorem kids_growR (p : List Int) (w : Wi) : (kidsD w).reverse.filterMap (growF p) = stD (kidsAt (p, w)).reverse := by
  rw [stD_rev, ← kids_grow, List.filterMap_reverse]
theorem prD_lay {x : List Int × Wi} (h : x.2.Ok) : (prD x).canLay0 = true := by simp [prD, PyData.canLay0, PyData.canLayAll0, pD_lay, dat_lay x.2 h]
theorem prD_depth (x : List Int × Wi) : (prD x).depth ≤ x.2.size + 1 := by
  have h := dat_depth x.2
  have h0 := x.2.size_pos
  simp only [prD, PyData.depth, PyData.depthAll, pD_depth]
  omega
theorem lay_all : ∀ {ds : List PyData}, (∀ d ∈ ds, d.canLay0 = true) → PyData.canLayAll0 ds = true
  | [], _ => by simp [PyData.canLayAll0]
  | d :: ds, h => by
    simp only [PyData.canLayAll0, Bool.and_eq_true]
    exact ⟨h d List.mem_cons_self, lay_all fun x hx => h x (List.mem_cons_of_mem _ hx)⟩
theorem depth_all {n : Nat} : ∀ {ds : List PyData}, (∀ d ∈ ds, d.depth ≤ n) → PyData.depthAll ds ≤ n
  | [], _ => by simp [PyData.depthAll]
  | d :: ds, h => by
    have h1 := h d List.mem_cons_self
    have h2 : PyData.depthAll ds ≤ n := depth_all fun x hx => h x (List.mem_cons_of_mem _ hx)
    simp only [PyData.depthAll]
    omega
theorem lst_shaped {ds : List PyData} {n : Nat} (h1 : ∀ d ∈ ds, d.canLay0 = true) (h2 : ∀ d ∈ ds, d.depth ≤ n) (hn : n ≤ 63) : SeqAt.shaped (.list ds) = true := by
  refine shaped_of ?_ ?_
  · simp only [PyData.canLay0]
    exact lay_all h1
  · have := depth_all h2
    simp only [PyData.depth]
    omega
theorem st_shaped {l : List (List Int × Wi)} (ok : ∀ x ∈ l, x.2.Ok) (hz : sizes l ≤ 60) : SeqAt.shaped (.list (stD l)) = true := by
  refine lst_shaped (n := 61) (fun d hd => ?_) (fun d hd => ?_) (by decide)
  · obtain ⟨x, hx, rfl⟩ := List.mem_map.mp hd
    exact prD_lay (ok x hx)
  · obtain ⟨x, hx, rfl⟩ := List.mem_map.mp hd
    have h1 := prD_depth x
    have h2 := mem_sizes hx
    omega
theorem lnil_shaped : SeqAt.shaped (.list []) = true := by decide +kernel
theorem eqv_lnil (ds : List PyData) : PyData.eqv (.list ds) (.list []) = ds.isEmpty := by cases ds <;> simp [PyData.eqv, PyData.eqvAll]
end
end K3
set_option maxRecDepth 100000
set_option maxHeartbeats 4000000
/-! ## parts_of -/
namespace K3
open PySem PySem.Spec PyProof.Rows L2
section
variable {P : Program} {w : World} {K : PySem.W.Frag} {mg : Str → Option Value} {base : Heap} {H : Hp} {σ : L2.St}
def rParts (ds rs : List PyData) : Prop := ∃ w : Wi, w.Ok ∧ w.size ≤ 60 ∧ ds = [w.dat] ∧ rs = stD w.pieces
theorem sc_parts_of : FnScope ["wish", "found", "waiting", "path", "here", "place", "part"] ["wish"] (defScope s_parts_of) := ⟨rfl, rfl, rfl, by decide +kernel, rfl, by decide +kernel, by decide +kernel⟩
theorem pa_starK {X : Cx} {e : Expr} {es : List Expr} {te : TE} {t : TA} {p : Pos} (hK : X.K = K) (he : PE X e te) (hr : PA X es t) (hs : starEach (.Starred e p :: es) X.env = (true, eval e X.env) :: starEach es X.env := by rfl) : PA X (.Starred e p :: es) (StX.tStar K te t) := by
  subst hK
  exact StX.pa_star he hr hs
/-- the list that is laid upon the stack -/
theorem el_grow {i3 i4 i5 i6 : Nat} {E : XK} {p : List Int} {x : Wi} {u v : V} (ok : x.Ok) (h3 : σ[i3]? = some (some u)) (h4 : σ[i4]? = some (some v)) (hu : Dp K H u (pD p)) (hv : Dp K H v x.dat) (hp : p.length ≤ 1000)
    (d35 : i3 ≠ i5) (d36 : i3 ≠ i6) (d56 : i5 ≠ i6) (l5 : i5 < σ.length) (l6 : i6 < σ.length) :
    EvL K (tLc (iList K (tRevL K (tCall (spL K 1 rInner) [] E (tCons (tVar i4) tNil)))) (gTup K 2 (gCons (gName i5) (gCons (gName i6) gNil))) tYes (tTup (tCons (tTup (StX.tStar K (tVar i3) (tCons (tVar i5) tNil))) (tCons (tVar i6) tNil))) [i5, i6]) σ H (stD (kidsAt (p, x)).reverse) := by
  rw [← kids_growR p x]
  have e1 : EvL K (tCall (spL K 1 rInner) [] E (tCons (tVar i4) tNil)) σ H (kidsD x) := el_call (ea_cons (ed_var h4 hv) ea_nil) rfl ⟨x, ok, rfl, rfl⟩
  refine el_lc (el_rev e1.toD).toD ?_ fun d hd => ?_
  · rw [List.length_reverse]
    cases x <;> simp [kidsD, Wi.kids]
  · have hk : ∃ n y, d = .tuple [.int n, Wi.dat y] := by
      rw [List.mem_reverse] at hd
      obtain ⟨z, _, rfl⟩ := List.mem_map.mp hd
      exact ⟨_, _, rfl⟩
    obtain ⟨n, y, rfl⟩ := hk
    intro z H' s' hz
    obtain ⟨a, b, ha, hb, g⟩ := g_pair (i := i5) (j := i6) hz
    have w3 : (wipe σ [i5, i6])[i3]? = some (some u) := by
      simp only [wipe]
      rw [List.getElem?_set_ne d35.symm, List.getElem?_set_ne d36.symm]
      exact h3
    have ww : wipe (((wipe σ [i5, i6]).set i5 (some a)).set i6 (some b)) [i5, i6] = wipe σ [i5, i6] := by
      simp only [wipe]
      apply List.ext_getElem?
      intro j
      simp only [List.getElem?_set, List.length_set]
      by_cases q6 : i6 = j
      · subst q6
        simp [l6]
      · by_cases q5 : i5 = j
        · subst q5
          simp [l5, q6]
        · simp [q5, q6]
    refine ⟨_, true, fun Q q => g _ Q q, ww, et_yes, ?_⟩
    rw [if_pos rfl]
    refine ⟨.tuple [.tuple (p.map .int ++ [.int n]), y.dat], rfl, ?_, ?_⟩
    · simp [tupD, tupDs, dat_tup]
      exact tupDs_append (ints_tup p) (by simp [tupDs, tupD])
    · have v3 : ((((wipe σ [i5, i6]).set i5 (some a)).set i6 (some b)))[i3]? = some (some u) := by
        rw [List.getElem?_set_ne d36.symm, List.getElem?_set_ne d35.symm]
        exact w3
      have v5 : ((((wipe σ [i5, i6]).set i5 (some a)).set i6 (some b)))[i5]? = some (some a) := by
        rw [List.getElem?_set_ne d56.symm, List.getElem?_set_self (by simp [wipe, l5])]
      have v6 : ((((wipe σ [i5, i6]).set i5 (some a)).set i6 (some b)))[i6]? = some (some b) := List.getElem?_set_self (by simp [wipe, l6])
      have hu' : Dp K H' u (.tuple (p.map .int)) := Dp.same s' _ _ hu
      exact ed_tup (ea_cons (ed_tup (ea_star (ed_var v3 hu') (ea_cons (ed_var v5 ha) ea_nil)) (by simp only [List.length_append, List.length_map, List.length_cons, List.length_nil]; omega)) (ea_cons (ed_var v6 hb) ea_nil)) (by show 2 ≤ 100000; decide)
theorem _root_.L2.DpAll.snoc {ds : List PyData} {d : PyData} {vs : List V} (h : DpAll K H vs (ds ++ [d])) : ∃ ws v, vs = ws ++ [v] ∧ DpAll K H ws ds ∧ Dp K H v d := by
  induction ds generalizing vs with
  | nil =>
    obtain ⟨v, rfl, a⟩ := DpAll.one h
    exact ⟨[], v, rfl, .nil, a⟩
  | cons e ds ih =>
    cases h with
    | cons a b =>
      obtain ⟨ws, v, rfl, c, e⟩ := ih b
      exact ⟨_ :: ws, v, rfl, .cons a c, e⟩
theorem s_par2L {D : Ends} {us : L2.TS} {ta tb : TE} {ds es : List PyData} {i j : Nat} (h1 : EvL K ta σ H ds) (h2 : EvL K tb σ H es)
    (k : ∀ p q xs ys H2, Same H H2 → H p = none → H q = none → p ≠ q → H2 p = some (.lst xs) → H2 q = some (.lst ys) → DpAll K H2 xs ds → DpAll K H2 ys es → us D ((σ.set i (some (.ref p))).set j (some (.ref q))) H2) :
    tSeq (tPar i j (tCons ta (tCons tb tNil))) us D σ H :=
  h1 H (Same.refl _) _ fun p xs H1 s1 np hp hx => h2 H1 s1 _ fun q ys H2 s2 nq hq hy => ⟨_, _, rfl, k p q xs ys H2 (s1.trans s2) np (s1.free nq) (ne_of_none hp nq) (s2 _ _ hp) hq (DpAll.same s2 _ _ hx) hy⟩
/-- what holds between two turns of the walk -/
structure PaW (K : PySem.W.Frag) (H0 : Hp) (wi : Wi) (m : Nat) (σ : L2.St) (H : Hp) (q p : Addr) (st done : List (List Int × Wi)) (xs ys : List V) : Prop where
  sh : ∃ a0 a3 a4 a5 a6, σ = [a0, some (.ref q), some (.ref p), a3, a4, a5, a6]
  same : Same H0 H
  nq : H0 q = none
  np : H0 p = none
  ne : q ≠ p
  hq : H q = some (.lst ys)
  hp : H p = some (.lst xs)
  dq : DpAll K H ys (stD done)
  dp : DpAll K H xs (stD st.reverse)
  ok : ∀ x ∈ st, x.2.Ok
  m_eq : m = sizes st
  len : done.length + sizes st = wi.size
  all : done ++ st.flatMap grow = wi.pieces
theorem plen {w : Wi} {done st : List (List Int × Wi)} {x : List Int × Wi} (h : done ++ (x :: st).flatMap grow = w.pieces) : x.1.length ≤ w.size := by
  have h1 : x ∈ w.pieces := by
    rw [← h, List.flatMap_cons, grow_eq]
    exact List.mem_append_right _ (List.mem_append_left _ List.mem_cons_self)
  have h2 := (Wi.mem_pieces w x.1 x.2).mp h1
  have h3 := Wi.size_at h2
  omega
theorem ok_parts_of (T : Tx K mg w) : Cl P w K mg base 2 "parts_of" (spL K 1 rParts) := by
  have cI : Cl P w K mg base 1 "inner_of" (spL K 1 rInner) := ok_inner_of T
  refine cl_of T.f_parts_of sc_parts_of (fun _ _ _ _ _ _ us hl => match us, hl with | [_], _ => rfl) (spL_len rfl) (fun f cdv A outer s H vs Q E hr h => ?_)
  obtain ⟨ds, r, _, hd, ⟨wi, ok, sz, rfl, rfl⟩, q⟩ := h
  obtain ⟨v, rfl, hv⟩ := hd.one
  have nd := sc_parts_of.nd
  have hu := hr.units
  refine ⟨_, pss_cons (ps_par rfl nd (i := 1) (j := 2) rfl rfl (by decide) rfl rfl (pa_cons (pe_lst pa_nil) (pa_cons (pe_lst (pa_cons (pe_tup (pa_cons (pe_tup pa_nil) (pa_cons (pv 0) pa_nil))) pa_nil)) pa_nil)) rfl)
    (pss_cons (ps_while PassesOwn.never (pt_cmpR (op_neD hu) (pv 2) (pe_lst pa_nil) (nomark _))
      (pss_cons (ps_asg (pe_bm0 PySem.F.plainAttrs_list PySem.F.slot_list_pop PySem.F.type_list_pop mt_pop (pv 2)) (pg_tup rfl (pgs_cons (pg_name (i := 3) nd rfl (Or.inr rfl)) (pgs_cons (pg_name (i := 4) nd rfl (Or.inl rfl)) pgs_nil))))
      (pss_cons (ps_expr (pe_bm PySem.F.plainAttrs_list PySem.F.slot_list_append PySem.F.type_list_append mt_append (pv 1) (pa_cons (pe_tup (pa_cons (pv 3) (pa_cons (pv 4) pa_nil))) pa_nil)))
      (pss_one (ps_expr (pe_bm PySem.F.plainAttrs_list PySem.F.slot_list_extend PySem.F.type_list_extend mt_extend (pv 2) (pa_cons
        (pe_lc (own := [("place", 5), ("part", 6)]) (g := gTup K 2 (gCons (gName 5) (gCons (gName 6) gNil))) (tt := tYes) rfl nd (pi_list (pe_revL (pe_cl cI hr (by decide) (pa_cons (pv 4) pa_nil))))
          (blkOk_by (N := ["wish", "found", "waiting", "path", "here", "place", "part"]) (sc := defScope s_parts_of) (by decide +kernel))
          (fun _ _ _ _ _ => pg_tup rfl (pgs_cons (pg_name (i := 5) nd rfl (Or.inl rfl)) (pgs_cons (pg_name (i := 6) nd rfl (Or.inl rfl)) pgs_nil))) (fun _ _ _ _ _ => pts_nil)
          (fun _ _ _ _ _ => pe_tup (pa_cons (pe_tup (pa_starK (K := K) rfl (pv 3) (pa_cons (pv 5) pa_nil))) (pa_cons (pv 6) pa_nil)))) pa_nil)))))))
    (pss_one (ps_ret (pv 1)))), ?_⟩
  have et : EvD K (tTup (tCons (tTup tNil) (tCons (tVar 0) tNil))) (start ["wish", "found", "waiting", "path", "here", "place", "part"] [v]) H (prD ([], wi)) :=
    ed_tup (ea_cons (ed_tup ea_nil (by show 0 ≤ 100000; decide)) (ea_cons (ed_var rfl hv) ea_nil)) (by show 2 ≤ 100000; decide)
  refine s_par2L (el_lst ea_nil (by show 0 ≤ 100000; decide)) (el_lst (ea_cons et ea_nil) (by show 1 ≤ 100000; decide)) fun q0 p0 ys0 xs0 H2 s2 nq0 np0 ne0 hq0 hp0 dy0 dx0 => ?_
  refine ⟨fun m σ H' => ∃ st done xs ys, PaW K H wi m σ H' q0 p0 st done xs ys, ⟨_, [([], wi)], [], xs0, ys0, ⟨⟨_, _, _, _, _, rfl⟩, s2, nq0, np0, ne0, hq0, hp0, dy0, dx0, ?_, rfl, ?_, ?_⟩⟩, ?_⟩
  · intro x hx
    rw [List.mem_singleton] at hx
    subst hx
    exact ok
  · simp [sizes]
  · simp [grow_root]
  rintro m σ H' ⟨st, done, xs, ys, W⟩
  obtain ⟨a0, a3, a4, a5, a6, rfl⟩ := W.sh
  have hst : sizes st.reverse ≤ 60 := by
    have e : sizes st.reverse = sizes st := by simp [sizes, List.sum_reverse]
    have := W.len
    omega
  refine et_test (ed_neD (ed_var rfl (.lst (SqL.of W.hp) W.dp)) (ed_lst ea_nil (by show 0 ≤ 100000; decide)) (st_shaped (fun x hx => W.ok x (List.mem_reverse.mp hx)) hst) lnil_shaped) H' (Same.refl _) _ fun H3 s3 => ?_
  rw [eqv_lnil]
  cases st with
  | nil =>
    refine iteF ?_
    have e := W.all
    rw [List.flatMap_nil, List.append_nil] at e
    refine ⟨_, rfl, q q0 ys H3 (W.same.trans s3) W.nq (s3 _ _ W.hq) ?_⟩
    rw [← e]
    exact DpAll.same s3 _ _ W.dq
  | cons x st =>
    have e : (!(stD (x :: st).reverse).isEmpty) = true := by simp [stD]
    rw [e]
    refine iteT ⟨_, fun _ _ h => h, ?_⟩
    have e1 : stD (x :: st).reverse = stD st.reverse ++ [prD x] := by simp [stD]
    have dp := W.dp
    rw [e1] at dp
    obtain ⟨xs, xv, rfl, dxs, dx⟩ := dp.snoc
    have okx := W.ok x List.mem_cons_self
    have okl : ∀ y ∈ st, y.2.Ok := fun y hy => W.ok y (List.mem_cons_of_mem _ hy)
    have hz : done.length + (x.2.size + sizes st) = wi.size := W.len
    have ek := sizes_kids x
    have hpl := plen W.all
    have lys : ys.length = done.length := by rw [W.dq.len, stD, List.length_map]
    have lxs : xs.length ≤ sizes st := by
      rw [dxs.len, stD, List.length_map, List.length_reverse]
      exact len_sizes st
    have hp3 := s3 _ _ W.hp
    refine s_pop2 rfl hp3 (Dp.same s3 _ _ dx) (prD_tup x) fun u v' hu' hv' => ?_
    have tp := TStay.lst (K := K) (o := .lst xs) hp3
    have hq4 : upd H3 p0 (.lst xs) q0 = some (.lst ys) := by
      rw [upd_ne W.ne]
      exact s3 _ _ W.hq
    refine s_app rfl hq4 (by omega) (ed_tup (ds := [pD x.1, x.2.dat]) (ea_cons (ed_var rfl hu') (ea_cons (ed_var rfl hv') ea_nil)) (by show 2 ≤ 100000; decide)) (prD_tup x) fun y H5 s5 hy => ?_
    have tq := TStay.lst (K := K) (o := .lst (ys ++ [y])) (s5 _ _ hq4)
    have hp6 : upd H5 q0 (.lst (ys ++ [y])) p0 = some (.lst xs) := by
      rw [upd_ne W.ne.symm]
      exact s5 _ _ upd_same
    have ext : ∀ {d : PyData} {z : V}, tupD d = true → Dp K (upd H3 p0 (.lst xs)) z d → Dp K (upd H5 q0 (.lst (ys ++ [y]))) z d := fun t h => Dp.ts tq _ _ t (Dp.same s5 _ _ h)
    refine q_ext rfl hp6 ?_ (el_grow (p := x.1) (x := x.2) okx rfl rfl (ext (pD_tup _) hu') (ext (dat_tup _) hv') (by omega) (by decide) (by decide) (by decide) (by simp) (by simp)) (stD_tup _) fun ks H7 s7 hks => ?_
    · have := kids_len (x.1, x.2)
      simp only [stD, List.length_map, List.length_reverse]
      omega
    have t7 := TStay.lst (K := K) (o := .lst (xs ++ ks)) (s7 _ _ hp6)
    have hq7 : upd H7 p0 (.lst (xs ++ ks)) q0 = some (.lst (ys ++ [y])) := by
      rw [upd_ne W.ne]
      exact s7 _ _ upd_same
    have ex7 : ∀ {ds : List PyData} {vs : List V}, tupDs ds = true → DpAll K (upd H5 q0 (.lst (ys ++ [y]))) vs ds → DpAll K (upd H7 p0 (.lst (xs ++ ks))) vs ds := fun t h => DpAll.ts t7 _ _ t (DpAll.same s7 _ _ h)
    have ex3 : ∀ {ds : List PyData} {vs : List V}, tupDs ds = true → DpAll K H' vs ds → DpAll K (upd H7 p0 (.lst (xs ++ ks))) vs ds := fun t h => ex7 t (DpAll.ts tq _ _ t (DpAll.same s5 _ _ (DpAll.ts tp _ _ t (DpAll.same s3 _ _ h))))
    refine ⟨_, ?_, kidsAt x ++ st, done ++ [x], xs ++ ks, ys ++ [y], ⟨⟨_, _, _, _, _, rfl⟩, ?_, W.nq, W.np, W.ne, hq7, upd_same, ?_, ?_, ?_, rfl, ?_, ?_⟩⟩
    · rw [W.m_eq, sizes_append]
      show _ < x.2.size + sizes st
      omega
    · intro c o hc
      have c1 := ne_of_none hc W.np
      have c2 := ne_of_none hc W.nq
      rw [upd_ne c1]
      refine s7 _ _ ?_
      rw [upd_ne c2]
      refine s5 _ _ ?_
      rw [upd_ne c1]
      exact s3 _ _ (W.same _ _ hc)
    · rw [stD_append]
      exact (ex3 (stD_tup _) W.dq).append (.cons (Dp.ts t7 _ _ (prD_tup x) (Dp.same s7 _ _ hy)) .nil)
    · rw [List.reverse_append, stD_append]
      exact (ex3 (stD_tup _) dxs).append hks
    · intro z hz
      rcases List.mem_append.mp hz with h | h
      · exact kids_ok okx z h
      · exact okl z h
    · rw [sizes_append, List.length_append]
      simp only [List.length_cons, List.length_nil]
      omega
    · rw [List.flatMap_append, ← W.all, List.flatMap_cons, grow_eq x]
      simp
end
end K3
set_option maxRecDepth 100000
set_option maxHeartbeats 4000000
/-! ## wrong_in -/
namespace K3
open PySem PySem.Spec PyProof.Rows L2
section
variable {P : Program} {w : World} {K : PySem.W.Frag} {mg : Str → Option Value} {base : Heap} {H : Hp} {σ : L2.St} {ta te : TE} {D : Ends} {us ts : L2.TS}
def fits (w : Wi) : Bool := decide (w.size ≤ 12) && decide (w.tm ≤ 5)
def rWrong (ds rs : List PyData) : Prop := ∃ w : Wi, w.Ok ∧ w.size ≤ 60 ∧ ds = [w.dat] ∧ rs = if fits w = true then [] else [.tuple []]
theorem sc_wrong_in : FnScope ["value", "waiting", "many", "timed", "path", "here", "place", "part"] ["value"] (defScope s_wrong_in) := ⟨rfl, rfl, rfl, by decide +kernel, rfl, by decide +kernel, by decide +kernel⟩
theorem s_aug {i : Nat} {n m : Int} (h : σ[i]? = some (some (.int n))) (he : EvD K te σ H (.int m)) (k : ∀ H2, Same H H2 → us D (σ.set i (some (.int (n + m)))) H2) : tSeq (tAug i te (ipI fun i j => i + j)) us D σ H :=
  ⟨_, h, he H (Same.refl _) _ fun v H2 s2 hv => by
    cases hv.intOf
    exact ⟨n, m, rfl, rfl, k H2 s2⟩⟩
theorem q_aug {i : Nat} {n m : Int} (h : σ[i]? = some (some (.int n))) (he : EvD K te σ H (.int m)) (k : ∀ H2, Same H H2 → D.nx (σ.set i (some (.int (n + m)))) H2) : tAug i te (ipI fun i j => i + j) D σ H :=
  ⟨_, h, he H (Same.refl _) _ fun v H2 s2 hv => by
    cases hv.intOf
    exact ⟨n, m, rfl, rfl, k H2 s2⟩⟩
/-- a, b, c = a new list, data, data -/
theorem s_par3L {tb tc : TE} {ds : List PyData} {d e : PyData} {i j l : Nat} (h1 : EvL K ta σ H ds) (h2 : EvD K tb σ H d) (h3 : EvD K tc σ H e)
    (k : ∀ p xs v w H2, Same H H2 → H p = none → H2 p = some (.lst xs) → DpAll K H2 xs ds → Dp K H2 v d → Dp K H2 w e → us D (((σ.set i (some (.ref p))).set j (some v)).set l (some w)) H2) :
    tSeq (tPar3 i j l (tCons ta (tCons tb (tCons tc tNil)))) us D σ H :=
  h1 H (Same.refl _) _ fun p xs H1 s1 np hp hx => h2 H1 s1 _ fun v H2 s2 hv => h3 H2 (s1.trans s2) _ fun w H3 s3 hw =>
    ⟨_, _, _, rfl, k p xs v w H3 ((s1.trans s2).trans s3) np (s3 _ _ (s2 _ _ hp)) (DpAll.same (s2.trans s3) _ _ hx) (Dp.same s3 _ _ hv) hw⟩
theorem timed_in : ∀ c ∈ (["mark", "true", "false", "no", "next", "ever", "always", "and", "or", "till"] : List Str), (if inV (.str c) (timedW.map V.str) = true then 1 else 0) = tmW c := by decide +kernel
/-- int(a word in TIMED) -/
theorem ed_inTimed {tk : TE} {a : Addr} {c : Str} (hk : ∀ H1 Q, Q (V.ref a) H1 → tk σ H1 Q) (ht : ∀ H : Hp, SqT K H a (timedW.map V.str)) (hc : EvD K te σ H (.str c)) : EvD K (tOp (rIn K false) te tk) σ H (.bool (inV (.str c) (timedW.map V.str))) := fun H1 s1 Q q =>
  hc H1 s1 _ fun v H2 s2 hv => by
    cases hv.strOf
    refine hk H2 _ ⟨a, timedW.map V.str, rfl, .inr (ht H2), rfl, rfl, ?_⟩
    exact q _ H2 s2 (.bl _)
/-- what holds between two turns of the walk -/
structure WrW (K : PySem.W.Frag) (H0 : Hp) (wi : Wi) (m : Nat) (σ : L2.St) (H : Hp) (p : Addr) (st done : List (List Int × Wi)) (xs : List V) : Prop where
  sh : ∃ a0 a4 a5 a6 a7, σ = [a0, some (.ref p), some (.int (done.length : Int)), some (.int ((wi.tm : Int) - (tms st : Int))), a4, a5, a6, a7]
  same : Same H0 H
  np : H0 p = none
  hp : H p = some (.lst xs)
  dp : DpAll K H xs (stD st.reverse)
  ok : ∀ x ∈ st, x.2.Ok
  m_eq : m = sizes st
  len : done.length + sizes st = wi.size
  tml : tms st ≤ wi.tm
  few : done.length ≤ 12
  fewt : wi.tm - tms st ≤ 5
  all : done ++ st.flatMap grow = wi.pieces
theorem ok_wrong_in (T : Tx K mg w) : Cl P w K mg base 3 "wrong_in" (spL K 1 rWrong) := by
  have cI : Cl P w K mg base 1 "inner_of" (spL K 1 rInner) := ok_inner_of T
  have cF : Cl P w K mg base 2 "has_form" (spD K 1 rForm) := ok_has_form T
  obtain ⟨ta, mT, hT⟩ := T.timed
  refine cl_of T.f_wrong_in sc_wrong_in (fun _ _ _ _ _ _ us hl => match us, hl with | [_], _ => rfl) (spL_len rfl) (fun f cdv A outer s H vs Q E hr h => ?_)
  obtain ⟨ds, r, _, hd, ⟨wi, ok, sz, rfl, rfl⟩, q⟩ := h
  obtain ⟨v, rfl, hv⟩ := hd.one
  have nd := sc_wrong_in.nd
  have hu := hr.units
  refine ⟨_, pss_cons (ps_par3 rfl nd (i := 1) (j := 2) (l := 3) rfl rfl rfl (by decide) (by decide) (by decide) rfl rfl rfl (pa_cons (pe_lst (pa_cons (pe_tup (pa_cons (pe_tup pa_nil) (pa_cons (pv 0) pa_nil))) pa_nil)) (pa_cons pe_int (pa_cons pe_int pa_nil))) rfl)
    (pss_cons (ps_while PassesOwn.never (pt_cmpR (op_neD hu) (pv 1) (pe_lst pa_nil) (nomark _))
      (pss_cons (ps_asg (pe_bm0 PySem.F.plainAttrs_list PySem.F.slot_list_pop PySem.F.type_list_pop mt_pop (pv 1)) (pg_tup rfl (pgs_cons (pg_name (i := 4) nd rfl (Or.inr rfl)) (pgs_cons (pg_name (i := 5) nd rfl (Or.inl rfl)) pgs_nil))))
      (pss_cons (ps_if (pt_not (pt_val (pe_cl cF hr (by decide) (pa_cons (pv 5) pa_nil)))) (pss_one (ps_ret (pe_lst (pa_cons (pv 4) pa_nil)))) pss_nil)
      (pss_cons (ps_aug (i := 2) nd rfl (.inl rfl) pe_int ip_add)
      (pss_cons (ps_aug (i := 3) nd rfl (.inl rfl) (pe_callTy call_int1 rfl T.b_int (by decide +kernel) (pa_cons (pe_cmpR op_in_seq (pe_ix ix_tup (pv 5) pe_int (fun _ _ => rfl)) (pe_glob (v := .ref ta) rfl mT rfl) (by rfl)) pa_nil)) ip_add)
      (pss_cons (ps_if (PW.pt (pw_or (pt_cmpR op_gt (pv 2) (pe_k T.c_MOST_PARTS) (nomark _)) (pw_or1 (pt_cmpR op_gt (pv 3) (pe_k T.c_MOST_TIMED) (nomark _))))) (pss_one (ps_ret (pe_lst (pa_cons (pe_tup pa_nil) pa_nil)))) pss_nil)
      (pss_one (ps_expr (pe_bm PySem.F.plainAttrs_list PySem.F.slot_list_extend PySem.F.type_list_extend mt_extend (pv 1) (pa_cons
        (pe_lc (own := [("place", 6), ("part", 7)]) (g := gTup K 2 (gCons (gName 6) (gCons (gName 7) gNil))) (tt := tYes) rfl nd (pi_list (pe_revL (pe_cl cI hr (by decide) (pa_cons (pv 5) pa_nil))))
          (blkOk_by (N := ["value", "waiting", "many", "timed", "path", "here", "place", "part"]) (sc := defScope s_wrong_in) (by decide +kernel))
          (fun _ _ _ _ _ => pg_tup rfl (pgs_cons (pg_name (i := 6) nd rfl (Or.inl rfl)) (pgs_cons (pg_name (i := 7) nd rfl (Or.inl rfl)) pgs_nil))) (fun _ _ _ _ _ => pts_nil)
          (fun _ _ _ _ _ => pe_tup (pa_cons (pe_tup (pa_starK (K := K) rfl (pv 4) (pa_cons (pv 6) pa_nil))) (pa_cons (pv 7) pa_nil)))) pa_nil))))))))))
    (pss_one (ps_ret (pe_lst pa_nil)))), ?_⟩
  have et : EvD K (tTup (tCons (tTup tNil) (tCons (tVar 0) tNil))) (start ["value", "waiting", "many", "timed", "path", "here", "place", "part"] [v]) H (prD ([], wi)) :=
    ed_tup (ea_cons (ed_tup ea_nil (by show 0 ≤ 100000; decide)) (ea_cons (ed_var rfl hv) ea_nil)) (by show 2 ≤ 100000; decide)
  refine s_par3L (el_lst (ea_cons et ea_nil) (by show 1 ≤ 100000; decide)) ed_int ed_int fun p0 xs0 v1 v2 H2 s2 np0 hp0 dx0 h1 h2 => ?_
  cases h1.intOf
  cases h2.intOf
  refine ⟨fun m σ H' => ∃ st done xs, WrW K H wi m σ H' p0 st done xs, ⟨_, [([], wi)], [], xs0, ⟨⟨some v, none, none, none, none, ?_⟩, s2, np0, hp0, dx0, ?_, rfl, ?_, ?_, by decide, ?_, ?_⟩⟩, ?_⟩
  · have e : ((wi.tm : Int) - (tms [([], wi)] : Int)) = 0 := by simp [tms]
    rw [e]
    rfl
  · intro x hx
    rw [List.mem_singleton] at hx
    subst hx
    exact ok
  · simp [sizes]
  · simp [tms]
  · simp [tms]
  · simp [grow_root]
  rintro m σ H' ⟨st, done, xs, W⟩
  obtain ⟨a0, a4, a5, a6, a7, rfl⟩ := W.sh
  have hst : sizes st.reverse ≤ 60 := by
    have e : sizes st.reverse = sizes st := by simp [sizes, List.sum_reverse]
    have := W.len
    omega
  refine et_test (ed_neD (ed_var rfl (.lst (SqL.of W.hp) W.dp)) (ed_lst ea_nil (by show 0 ≤ 100000; decide)) (st_shaped (fun x hx => W.ok x (List.mem_reverse.mp hx)) hst) lnil_shaped) H' (Same.refl _) _ fun H3 s3 => ?_
  rw [eqv_lnil]
  cases st with
  | nil =>
    refine iteF ?_
    have hf : fits wi = true := by
      have h1 := W.len
      have h2 := W.few
      have h3 := W.fewt
      simp only [sizes, tms, List.map_nil, List.sum_nil] at h1 h3
      simp only [fits, Bool.and_eq_true, decide_eq_true_eq]
      omega
    refine q_retL (K := K) (σ := []) (te := tLst tNil) (D := { nx := fun _ H' => Q .non H', rt := Q }) (el_lst ea_nil (by show 0 ≤ 100000; decide)) fun p xs H4 s4 np hp hx => q p xs H4 (W.same.trans (s3.trans s4)) ((W.same.trans s3).free np) hp ?_
    rw [if_pos hf]
    exact hx
  | cons x st =>
    have e : (!(stD (x :: st).reverse).isEmpty) = true := by simp [stD]
    rw [e]
    refine iteT ⟨_, fun _ _ h => h, ?_⟩
    have e1 : stD (x :: st).reverse = stD st.reverse ++ [prD x] := by simp [stD]
    have dp := W.dp
    rw [e1] at dp
    obtain ⟨xs, xv, rfl, dxs, dx⟩ := dp.snoc
    have okx := W.ok x List.mem_cons_self
    have okl : ∀ y ∈ st, y.2.Ok := fun y hy => W.ok y (List.mem_cons_of_mem _ hy)
    have hz : done.length + (x.2.size + sizes st) = wi.size := W.len
    have htm : x.2.tm + tms st ≤ wi.tm := W.tml
    have ek := sizes_kids x
    have ekt := tms_kids x
    have hpl := plen W.all
    have lxs : xs.length ≤ sizes st := by
      rw [dxs.len, stD, List.length_map, List.length_reverse]
      exact len_sizes st
    have hp3 := s3 _ _ W.hp
    have n0 : ∀ {c o}, H c = some o → c ≠ p0 := fun hc => ne_of_none hc W.np
    refine s_pop2 rfl hp3 (Dp.same s3 _ _ dx) (prD_tup x) fun u v' hu' hv' => ?_
    have tp := TStay.lst (K := K) (o := .lst xs) hp3
    refine s_pass (et_not (b := true) (et_test (ed_call (E := E0) (R := rForm) (ea_cons (ed_var rfl hv') ea_nil) rfl ⟨x.2, okx, by omega, rfl, rfl⟩))) fun H4 s4 => ?_
    refine s_aug (K := K) rfl ed_int fun H5 s5 => ?_
    have s45 := s4.trans s5
    refine s_aug rfl (ed_intB (ed_inTimed (K := K) (a := ta) (c := x.2.word) (fun _ _ q => q) hT (ed_ixT (i := 0) (ds := .str x.2.word :: x.2.rest) (ed_var rfl (by rw [← Wi.dat_eq]; exact Dp.same s45 _ _ hv')) ed_int rfl))) fun H6 s6 => ?_
    have s46 := s45.trans s6
    have etm : (if inV (.str x.2.word) (timedW.map V.str) = true then (1 : Int) else 0) = (tmW x.2.word : Int) := by
      have z := timed_in _ (word_cases okx)
      rw [← z]
      split <;> rfl
    rw [etm]
    have a2 : EvD K (tVar 2) _ H6 (.int ((done.length : Int) + 1)) := ed_var (σ := [a0, some (.ref p0), some (.int ((done.length : Int) + 1)), some (.int ((wi.tm : Int) - (tms (x :: st) : Int) + (tmW x.2.word : Int))), some u, some v', a6, a7]) rfl (.int _)
    have a3 : EvD K (tVar 3) _ H6 (.int ((wi.tm : Int) - (tms (x :: st) : Int) + (tmW x.2.word : Int))) := ed_var (σ := [a0, some (.ref p0), some (.int ((done.length : Int) + 1)), some (.int ((wi.tm : Int) - (tms (x :: st) : Int) + (tmW x.2.word : Int))), some u, some v', a6, a7]) rfl (.int _)
    refine s_if (et_or (et_test (ed_I0 (g := fun i j => .bl (decide (j < i))) a2 (ed_int (i := 12)) fun _ => .bl _)) fun _ => et_test (ed_I0 (g := fun i j => .bl (decide (j < i))) a3 (ed_int (i := 5)) fun _ => .bl _)) (fun z H7 s7 => ?_) fun z H7 s7 => ?_
    · have z2 : 12 < (done.length : Int) + 1 ∨ 5 < (wi.tm : Int) - (tms (x :: st) : Int) + (tmW x.2.word : Int) := by simpa using z
      have hf : fits wi ≠ true := by
        intro hf
        simp only [fits, Bool.and_eq_true, decide_eq_true_eq] at hf
        have e9 : tms (x :: st) = x.2.tm + tms st := rfl
        have := x.2.size_pos
        omega
      refine q_retL (K := K) (el_lst (ea_cons (ed_tup ea_nil (by show 0 ≤ 100000; decide)) ea_nil) (by show 1 ≤ 100000; decide)) fun p xs8 H8 s8 np hp hx => ?_
      have ss : Same H H8 := fun c o hc => s8 _ _ (s7 _ _ (s46 _ _ (by rw [upd_ne (n0 hc)]; exact s3 _ _ (W.same _ _ hc))))
      refine q p xs8 H8 ss ?_ hp ?_
      · cases e9 : H p with
        | none => rfl
        | some o => 
          have ss7 : Same H H7 := fun c o hc => s7 _ _ (s46 _ _ (by rw [upd_ne (n0 hc)]; exact s3 _ _ (W.same _ _ hc)))
          exact absurd rfl (ne_of_none (ss7 _ _ e9) np)
      · rw [if_neg hf]
        exact hx
    · have z2 : (done.length : Int) + 1 ≤ 12 ∧ (wi.tm : Int) - (tms (x :: st) : Int) + (tmW x.2.word : Int) ≤ 5 := by simpa using z
      have e9 : tms (x :: st) = x.2.tm + tms st := rfl
      have s47 := s46.trans s7
      refine q_ext rfl (s47 _ _ upd_same) ?_ (el_grow (p := x.1) (x := x.2) okx rfl rfl (Dp.same s47 _ _ hu') (Dp.same s47 _ _ hv') (by omega) (by decide) (by decide) (by decide) (by simp) (by simp)) (stD_tup _) fun ks H8 s8 hks => ?_
      · have := kids_len (x.1, x.2)
        simp only [stD, List.length_map, List.length_reverse]
        omega
      have t8 := TStay.lst (K := K) (o := .lst (xs ++ ks)) (s8 _ _ (s47 _ _ upd_same))
      have ex3 : ∀ {ds : List PyData} {vs : List V}, tupDs ds = true → DpAll K H' vs ds → DpAll K (upd H8 p0 (.lst (xs ++ ks))) vs ds := fun t h => DpAll.ts t8 _ _ t (DpAll.same (s47.trans s8) _ _ (DpAll.ts tp _ _ t (DpAll.same s3 _ _ h)))
      refine ⟨_, ?_, kidsAt x ++ st, done ++ [x], xs ++ ks, ⟨⟨a0, some u, some v', a6, a7, ?_⟩, ?_, W.np, upd_same, ?_, ?_, rfl, ?_, ?_, ?_, ?_, ?_⟩⟩
      · rw [W.m_eq, sizes_append]
        show _ < x.2.size + sizes st
        omega
      · have e10 : ((done ++ [x]).length : Int) = (done.length : Int) + 1 := by simp
        have e11 : (wi.tm : Int) - (tms (x :: st) : Int) + (tmW x.2.word : Int) = (wi.tm : Int) - (tms (kidsAt x ++ st) : Int) := by
          rw [tms_append]
          omega
        rw [e10, ← e11]
        rfl
      · intro c o hc
        rw [upd_ne (n0 hc)]
        refine s8 _ _ (s47 _ _ ?_)
        rw [upd_ne (n0 hc)]
        exact s3 _ _ (W.same _ _ hc)
      · rw [List.reverse_append, stD_append]
        exact (ex3 (stD_tup _) dxs).append hks
      · intro z hz
        rcases List.mem_append.mp hz with h | h
        · exact kids_ok okx z h
        · exact okl z h
      · rw [sizes_append, List.length_append]
        simp only [List.length_cons, List.length_nil]
        omega
      · rw [tms_append]
        omega
      · rw [List.length_append]
        simp only [List.length_cons, List.length_nil]
        omega
      · rw [tms_append]
        omega
      · rw [List.flatMap_append, ← W.all, List.flatMap_cons, grow_eq x]
        simp
end
end K3
set_option maxRecDepth 100000
set_option maxHeartbeats 4000000
/-! ## more of wishes and places -/
namespace K3
open PySem
/-- the items of a wish's tuple -/
abbrev Wi.items (w : Wi) : List PyData := .str w.word :: w.rest
theorem at_cons (w : Wi) (n : Int) (p : List Int) : w.at (n :: p) = (w.at [n]).bind fun z => z.at p := by
  cases w with
  | mark _ => rfl
  | nul _ => rfl
  | un c f =>
    simp only [Wi.at]
    split
    · rfl
    · rfl
  | bi c f g =>
    simp only [Wi.at]
    split
    · rfl
    · split
      · rfl
      · rfl
theorem at_append : ∀ (p : List Int) (w : Wi) (q : List Int), w.at (p ++ q) = (w.at p).bind fun z => z.at q
  | [], w, q => by rw [Wi.at_nil]; rfl
  | n :: p, w, q => by
    rw [List.cons_append, at_cons, at_cons w n p]
    cases w.at [n] with
    | none => rfl
    | some z => exact at_append p z q
theorem kid_get {w z : Wi} {n : Int} (h : w.at [n] = some z) : (n = 1 ∨ n = 2) ∧ w.items[n.toNat]? = some z.dat := by
  cases w with
  | mark _ => cases h
  | nul _ => cases h
  | un c f =>
    simp only [Wi.at] at h
    split at h
    · rename_i e
      subst e
      cases h
      exact ⟨.inl rfl, rfl⟩
    · cases h
  | bi c f g =>
    simp only [Wi.at] at h
    split at h
    · rename_i e
      subst e
      cases h
      exact ⟨.inl rfl, rfl⟩
    · split at h
      · rename_i e
        subst e
        cases h
        exact ⟨.inr rfl, rfl⟩
      · cases h
/-- one step further on the way -/
theorem at_step {w x : Wi} {p : List Int} {i : Nat} {n : Int} {y : Wi} (h : w.at p = some x) (hn : p[i]? = some n) (hy : w.at (p.take i) = some y) : ∃ z, y.at [n] = some z ∧ w.at (p.take (i + 1)) = some z := by
  have e : p = p.take i ++ (n :: p.drop (i + 1)) := by
    have h1 : p.drop i = n :: p.drop (i + 1) := by
      obtain ⟨hi, e⟩ := List.getElem?_eq_some_iff.mp hn
      rw [List.drop_eq_getElem_cons hi, e]
    rw [← h1, List.take_append_drop]
  have h2 := h
  rw [e, at_append, hy] at h2
  have h3 : y.at (n :: p.drop (i + 1)) = some x := h2
  rw [at_cons] at h3
  cases hz : y.at [n] with
  | none => rw [hz] at h3; cases h3
  | some z =>
    refine ⟨z, rfl, ?_⟩
    rw [List.take_add_one, hn, at_append, hy]
    exact hz
theorem put_step {w x q : Wi} {n : Int} {p : List Int} (h : w.at (n :: p) = some x) :
    ∃ z, w.at [n] = some z ∧ z.at p = some x ∧ (w.put (n :: p) q).dat = .tuple (w.items.take n.toNat ++ (z.put p q).dat :: w.items.drop (n.toNat + 1)) := by
  rw [at_cons] at h
  cases hz : w.at [n] with
  | none => rw [hz] at h; cases h
  | some z =>
    rw [hz] at h
    refine ⟨z, rfl, h, ?_⟩
    cases w with
    | mark _ => cases hz
    | nul _ => cases hz
    | un c f =>
      simp only [Wi.at] at hz
      split at hz
      · rename_i e
        subst e
        cases hz
        rfl
      · cases hz
    | bi c f g =>
      simp only [Wi.at] at hz
      split at hz
      · rename_i e
        subst e
        cases hz
        rfl
      · split at hz
        · rename_i e
          subst e
          cases hz
          rfl
        · cases hz
theorem noes_cons {w z : Wi} {n : Int} (p : List Int) (h : w.at [n] = some z) : w.noes (n :: p) = (if w.word = "no" then 1 else 0) + z.noes p := by
  cases w with
  | mark _ => cases h
  | nul _ => cases h
  | un c f =>
    simp only [Wi.at] at h
    split at h
    · rename_i e
      cases h
      simp [Wi.noes, e, Wi.word]
      by_cases q : c = "no" <;> simp [q]
    · cases h
  | bi c f g =>
    simp only [Wi.at] at h
    split at h
    · rename_i e
      cases h
      simp [Wi.noes, e, Wi.word]
      by_cases q : c = "no" <;> simp [q]
    · rename_i e1
      split at h
      · rename_i e
        cases h
        simp [Wi.noes, e, Wi.word]
        by_cases q : c = "no" <;> simp [q]
      · cases h
theorem noes_snoc : ∀ (p : List Int) {w y z : Wi} {n : Int}, w.at p = some y → y.at [n] = some z → w.noes (p ++ [n]) = w.noes p + if y.word = "no" then 1 else 0
  | [], w, y, z, n, h, h2 => by
    rw [Wi.at_nil] at h
    cases h
    rw [List.nil_append, noes_cons [] h2, Wi.noes_nil, Wi.noes_nil]
    omega
  | m :: p, w, y, z, n, h, h2 => by
    rw [at_cons] at h
    cases hk : w.at [m] with
    | none => rw [hk] at h; cases h
    | some k =>
      rw [hk] at h
      rw [List.cons_append, noes_cons _ hk, noes_cons _ hk, noes_snoc p h h2]
      omega
theorem put_at_best {w : Wi} : True := trivial
theorem worst_ok (w : Wi) (p : List Int) : (w.worst p).Ok := by
  unfold Wi.worst
  split <;> simp [Wi.Ok, nulW]
theorem best_ok (w : Wi) (p : List Int) : (w.best p).Ok := by
  unfold Wi.best
  split <;> simp [Wi.Ok, nulW]
theorem worst_size (w : Wi) (p : List Int) : (w.worst p).size = 1 := by
  unfold Wi.worst
  split <;> rfl
theorem best_size (w : Wi) (p : List Int) : (w.best p).size = 1 := by
  unfold Wi.best
  split <;> rfl
end K3
set_option maxRecDepth 100000
set_option maxHeartbeats 4000000
/-! ## tuples cut, joined, walked -/
namespace K3
open PySem PySem.Spec PyProof.Rows L2
section
variable {K : PySem.W.Frag} {H H1 H2 : Hp} {σ : L2.St} {ta tb te : TE} {D : Ends} {us ts : L2.TS} {g : TG} {ds es : List PyData} {as : TA}
def cutD (xs : List PyData) (lo hi : Option Int) : List PyData := (xs.drop (HT.sIx xs.length 0 lo)).take (HT.sIx xs.length xs.length hi - HT.sIx xs.length 0 lo)
theorem cutD_dp {xs : List V} {lo hi : Option Int} (h : DpAll K H xs ds) : DpAll K H (cutV xs lo hi) (cutD ds lo hi) := by
  unfold cutV cutD
  rw [h.len]
  exact (h.drop _).take _
theorem ed_sl {tl th : TO} {lo hi : Option Int} (ha : EvD K ta σ H (.tuple ds)) (hl : EvO tl σ H lo) (hh : EvO th σ H hi) : EvD K (tSl (rSlA K) ta tl th) σ H (.tuple (cutD ds lo hi)) := fun H1 s1 Q q =>
  ha H1 s1 _ fun v H2 s2 hv => hl H2 (s1.trans s2) _ fun H3 s3 => hh H3 ((s1.trans s2).trans s3) _ fun H4 s4 => by
    obtain ⟨a, xs, rfl, hs, hx⟩ := (Dp.same (s3.trans s4) _ _ hv).tupOf
    have s14 := (s2.trans s3).trans s4
    refine ⟨a, xs, rfl, hs, fun z => ?_, fun z p hp => q _ _ (s14.trans (same_new hp _)) (.tup (SqT.of upd_same) (DpAll.same (same_new hp _) _ _ (cutD_dp hx)))⟩
    refine q _ H4 s14 (.tup hs ?_)
    have e : cutD ds lo hi = ds := by
      unfold cutD
      rw [hx.len] at z
      rw [z.1, z.2, List.drop_zero, Nat.sub_zero, List.take_length]
    rw [e]
    exact hx
theorem cutD_to {n : Nat} : cutD ds none (some (n : Int)) = ds.take n := by
  unfold cutD
  rw [HT.sIx_none, HT.sIx_nat, List.drop_zero, Nat.sub_zero]
  by_cases h : n ≤ ds.length
  · rw [Nat.min_eq_left h]
  · rw [Nat.min_eq_right (by omega), List.take_length, List.take_of_length_le (by omega)]
theorem cutD_from {n : Nat} : cutD ds (some (n : Int)) none = ds.drop n := by
  unfold cutD
  rw [HT.sIx_none, HT.sIx_nat]
  by_cases h : n ≤ ds.length
  · rw [Nat.min_eq_left h, List.take_of_length_le (by rw [List.length_drop]; omega)]
  · rw [Nat.min_eq_right (by omega), List.drop_of_length_le (Nat.le_refl _), List.drop_of_length_le (by omega)]
    simp
theorem ed_slTo {th : TO} {n : Nat} (ha : EvD K ta σ H (.tuple ds)) (hh : EvO th σ H (some (n : Int))) : EvD K (tSl (rSlA K) ta tNoPart th) σ H (.tuple (ds.take n)) := by
  rw [← cutD_to]
  exact ed_sl ha eo_no hh
theorem ed_slFrom {tl : TO} {n : Nat} (ha : EvD K ta σ H (.tuple ds)) (hh : EvO tl σ H (some (n : Int))) : EvD K (tSl (rSlA K) ta tl tNoPart) σ H (.tuple (ds.drop n)) := by
  rw [← cutD_from]
  exact ed_sl ha hh eo_no
theorem ed_catA (ha : EvD K ta σ H (.tuple ds)) (hb : EvD K tb σ H (.tuple es)) (hl : ds.length + es.length ≤ 100000) : EvD K (tOp (rCatA K) ta tb) σ H (.tuple (ds ++ es)) :=
  ed_op2 ha hb fun x y H2 _ hx hy Q q => by
    obtain ⟨a, xs, rfl, hs, hx⟩ := hx.tupOf
    obtain ⟨b, ys, rfl, ht, hy⟩ := hy.tupOf
    refine ⟨a, b, xs, ys, rfl, rfl, hs, ht, by rw [hx.len, hy.len]; exact sz100 hl, fun z => ?_, fun z z2 => ?_, fun _ _ p hp => q _ _ (same_new hp _) (.tup (SqT.of upd_same) (DpAll.same (same_new hp _) _ _ (hx.append hy)))⟩
    · subst z
      cases hx
      exact q _ H2 (Same.refl _) (.tup ht hy)
    · subst z2
      cases hy
      rw [List.append_nil] at q
      exact q _ H2 (Same.refl _) (.tup hs hx)
/-- tuple(new list) -/
theorem ed_tupOf (h : EvL K ta σ H ds) : EvD K (tCB (fun xs H Q => ∃ p ys, xs = [.ref p] ∧ ((SqL K H p ys ∧ ∀ l, H l = none → Q (.ref l) (upd H l (.tup ys))) ∨ (SqT K H p ys ∧ Q (.ref p) H))) (tCons ta tNil)) σ H (.tuple ds) := fun H1 s1 Q q =>
  h H1 s1 _ fun p xs H2 s2 np hp hx => ⟨p, xs, rfl, .inl ⟨SqL.of hp, fun l hl => q _ _ (s2.trans (same_new hl _)) (.tup (SqT.of upd_same) (DpAll.same (same_new hl _) _ _ hx))⟩⟩
/-- all(new list of truth values) -/
theorem ed_allL {bs : List Bool} (h : EvL K ta σ H (bs.map .bool)) : EvD K (tCB (rAll K) (tCons ta tNil)) σ H (.bool (bs.all id)) := fun H1 s1 Q q =>
  h H1 s1 _ fun p xs H2 s2 np hp hx => by
    have e : xs = bs.map V.bl := by
      clear hp h q
      induction bs generalizing xs with
      | nil => cases hx; rfl
      | cons b bs ih =>
        cases hx with
        | cons a c =>
          rw [ih _ c, a.blOf]
          rfl
    subst e
    exact ⟨p, bs, rfl, SqL.of hp, q _ H2 s2 (.bl _)⟩
theorem ed_notInD {d : PyData} (ha : EvD K ta σ H d) (hb : EvD K tb σ H (.list ds)) (hd : SeqAt.shaped d = true) (he : SeqAt.shaped (.list ds) = true) : EvD K (tOp (rNotInD K) ta tb) σ H (.bool (!ds.any fun z => PyData.eqv z d)) :=
  ed_op2 ha hb fun x y H2 _ hx hy Q q => ⟨d, ds, hx, hy, hd, he, q _ H2 (Same.refl _) (.bl _)⟩
/-- for over a tuple, all objects stay -/
theorem s_forT (ha : EvD K ta σ H (.tuple ds))
    (k : ∀ H1, Same H H1 → ∃ Pv : Nat → L2.St → Hp → Prop, Pv 0 σ H1 ∧
      (∀ i d x σ' H', ds[i]? = some d → Same H1 H' → Pv i σ' H' → Dp K H' x d → g x σ' H' fun σ2 H2 => ts { D with nx := fun σ3 H3 => Same H1 H3 ∧ Pv (i + 1) σ3 H3, ct := fun σ3 H3 => Same H1 H3 ∧ Pv (i + 1) σ3 H3, bk := us D } σ2 H2) ∧
      ∀ σ' H', Same H1 H' → Pv ds.length σ' H' → us D σ' H') : tSeq (tFor (iTup K ta) g ts) us D σ H :=
  ha H (Same.refl _) _ fun v H1 s1 hv => by
    obtain ⟨a, xs, rfl, hq, hx⟩ := hv.tupOf
    obtain ⟨Pv, h0, hs, hd⟩ := k H1 s1
    refine ⟨a, rfl, ⟨xs, hq⟩, for_tup (K := K) (a := a) (xs := xs) (fun i σ' H' => (Same H1 H' ∧ Pv i σ' H')) ⟨Same.refl _, h0⟩ (fun i σ' H' _ P => TStay.same P.1 _ _ hq) (fun i x σ' H' hxi P => ?_) fun σ' H' P => ?_⟩
    · obtain ⟨d, hd, hp⟩ := hx.getV hxi
      exact hs i d x σ' H' hd P.1 P.2 (Dp.same P.1 _ _ hp)
    · rw [hx.len] at P
      exact hd σ' H' P.1 P.2
end
end K3
set_option maxRecDepth 100000
set_option maxHeartbeats 4000000
/-! ## part_in, put_in, is_plain_in, worst_in, hardened_of -/
namespace K3
open PySem PySem.Spec PyProof.Rows L2
section
variable {P : Program} {w : World} {K : PySem.W.Frag} {mg : Str → Option Value} {base : Heap} {H : Hp} {σ : L2.St}
theorem ed_dat {v : V} {i : Nat} {y : Wi} (h : σ[i]? = some (some v)) (hd : Dp K H v y.dat) : EvD K (tVar i) σ H (.tuple y.items) := by
  rw [Wi.items, ← Wi.dat_eq]
  exact ed_var h hd
theorem path_get {p : List Int} {i : Nat} {d : PyData} (h : (p.map PyData.int)[i]? = some d) : ∃ n, p[i]? = some n ∧ d = .int n := by
  rw [List.getElem?_map] at h
  cases e : p[i]? with
  | none => rw [e] at h; cases h
  | some n => rw [e] at h; exact ⟨n, rfl, (Option.some.inj h).symm⟩
theorem ofNat_toNat {n : Int} (h : n = 1 ∨ n = 2) : ((n.toNat : Nat) : Int) = n := by omega
/-! ### part_in -/
def rPartIn (ds : List PyData) (r : PyData) : Prop := ∃ (w x : Wi) (p : List Int), w.at p = some x ∧ ds = [w.dat, pD p] ∧ r = x.dat
theorem sc_part_in : FnScope ["wish", "path", "place"] ["wish", "path"] (defScope s_part_in) := ⟨rfl, rfl, rfl, by decide +kernel, rfl, by decide +kernel, by decide +kernel⟩
theorem ok_part_in (T : Tx K mg w) : Cl P w K mg base 1 "part_in" (spD K 2 rPartIn) := by
  refine cl_of T.f_part_in sc_part_in (fun _ _ _ _ _ _ us hl => match us, hl with | [_, _], _ => rfl) (spD_len rfl) (fun f cdv A outer s H vs Q E hr h => ?_)
  obtain ⟨ds, r, _, hd, ⟨wi, x, p, hat, rfl, rfl⟩, q⟩ := h
  obtain ⟨v, u, rfl, hv, hu⟩ := hd.two
  have nd := sc_part_in.nd
  refine ⟨_, pss_cons (ps_for PassesOwn.never rfl (pi_tup (pv 1)) (pg_name (i := 2) nd rfl (Or.inl rfl)) (pss_one (ps_set (i := 0) nd rfl (Or.inl rfl) (pe_ix ix_tup (pv 0) (pv 2) (fun _ _ => rfl)))))
    (pss_one (ps_ret (pv 0))), ?_⟩
  refine s_forT (K := K) (ds := p.map .int) (ed_var rfl hu) fun H1 s1 => ⟨fun i σ' H' => ∃ v' a y, σ' = [some v', some u, a] ∧ wi.at (p.take i) = some y ∧ Dp K H' v' y.dat, ⟨v, none, wi, rfl, ?_, Dp.same s1 _ _ hv⟩, ?_, ?_⟩
  · rw [List.take_zero, Wi.at_nil]
  · rintro i d z σ' H' hi s' ⟨v', a, y, rfl, hy, hv'⟩ hz
    obtain ⟨n, hn, rfl⟩ := path_get hi
    cases hz.intOf
    obtain ⟨k, hk, hk2⟩ := at_step hat hn hy
    obtain ⟨hn2, hg⟩ := kid_get hk
    refine q_set (K := K) (d := k.dat) (ed_ixT (i := n.toNat) (ds := y.items) (ed_dat rfl hv') (ed_var rfl (by rw [ofNat_toNat hn2]; exact .int _)) hg) fun v2 H2 s2 h2 => ?_
    exact ⟨s'.trans s2, v2, _, k, rfl, hk2, h2⟩
  · rintro σ' H' s' ⟨v', a, y, rfl, hy, hv'⟩
    rw [List.length_map, List.take_length, hat] at hy
    cases hy
    exact ⟨_, rfl, q _ _ (s1.trans s') hv'⟩
/-! ### put_in -/
def rPut (n : Nat) (ds : List PyData) (r : PyData) : Prop := ∃ (w x q : Wi) (p : List Int), p.length ≤ n ∧ w.at p = some x ∧ ds = [w.dat, pD p, q.dat] ∧ r = (w.put p q).dat
theorem sc_put_in : FnScope ["wish", "path", "part", "place"] ["wish", "path", "part"] (defScope s_put_in) := ⟨rfl, rfl, rfl, by decide +kernel, rfl, by decide +kernel, by decide +kernel⟩
theorem pD_nil_eqv (p : List Int) : PyData.eqv (pD p) (.tuple []) = decide (p = []) := pD_eqv p []
theorem items_small (w : Wi) : w.items.length ≤ 3 := by
  have := rest_small w
  simp only [Wi.items, List.length_cons]
  omega
theorem ok_put_in (T : Tx K mg w) : ∀ n, Cl P w K mg base (n + 1) "put_in" (spD K 3 (rPut n))
  | 0 => by
    refine cl_of T.f_put_in sc_put_in (fun _ _ _ _ _ _ us hl => match us, hl with | [_, _, _], _ => rfl) (spD_len rfl) (fun f cdv A outer s H vs Q E hr h => ?_)
    obtain ⟨ds, r, _, hd, ⟨wi, x, qi, p, hn, hat, rfl, rfl⟩, q⟩ := h
    obtain ⟨v, u, t, rfl, hv, hu, ht⟩ := hd.three
    have hu0 := hr.units
    have hp : p = [] := List.eq_nil_of_length_eq_zero (by omega)
    subst hp
    refine ⟨_, pss_cons (ps_if (pt_cmpR (op_eqD hu0) (pv 1) (pe_tup pa_nil) (nomark _)) (pss_one (ps_ret (pv 2))) pss_nil) pss_never, ?_⟩
    refine s_take (et_test (K := K) (b := true) ?_) fun H2 s2 => ?_
    · exact ed_eqD (K := K) (d := pD []) (ed_var rfl hu) (ed_tup ea_nil (by show 0 ≤ 100000; decide)) (pD_shaped _) nil_shaped
    · refine ⟨_, rfl, q _ _ s2 ?_⟩
      rw [Wi.put_nil]
      exact Dp.same s2 _ _ ht
  | n + 1 => by
    have cP : Cl P w K mg base (n + 1) "put_in" (spD K 3 (rPut n)) := ok_put_in T n
    refine cl_of T.f_put_in sc_put_in (fun _ _ _ _ _ _ us hl => match us, hl with | [_, _, _], _ => rfl) (spD_len rfl) (fun f cdv A outer s H vs Q E hr h => ?_)
    obtain ⟨ds, r, _, hd, ⟨wi, x, qi, p, hn, hat, rfl, rfl⟩, q⟩ := h
    obtain ⟨v, u, t, rfl, hv, hu, ht⟩ := hd.three
    have hu0 := hr.units
    have nd := sc_put_in.nd
    refine ⟨_, pss_cons (ps_if (pt_cmpR (op_eqD hu0) (pv 1) (pe_tup pa_nil) (nomark _)) (pss_one (ps_ret (pv 2))) pss_nil)
      (pss_cons (ps_set (i := 3) nd rfl (Or.inl rfl) (pe_ix ix_tup (pv 1) pe_int (fun _ _ => rfl)))
      (pss_one (ps_ret (pe_tup (pa_starK (K := K) rfl (pe_slice sl_tupA (pv 0) po_none (po_some (pv 3)))
        (pa_cons (pe_cl cP hr (Nat.le_refl _) (pa_cons (pe_ix ix_tup (pv 0) (pv 3) (fun _ _ => rfl)) (pa_cons (pe_slice sl_tupA (pv 1) (po_some pe_int) po_none) (pa_cons (pv 2) pa_nil))))
        (pa_starK (K := K) rfl (pe_slice sl_tupA (pv 0) (po_some (pe_op op_add (pv 3) pe_int)) po_none) pa_nil))))))), ?_⟩
    have e1 : EvD K (tVar 1) (start ["wish", "path", "part", "place"] [v, u, t]) H (pD p) := ed_var rfl hu
    have ec := et_test (ed_eqD (K := K) e1 (ed_tup ea_nil (by show 0 ≤ 100000; decide)) (pD_shaped _) nil_shaped)
    rw [pD_nil_eqv] at ec
    cases p with
    | nil =>
      refine s_take ec fun H2 s2 => ?_
      refine ⟨_, rfl, q _ _ s2 ?_⟩
      rw [Wi.put_nil]
      exact Dp.same s2 _ _ ht
    | cons m p =>
      refine s_pass ec fun H2 s2 => ?_
      have e1' : EvD K (tVar 1) (start ["wish", "path", "part", "place"] [v, u, t]) H2 (.tuple (.int m :: p.map .int)) := e1.mono s2
      refine s_set (K := K) (d := .int m) (ed_ixT (i := 0) e1' ed_int rfl) fun v3 H3 s3 h3 => ?_
      cases h3.intOf
      obtain ⟨z, hz, hzp, hput⟩ := put_step (q := qi) hat
      obtain ⟨hm2, hg⟩ := kid_get hz
      have s23 := s2.trans s3
      have d0 : EvD K (tVar 0) ((start ["wish", "path", "part", "place"] [v, u, t]).set 3 (some (.int m))) H3 (.tuple wi.items) := ed_dat rfl (Dp.same s23 _ _ hv)
      have d1 : EvD K (tVar 1) ((start ["wish", "path", "part", "place"] [v, u, t]).set 3 (some (.int m))) H3 (.tuple (.int m :: p.map .int)) := ed_var rfl (Dp.same s23 _ _ hu)
      have d2 : EvD K (tVar 2) ((start ["wish", "path", "part", "place"] [v, u, t]).set 3 (some (.int m))) H3 qi.dat := ed_var rfl (Dp.same s23 _ _ ht)
      have d3 : EvD K (tVar 3) ((start ["wish", "path", "part", "place"] [v, u, t]).set 3 (some (.int m))) H3 (.int ((m.toNat : Nat) : Int)) := ed_var rfl (by rw [ofNat_toNat hm2]; exact .int _)
      have d4 : EvD K (tOp (rI0 fun i j => .int (i + j)) (tVar 3) (tC (.int 1))) ((start ["wish", "path", "part", "place"] [v, u, t]).set 3 (some (.int m))) H3 (.int ((m.toNat + 1 : Nat) : Int)) :=
        ed_I0 d3 (ed_int (i := 1)) fun _ => .int _
      refine q_ret (K := K) (d := (wi.put (m :: p) qi).dat) ?_ fun v4 H4 s4 h4 => q v4 H4 (s23.trans s4) h4
      rw [hput]
      have hl : (wi.items.take m.toNat ++ (z.put p qi).dat :: wi.items.drop (m.toNat + 1)).length ≤ 100000 := by
        have := rest_small wi
        simp only [List.length_append, List.length_take, List.length_cons, List.length_drop]
        omega
      refine ed_tup ?_ hl
      have ec2 := ed_call (K := K) (E := E0) (R := rPut n) (ea_cons (ed_ixT d0 d3 hg) (ea_cons (ed_slFrom (n := 1) d1 (eo_some (K := K) ed_int)) (ea_cons d2 ea_nil))) rfl ⟨z, x, qi, p, by simpa using hn, hzp, rfl, rfl⟩
      have e5 := ea_star (ed_slTo d0 (eo_some d3)) (ea_cons ec2 (ea_star (ed_slFrom d0 (eo_some d4)) ea_nil))
      rw [List.append_nil] at e5
      exact e5
/-! ### is_plain_in -/
def rPlainIn (ds : List PyData) (r : PyData) : Prop := ∃ (w x : Wi) (p : List Int), w.at p = some x ∧ ds = [w.dat, pD p] ∧ r = .bool (w.even p)
theorem sc_is_plain_in : FnScope ["wish", "path", "count", "place"] ["wish", "path"] (defScope s_is_plain_in) := ⟨rfl, rfl, rfl, by decide +kernel, rfl, by decide +kernel, by decide +kernel⟩
theorem even_of (n : Nat) : decide ((n : Int) % 2 = 0) = (n % 2 == 0) := by
  have e : (n : Int) % 2 = ((n % 2 : Nat) : Int) := by
    omega
  rw [e]
  have h : n % 2 = 0 ∨ n % 2 = 1 := by omega
  rcases h with h | h <;> rw [h] <;> rfl
theorem ok_is_plain_in (T : Tx K mg w) : Cl P w K mg base 1 "is_plain_in" (spD K 2 rPlainIn) := by
  refine cl_of T.f_is_plain_in sc_is_plain_in (fun _ _ _ _ _ _ us hl => match us, hl with | [_, _], _ => rfl) (spD_len rfl) (fun f cdv A outer s H vs Q E hr h => ?_)
  obtain ⟨ds, r, _, hd, ⟨wi, x, p, hat, rfl, rfl⟩, q⟩ := h
  obtain ⟨v, u, rfl, hv, hu⟩ := hd.two
  have nd := sc_is_plain_in.nd
  refine ⟨_, pss_cons (ps_set (i := 2) nd rfl (Or.inl rfl) pe_int) (pss_cons (ps_for PassesOwn.never rfl (pi_tup (pv 1)) (pg_name (i := 3) nd rfl (Or.inl rfl))
      (pss_cons (ps_aug (i := 2) nd rfl (.inl rfl) (pe_callTy call_int1 rfl T.b_int (by decide +kernel) (pa_cons (pe_cmpR op_eq (pe_ix ix_tup (pv 0) pe_int (fun _ _ => rfl)) (pe_k T.c_NO) (nomark _)) pa_nil)) ip_add)
      (pss_one (ps_set (i := 0) nd rfl (Or.inl rfl) (pe_ix ix_tup (pv 0) (pv 3) (fun _ _ => rfl))))))
    (pss_one (ps_ret (pe_cmpR op_eq (pe_op op_mod (pe_callTy call_int1 rfl T.b_int (by decide +kernel) (pa_cons (pv 2) pa_nil)) pe_int) pe_int (nomark _))))), ?_⟩
  refine s_set (K := K) ed_int fun v0 H0 s0 h0 => ?_
  cases h0.intOf
  refine s_forT (K := K) (ds := p.map .int) (ed_var rfl (Dp.same s0 _ _ hu)) fun H1 s1 => ⟨fun i σ' H' => ∃ v' a y, σ' = [some v', some u, some (.int ((wi.noes (p.take i) : Nat) : Int)), a] ∧ wi.at (p.take i) = some y ∧ Dp K H' v' y.dat, ⟨v, none, wi, ?_, ?_, Dp.same (s0.trans s1) _ _ hv⟩, ?_, ?_⟩
  · rw [List.take_zero, Wi.noes_nil]
    rfl
  · rw [List.take_zero, Wi.at_nil]
  · rintro i d z σ' H' hi s' ⟨v', a, y, rfl, hy, hv'⟩ hz
    obtain ⟨n, hn, rfl⟩ := path_get hi
    cases hz.intOf
    obtain ⟨k, hk, hk2⟩ := at_step hat hn hy
    obtain ⟨hn2, hg⟩ := kid_get hk
    refine s_aug (K := K) rfl (ed_intB (ed_eqS (x := y.word) (y := "no") (ed_ixT (i := 0) (ds := y.items) (ed_dat rfl hv') ed_int rfl) (ed_c (.str _)))) fun H2 s2 => ?_
    refine q_set (K := K) (d := k.dat) (ed_ixT (i := n.toNat) (ds := y.items) (ed_dat rfl (Dp.same s2 _ _ hv')) (ed_var rfl (by rw [ofNat_toNat hn2]; exact .int _)) hg) fun v2 H3 s3 h3 => ?_
    refine ⟨s'.trans (s2.trans s3), v2, some (.int n), k, ?_, hk2, h3⟩
    have e : p.take (i + 1) = p.take i ++ [n] := take_snoc hn
    have e2 := noes_snoc (p.take i) hy hk
    rw [e, e2]
    have e3 : ((wi.noes (p.take i) + (if y.word = "no" then 1 else 0) : Nat) : Int) = ((wi.noes (p.take i) : Nat) : Int) + (if decide (y.word = "no") = true then 1 else 0) := by
      by_cases z : y.word = "no" <;> simp [z]
    rw [e3]
    rfl
  · rintro σ' H' s' ⟨v', a, y, rfl, hy, hv'⟩
    have el : p.take (p.map PyData.int).length = p := by rw [List.length_map, List.take_length]
    rw [el]
    refine q_ret (K := K) (d := .bool (wi.even p)) ?_ fun v4 H4 s4 h4 => q v4 H4 (s0.trans (s1.trans (s'.trans s4))) h4
    have e1 : wi.even p = decide ((wi.noes p : Int) % 2 = 0) := by
      rw [even_of]
      rfl
    rw [e1]
    exact ed_eqI (ed_I (K := K) (g := fun i j => .int (i % j)) (ed_int1 (ed_var (i := 2) rfl (.int _))) (ed_int (i := 2)) (by decide) fun _ => .int _) ed_int
end
end K3
set_option maxRecDepth 100000
set_option maxHeartbeats 4000000
/-! ## need_wish, paths, need_path -/
namespace K3
open PySem PySem.Spec PyProof.Rows L2
section
variable {P : Program} {w : World} {K : PySem.W.Frag} {mg : Str → Option Value} {base : Heap} {H : Hp} {σ : L2.St} {ta : TE}
/-! ### need_wish -/
def rNeed (ds : List PyData) (r : PyData) : Prop := ∃ w : Wi, w.Ok ∧ fits w = true ∧ ds = [w.dat] ∧ r = w.dat
theorem fits_size {w : Wi} (h : fits w = true) : w.size ≤ 12 ∧ w.tm ≤ 5 := by simpa [fits] using h
theorem sc_need_wish : FnScope ["wish", "path"] ["wish"] (defScope s_need_wish) := ⟨rfl, rfl, rfl, by decide +kernel, rfl, by decide +kernel, by decide +kernel⟩
theorem ok_need_wish (T : Tx K mg w) : Cl P w K mg base 4 "need_wish" (spD K 1 rNeed) := by
  have cW : Cl P w K mg base 3 "wrong_in" (spL K 1 rWrong) := ok_wrong_in T
  refine cl_of T.f_need_wish sc_need_wish (fun _ _ _ _ _ _ us hl => match us, hl with | [_], _ => rfl) (spD_len rfl) (fun f cdv A outer s H vs Q E hr h => ?_)
  obtain ⟨ds, r, _, hd, ⟨wi, ok, hf, rfl, rfl⟩, q⟩ := h
  obtain ⟨v, rfl, hv⟩ := hd.one
  have nd := sc_need_wish.nd
  have hz := fits_size hf
  refine ⟨_, pss_cons (ps_for PassesOwn.never rfl (pi_list (pe_cl cW hr (Nat.le_refl _) (pa_cons (pv 0) pa_nil))) (pg_name (i := 1) nd rfl (Or.inl rfl)) pss_never) (pss_one (ps_ret (pv 0))), ?_⟩
  have ec : EvL K (tCall (spL K 1 rWrong) [] E0 (tCons (tVar 0) tNil)) (start ["wish", "path"] [v]) H [] := by
    refine el_call (ea_cons (ed_var rfl hv) ea_nil) rfl ⟨wi, ok, by omega, rfl, ?_⟩
    rw [if_pos hf]
  refine ec H (Same.refl _) _ fun p xs H1 s1 np hp hx => ?_
  cases hx
  refine ⟨p, rfl, ⟨[], SqL.of hp⟩, for_list (K := K) (a := p) (xs := []) (fun i σ' H' => σ' = start ["wish", "path"] [v] ∧ H' = H1) ⟨rfl, rfl⟩ (fun i σ' H' _ P => ?_) (fun i x σ' H' hi P => ?_) fun σ' H' P => ?_⟩
  · rw [P.2]
    exact SqL.of hp
  · cases hi
  · obtain ⟨rfl, rfl⟩ := P
    exact ⟨_, rfl, q _ _ s1 (Dp.same s1 _ _ hv)⟩
/-! ### the first of each pair -/
def fstF : PyData → Option PyData
  | .tuple [a, _] => some a
  | _ => none
theorem fst_of (l : List (List Int × Wi)) : (stD l).filterMap fstF = l.map fun x => pD x.1 := by
  induction l with
  | nil => rfl
  | cons x l ih =>
    show (prD x :: stD l).filterMap fstF = _
    rw [List.filterMap_cons]
    show (pD x.1 :: (stD l).filterMap fstF) = _
    rw [ih]
    rfl
theorem wipe2 {i j : Nat} {a b : Option V} (hij : i ≠ j) (hi : i < σ.length) (hj : j < σ.length) : wipe (((wipe σ [i, j]).set i a).set j b) [i, j] = wipe σ [i, j] := by
  simp only [wipe]
  apply List.ext_getElem?
  intro k
  simp only [List.getElem?_set, List.length_set]
  by_cases q6 : j = k
  · subst q6
    simp [hj]
  · by_cases q5 : i = k
    · subst q5
      simp [hi, q6]
    · simp [q5, q6]
theorem at_i {i j : Nat} {x y : V} {σ : L2.St} (hij : i ≠ j) (hi : i < σ.length) : ((((wipe σ [i, j]).set i (some x)).set j (some y)))[i]? = some (some x) := by
  rw [List.getElem?_set_ne hij.symm, List.getElem?_set_self (by simp [wipe, hi])]
theorem at_j {i j : Nat} {x y : V} {σ : L2.St} (hj : j < σ.length) : ((((wipe σ [i, j]).set i (some x)).set j (some y)))[j]? = some (some y) := List.getElem?_set_self (by simp [wipe, hj])
theorem el_fst {i j : Nat} {l : List (List Int × Wi)} (ha : EvD K ta σ H (.list (stD l))) (hl : l.length ≤ 1000) (hij : i ≠ j) (hi : i < σ.length) (hj : j < σ.length) :
    EvL K (tLc (iList K ta) (gTup K 2 (gCons (gName i) (gCons (gName j) gNil))) tYes (tVar i) [i, j]) σ H (l.map fun x => pD x.1) := by
  rw [← fst_of]
  refine el_lc ha (by rw [stD, List.length_map]; omega) fun d hd => ?_
  obtain ⟨z, _, rfl⟩ := List.mem_map.mp hd
  intro x H' s' hx
  obtain ⟨a, b, ha, hb, g⟩ := g_pair (i := i) (j := j) hx
  refine ⟨_, true, fun Q q => g _ Q q, wipe2 hij hi hj, et_yes, ?_⟩
  rw [if_pos rfl]
  exact ⟨pD z.1, rfl, pD_tup _, ed_var (at_i hij hi) ha⟩
theorem size60 {w : Wi} (h : w.size ≤ 60) : w.pieces.length ≤ 1000 := by
  rw [Wi.pieces_len]
  omega
/-! ### paths -/
def waysD (w : Wi) : List PyData := w.pieces.map fun x => pD x.1
def rPaths (ds : List PyData) (r : PyData) : Prop := ∃ w : Wi, w.Ok ∧ fits w = true ∧ ds = [w.dat] ∧ r = .tuple (waysD w)
theorem sc_paths : FnScope ["wish", "path", "part"] ["wish"] (defScope s_paths) := ⟨rfl, rfl, rfl, by decide +kernel, rfl, by decide +kernel, by decide +kernel⟩
theorem ok_paths (T : Tx K mg w) : Cl P w K mg base 5 "paths" (spD K 1 rPaths) := by
  have cN : Cl P w K mg base 4 "need_wish" (spD K 1 rNeed) := ok_need_wish T
  have cP : Cl P w K mg base 2 "parts_of" (spL K 1 rParts) := ok_parts_of T
  refine cl_of T.f_paths sc_paths (fun _ _ _ _ _ _ us hl => match us, hl with | [_], _ => rfl) (spD_len rfl) (fun f cdv A outer s H vs Q E hr h => ?_)
  obtain ⟨ds, r, _, hd, ⟨wi, ok, hf, rfl, rfl⟩, q⟩ := h
  obtain ⟨v, rfl, hv⟩ := hd.one
  have nd := sc_paths.nd
  have hz := fits_size hf
  refine ⟨_, pss_one (ps_ret (pe_callTy call_tuple_of rfl T.b_tuple (by decide +kernel) (pa_cons
    (pe_lc (own := [("path", 1), ("part", 2)]) (g := gTup K 2 (gCons (gName 1) (gCons (gName 2) gNil))) (tt := tYes) rfl nd (pi_list (pe_cl cP hr (by decide) (pa_cons (pe_cl cN hr (by decide) (pa_cons (pv 0) pa_nil)) pa_nil)))
      (blkOk_by (N := ["wish", "path", "part"]) (sc := defScope s_paths) (by decide +kernel))
      (fun _ _ _ _ _ => pg_tup rfl (pgs_cons (pg_name (i := 1) nd rfl (Or.inl rfl)) (pgs_cons (pg_name (i := 2) nd rfl (Or.inl rfl)) pgs_nil))) (fun _ _ _ _ _ => pts_nil)
      (fun _ _ _ _ _ => pv 1)) pa_nil))), ?_⟩
  refine q_ret (K := K) (d := .tuple (waysD wi)) ?_ fun v4 H4 s4 h4 => q v4 H4 s4 h4
  have e1 : EvD K (tCall (spD K 1 rNeed) [] E0 (tCons (tVar 0) tNil)) (start ["wish", "path", "part"] [v]) H wi.dat := ed_call (ea_cons (ed_var rfl hv) ea_nil) rfl ⟨wi, ok, hf, rfl, rfl⟩
  have e2 : EvL K (tCall (spL K 1 rParts) [] E0 (tCons (tCall (spD K 1 rNeed) [] E0 (tCons (tVar 0) tNil)) tNil)) (start ["wish", "path", "part"] [v]) H (stD wi.pieces) := el_call (ea_cons e1 ea_nil) rfl ⟨wi, ok, by omega, rfl, rfl⟩
  exact ed_tupOf (el_fst e2.toD (size60 (by omega)) (by decide) (by simp [L2.start]) (by simp [L2.start]))
/-! ### need_path -/
def rNeedPath (ds : List PyData) (r : PyData) : Prop := ∃ (w x : Wi) (p : List Int), w.Ok ∧ fits w = true ∧ w.at p = some x ∧ ds = [w.dat, pD p] ∧ r = pD p
theorem sc_need_path : FnScope ["wish", "path", "place", "one", "part"] ["wish", "path"] (defScope s_need_path) := ⟨rfl, rfl, rfl, by decide +kernel, rfl, by decide +kernel, by decide +kernel⟩
def wholeF : PyData → Option PyData
  | .int n => some (.bool (decide (1 ≤ n) && decide (n ≤ 2)))
  | _ => none
theorem whole_of (p : List Int) : (p.map PyData.int).filterMap wholeF = (p.map fun n => decide (1 ≤ n) && decide (n ≤ 2)).map PyData.bool := by
  induction p with
  | nil => rfl
  | cons n p ih =>
    simp only [List.map_cons, List.filterMap_cons, wholeF, ih]
theorem ways_shaped (l : List (List Int × Wi)) : SeqAt.shaped (.list (l.map fun x => pD x.1)) = true := by
  refine lst_shaped (n := 1) (fun d hd => ?_) (fun d hd => ?_) (by decide)
  · obtain ⟨x, _, rfl⟩ := List.mem_map.mp hd
    exact pD_lay _
  · obtain ⟨x, _, rfl⟩ := List.mem_map.mp hd
    rw [pD_depth]
    exact Nat.le_refl _
theorem way_in {w x : Wi} {p : List Int} (h : w.at p = some x) : ((w.pieces.map fun x => pD x.1).any fun z => PyData.eqv z (pD p)) = true := by
  rw [List.any_eq_true]
  refine ⟨pD p, List.mem_map.mpr ⟨(p, x), (Wi.mem_pieces w p x).mpr h, rfl⟩, ?_⟩
  rw [pD_eqv]
  exact decide_eq_true rfl
theorem ok_need_path (T : Tx K mg w) : Cl P w K mg base 5 "need_path" (spD K 2 rNeedPath) := by
  have cN : Cl P w K mg base 4 "need_wish" (spD K 1 rNeed) := ok_need_wish T
  have cP : Cl P w K mg base 2 "parts_of" (spL K 1 rParts) := ok_parts_of T
  have cW : Cl P w K mg base 1 "is_whole" (spD K 3 rWhole) := ok_is_whole T
  refine cl_of T.f_need_path sc_need_path (fun _ _ _ _ _ _ us hl => match us, hl with | [_, _], _ => rfl) (spD_len rfl) (fun f cdv A outer s H vs Q E hr h => ?_)
  obtain ⟨ds, r, _, hd, ⟨wi, x, p, ok, hf, hat, rfl, rfl⟩, q⟩ := h
  obtain ⟨v, u, rfl, hv, hu⟩ := hd.two
  have nd := sc_need_path.nd
  have hz := fits_size hf
  have hu0 : (A.deeper (envOfC "need_path" (defScope s_need_path) s.heap.objs.size f cdv)).units + 65 < cLine := by
    have := hr.un
    omega
  refine ⟨_, pss_cons (ps_expr (pe_cl cN hr (by decide) (pa_cons (pv 0) pa_nil)))
    (pss_cons (ps_if (PW.pt (pw_or (pt_not (pt_val (pe_callB call_isi rfl T.b_isinstance (by decide +kernel) (pa_cons (pv 1) (pa_cons (pe_ty (n := "tuple") T.b_tuple) pa_nil)))))
      (pw_or1 (pt_not (pt_val (pe_callB (cr_all rfl) rfl T.b_all (by decide +kernel) (pa_cons
        (pe_lc (own := [("place", 2)]) (g := gName 2) (tt := tYes) rfl nd (pi_tup (pv 1)) (blkOk_by (N := ["wish", "path", "place", "one", "part"]) (sc := defScope s_need_path) (by decide +kernel))
          (fun _ _ _ _ _ => pg_name (i := 2) nd rfl (Or.inl rfl)) (fun _ _ _ _ _ => pts_nil) (fun s0 H0 C0 cl0 fp0 => pe_cl cW (show Room 4 _ from hr) (by decide) (pa_cons (pv 2) (pa_cons pe_int (pa_cons pe_int pa_nil))))) pa_nil))))))) pss_never pss_nil)
    (pss_cons (ps_if (pt_cmpR (op_notInD hu0) (pv 1)
        (pe_lc (own := [("one", 3), ("part", 4)]) (g := gTup K 2 (gCons (gName 3) (gCons (gName 4) gNil))) (tt := tYes) rfl nd (pi_list (pe_cl cP hr (by decide) (pa_cons (pv 0) pa_nil)))
          (blkOk_by (N := ["wish", "path", "place", "one", "part"]) (sc := defScope s_need_path) (by decide +kernel))
          (fun _ _ _ _ _ => pg_tup rfl (pgs_cons (pg_name (i := 3) nd rfl (Or.inl rfl)) (pgs_cons (pg_name (i := 4) nd rfl (Or.inl rfl)) pgs_nil))) (fun _ _ _ _ _ => pts_nil)
          (fun _ _ _ _ _ => pv 3)) (by rfl)) pss_never pss_nil)
    (pss_one (ps_ret (pv 1))))), ?_⟩
  refine s_drop (K := K) (ed_call (E := E0) (R := rNeed) (ea_cons (ed_var rfl hv) ea_nil) rfl ⟨wi, ok, hf, rfl, rfl⟩) fun H1 s1 => ?_
  have e1 : EvD K (tVar 1) (start ["wish", "path", "place", "one", "part"] [v, u]) H1 (.tuple (p.map .int)) := ed_var rfl (Dp.same s1 _ _ hu)
  have ew : EvL K (tLc (iTup K (tVar 1)) (gName 2) tYes (tCall (spD K 3 rWhole) [] E0 (tCons (tVar 2) (tCons (tC (.int 1)) (tCons (tC (.int 2)) tNil)))) [2]) (start ["wish", "path", "place", "one", "part"] [v, u]) H1
      ((p.map fun n => decide (1 ≤ n) && decide (n ≤ 2)).map PyData.bool) := by
    rw [← whole_of]
    refine el_lcT e1 ?_ fun d hd => ?_
    · have := Wi.size_at hat
      rw [List.length_map]
      omega
    · obtain ⟨n, _, rfl⟩ := List.mem_map.mp hd
      intro z H' s' hz
      cases hz.intOf
      refine ⟨_, true, fun Q q => q, rfl, et_yes, ?_⟩
      rw [if_pos rfl]
      exact ⟨_, rfl, rfl, ed_call (ea_cons (ed_var rfl (.int _)) (ea_cons ed_int (ea_cons ed_int ea_nil))) rfl ⟨n, 1, 2, rfl, rfl⟩⟩
  have hall : (p.map fun n => decide (1 ≤ n) && decide (n ≤ 2)).all id = true := by
    rw [List.all_map, List.all_eq_true]
    intro n hn
    rcases Wi.at_place hat n hn with rfl | rfl <;> rfl
  have ea := ed_allL ew
  rw [hall] at ea
  refine s_pass (et_or (a := false) (b := false) (et_not (b := true) (et_B (ed_isi (K := K) (n := "tuple") e1 (by simp) (by simp) (show kitB "tuple" "tuple" = some true by decide +kernel)))) fun _ => et_not (b := true) (et_B ea)) fun H2 s2 => ?_
  have e2 : EvL K (tCall (spL K 1 rParts) [] E0 (tCons (tVar 0) tNil)) (start ["wish", "path", "place", "one", "part"] [v, u]) H2 (stD wi.pieces) :=
    el_call (ea_cons (ed_var rfl (Dp.same (s1.trans s2) _ _ hv)) ea_nil) rfl ⟨wi, ok, by omega, rfl, rfl⟩
  have e3 := el_fst (i := 3) (j := 4) e2.toD (size60 (by omega)) (by decide) (by simp [L2.start]) (by simp [L2.start])
  have e4 := ed_notInD (d := pD p) (e1.mono s2) e3.toD (pD_shaped p) (ways_shaped _)
  rw [way_in hat] at e4
  refine s_pass (et_test e4) fun H3 s3 => ?_
  exact ⟨_, rfl, q _ _ (s1.trans (s2.trans s3)) (Dp.same (s1.trans (s2.trans s3)) _ _ hu)⟩
end
end K3
set_option maxRecDepth 100000
set_option maxHeartbeats 4000000
/-! ## part_at, is_plain, worst, hardened, softened, replaced -/
namespace K3
open PySem PySem.Spec PyProof.Rows L2
section
variable {P : Program} {w : World} {K : PySem.W.Frag} {mg : Str → Option Value} {base : Heap} {H : Hp} {σ : L2.St} {ta : TE}
/-- wish and path, the path one of its own -/
def rAt (F : Wi → List Int → PyData) (ds : List PyData) (r : PyData) : Prop := ∃ (w x : Wi) (p : List Int), w.Ok ∧ fits w = true ∧ w.at p = some x ∧ ds = [w.dat, pD p] ∧ r = F w p
/-- the same, no more asked of the wish -/
def rAt0 (F : Wi → List Int → PyData) (ds : List PyData) (r : PyData) : Prop := ∃ (w x : Wi) (p : List Int), w.size ≤ 12 ∧ w.at p = some x ∧ ds = [w.dat, pD p] ∧ r = F w p
theorem ed_needPath {te1 te2 : TE} {E : XK} {wi x : Wi} {p : List Int} (ok : wi.Ok) (hf : fits wi = true) (hat : wi.at p = some x) (h1 : EvD K te1 σ H wi.dat) (h2 : EvD K te2 σ H (pD p)) : EvD K (tCall (spD K 2 rNeedPath) [] E (tCons te1 (tCons te2 tNil))) σ H (pD p) :=
  ed_call (ea_cons h1 (ea_cons h2 ea_nil)) rfl ⟨wi, x, p, ok, hf, hat, rfl, rfl⟩
theorem sc_part_at : FnScope ["wish", "path"] ["wish", "path"] (defScope s_part_at) := ⟨rfl, rfl, rfl, by decide +kernel, rfl, by decide +kernel, by decide +kernel⟩
theorem sc_is_plain : FnScope ["wish", "path"] ["wish", "path"] (defScope s_is_plain) := ⟨rfl, rfl, rfl, by decide +kernel, rfl, by decide +kernel, by decide +kernel⟩
theorem sc_worst_in : FnScope ["wish", "path"] ["wish", "path"] (defScope s_worst_in) := ⟨rfl, rfl, rfl, by decide +kernel, rfl, by decide +kernel, by decide +kernel⟩
theorem sc_worst : FnScope ["wish", "path"] ["wish", "path"] (defScope s_worst) := ⟨rfl, rfl, rfl, by decide +kernel, rfl, by decide +kernel, by decide +kernel⟩
theorem sc_hardened_of : FnScope ["wish", "path"] ["wish", "path"] (defScope s_hardened_of) := ⟨rfl, rfl, rfl, by decide +kernel, rfl, by decide +kernel, by decide +kernel⟩
theorem sc_hardened : FnScope ["wish", "path"] ["wish", "path"] (defScope s_hardened) := ⟨rfl, rfl, rfl, by decide +kernel, rfl, by decide +kernel, by decide +kernel⟩
def atD (w : Wi) (p : List Int) : PyData := ((w.at p).map Wi.dat).getD .none
def evenD (w : Wi) (p : List Int) : PyData := .bool (w.even p)
def worstD (w : Wi) (p : List Int) : PyData := (w.worst p).dat
def hardD (w : Wi) (p : List Int) : PyData := (w.put p (w.worst p)).dat
def softD (w : Wi) (p : List Int) : PyData := (w.put p (w.best p)).dat
/-- f(wish, path) = g(wish, need_path(wish, path)) -/
theorem ok_part_at (T : Tx K mg w) : Cl P w K mg base 6 "part_at" (spD K 2 (rAt atD)) := by
  have cN : Cl P w K mg base 5 "need_path" (spD K 2 rNeedPath) := ok_need_path T
  have cG : Cl P w K mg base 1 "part_in" (spD K 2 rPartIn) := ok_part_in T
  refine cl_of T.f_part_at sc_part_at (fun _ _ _ _ _ _ us hl => match us, hl with | [_, _], _ => rfl) (spD_len rfl) (fun f cdv A outer s H vs Q E hr h => ?_)
  obtain ⟨ds, r, _, hd, ⟨wi, x, p, ok, hf, hat, rfl, rfl⟩, q⟩ := h
  obtain ⟨v, u, rfl, hv, hu⟩ := hd.two
  refine ⟨_, pss_one (ps_ret (pe_cl cG hr (by decide) (pa_cons (pv 0) (pa_cons (pe_cl cN hr (by decide) (pa_cons (pv 0) (pa_cons (pv 1) pa_nil))) pa_nil)))), ?_⟩
  refine q_ret (K := K) (d := atD wi p) ?_ q
  exact ed_call (ea_cons (ed_var rfl hv) (ea_cons (ed_needPath ok hf hat (ed_var rfl hv) (ed_var rfl hu)) ea_nil)) rfl ⟨wi, x, p, hat, rfl, by rw [atD, hat]; rfl⟩
theorem ok_is_plain (T : Tx K mg w) : Cl P w K mg base 6 "is_plain" (spD K 2 (rAt evenD)) := by
  have cN : Cl P w K mg base 5 "need_path" (spD K 2 rNeedPath) := ok_need_path T
  have cG : Cl P w K mg base 1 "is_plain_in" (spD K 2 rPlainIn) := ok_is_plain_in T
  refine cl_of T.f_is_plain sc_is_plain (fun _ _ _ _ _ _ us hl => match us, hl with | [_, _], _ => rfl) (spD_len rfl) (fun f cdv A outer s H vs Q E hr h => ?_)
  obtain ⟨ds, r, _, hd, ⟨wi, x, p, ok, hf, hat, rfl, rfl⟩, q⟩ := h
  obtain ⟨v, u, rfl, hv, hu⟩ := hd.two
  refine ⟨_, pss_one (ps_ret (pe_cl cG hr (by decide) (pa_cons (pv 0) (pa_cons (pe_cl cN hr (by decide) (pa_cons (pv 0) (pa_cons (pv 1) pa_nil))) pa_nil)))), ?_⟩
  refine q_ret (K := K) (d := evenD wi p) ?_ q
  exact ed_call (ea_cons (ed_var rfl hv) (ea_cons (ed_needPath ok hf hat (ed_var rfl hv) (ed_var rfl hu)) ea_nil)) rfl ⟨wi, x, p, hat, rfl, rfl⟩
theorem ok_worst_in (T : Tx K mg w) : Cl P w K mg base 2 "worst_in" (spD K 2 (rAt0 worstD)) := by
  have cG : Cl P w K mg base 1 "is_plain_in" (spD K 2 rPlainIn) := ok_is_plain_in T
  refine cl_of T.f_worst_in sc_worst_in (fun _ _ _ _ _ _ us hl => match us, hl with | [_, _], _ => rfl) (spD_len rfl) (fun f cdv A outer s H vs Q E hr h => ?_)
  obtain ⟨ds, r, _, hd, ⟨wi, x, p, hz, hat, rfl, rfl⟩, q⟩ := h
  obtain ⟨v, u, rfl, hv, hu⟩ := hd.two
  refine ⟨_, pss_one (ps_ret (pe_ifExp (pt_val (pe_cl cG hr (by decide) (pa_cons (pv 0) (pa_cons (pv 1) pa_nil)))) (pe_tup (pa_cons (pe_k T.c_FALSE) pa_nil)) (pe_tup (pa_cons (pe_k T.c_TRUE) pa_nil)))), ?_⟩
  refine q_ret (K := K) (d := worstD wi p) ?_ q
  refine ed_if (c := wi.even p) (et_B (ed_call (ea_cons (ed_var rfl hv) (ea_cons (ed_var rfl hu) ea_nil)) rfl ⟨wi, x, p, hat, rfl, rfl⟩)) (fun z => ?_) fun z => ?_
  · have e : worstD wi p = .tuple [.str "false"] := by
      unfold worstD Wi.worst
      rw [if_pos z]
      rfl
    rw [e]
    exact ed_tup (ea_cons (ed_c (.str _)) ea_nil) (by show 1 ≤ 100000; decide)
  · have e : worstD wi p = .tuple [.str "true"] := by
      unfold worstD Wi.worst
      rw [if_neg (by rw [z]; decide)]
      rfl
    rw [e]
    exact ed_tup (ea_cons (ed_c (.str _)) ea_nil) (by show 1 ≤ 100000; decide)
theorem ok_worst (T : Tx K mg w) : Cl P w K mg base 6 "worst" (spD K 2 (rAt worstD)) := by
  have cN : Cl P w K mg base 5 "need_path" (spD K 2 rNeedPath) := ok_need_path T
  have cG : Cl P w K mg base 2 "worst_in" (spD K 2 (rAt0 worstD)) := ok_worst_in T
  refine cl_of T.f_worst sc_worst (fun _ _ _ _ _ _ us hl => match us, hl with | [_, _], _ => rfl) (spD_len rfl) (fun f cdv A outer s H vs Q E hr h => ?_)
  obtain ⟨ds, r, _, hd, ⟨wi, x, p, ok, hf, hat, rfl, rfl⟩, q⟩ := h
  obtain ⟨v, u, rfl, hv, hu⟩ := hd.two
  refine ⟨_, pss_one (ps_ret (pe_cl cG hr (by decide) (pa_cons (pv 0) (pa_cons (pe_cl cN hr (by decide) (pa_cons (pv 0) (pa_cons (pv 1) pa_nil))) pa_nil)))), ?_⟩
  refine q_ret (K := K) (d := worstD wi p) ?_ q
  exact ed_call (ea_cons (ed_var rfl hv) (ea_cons (ed_needPath ok hf hat (ed_var rfl hv) (ed_var rfl hu)) ea_nil)) rfl ⟨wi, x, p, (fits_size hf).1, hat, rfl, rfl⟩
theorem path_len {wi x : Wi} {p : List Int} (hz : wi.size ≤ 12) (hat : wi.at p = some x) : p.length ≤ 12 := by
  have := Wi.size_at hat
  omega
theorem ok_hardened_of (T : Tx K mg w) : Cl P w K mg base 14 "hardened_of" (spD K 2 (rAt0 hardD)) := by
  have cG : Cl P w K mg base 2 "worst_in" (spD K 2 (rAt0 worstD)) := ok_worst_in T
  have cU : Cl P w K mg base 13 "put_in" (spD K 3 (rPut 12)) := ok_put_in T 12
  refine cl_of T.f_hardened_of sc_hardened_of (fun _ _ _ _ _ _ us hl => match us, hl with | [_, _], _ => rfl) (spD_len rfl) (fun f cdv A outer s H vs Q E hr h => ?_)
  obtain ⟨ds, r, _, hd, ⟨wi, x, p, hz, hat, rfl, rfl⟩, q⟩ := h
  obtain ⟨v, u, rfl, hv, hu⟩ := hd.two
  refine ⟨_, pss_one (ps_ret (pe_cl cU hr (by decide) (pa_cons (pv 0) (pa_cons (pv 1) (pa_cons (pe_cl cG hr (by decide) (pa_cons (pv 0) (pa_cons (pv 1) pa_nil))) pa_nil))))), ?_⟩
  refine q_ret (K := K) (d := hardD wi p) ?_ q
  have e0 := ed_var (K := K) (σ := start ["wish", "path"] [v, u]) (i := 0) rfl hv
  have e1 := ed_var (K := K) (σ := start ["wish", "path"] [v, u]) (i := 1) rfl hu
  have ew : EvD K (tCall (spD K 2 (rAt0 worstD)) [] E0 (tCons (tVar 0) (tCons (tVar 1) tNil))) (start ["wish", "path"] [v, u]) H (wi.worst p).dat := ed_call (ea_cons e0 (ea_cons e1 ea_nil)) rfl ⟨wi, x, p, hz, hat, rfl, rfl⟩
  exact ed_call (ea_cons e0 (ea_cons e1 (ea_cons ew ea_nil))) rfl ⟨wi, x, wi.worst p, p, path_len hz hat, hat, rfl, rfl⟩
theorem ok_hardened (T : Tx K mg w) : Cl P w K mg base 15 "hardened" (spD K 2 (rAt hardD)) := by
  have cN : Cl P w K mg base 5 "need_path" (spD K 2 rNeedPath) := ok_need_path T
  have cG : Cl P w K mg base 14 "hardened_of" (spD K 2 (rAt0 hardD)) := ok_hardened_of T
  refine cl_of T.f_hardened sc_hardened (fun _ _ _ _ _ _ us hl => match us, hl with | [_, _], _ => rfl) (spD_len rfl) (fun f cdv A outer s H vs Q E hr h => ?_)
  obtain ⟨ds, r, _, hd, ⟨wi, x, p, ok, hf, hat, rfl, rfl⟩, q⟩ := h
  obtain ⟨v, u, rfl, hv, hu⟩ := hd.two
  refine ⟨_, pss_one (ps_ret (pe_cl cG hr (by decide) (pa_cons (pv 0) (pa_cons (pe_cl cN hr (by decide) (pa_cons (pv 0) (pa_cons (pv 1) pa_nil))) pa_nil)))), ?_⟩
  refine q_ret (K := K) (d := hardD wi p) ?_ q
  exact ed_call (ea_cons (ed_var rfl hv) (ea_cons (ed_needPath ok hf hat (ed_var rfl hv) (ed_var rfl hu)) ea_nil)) rfl ⟨wi, x, p, (fits_size hf).1, hat, rfl, rfl⟩
/-! ### softened -/
theorem sc_softened : FnScope ["wish", "path", "hard", "place"] ["wish", "path"] (defScope s_softened) := ⟨rfl, rfl, rfl, by decide +kernel, rfl, by decide +kernel, by decide +kernel⟩
theorem worst_eqv (wi : Wi) (p : List Int) : PyData.eqv (wi.worst p).dat (.tuple [.str "false"]) = wi.even p := by
  unfold Wi.worst
  cases wi.even p <;> decide +kernel
theorem worst_shaped (wi : Wi) (p : List Int) : SeqAt.shaped (wi.worst p).dat = true := dat_shaped (worst_ok wi p) (by rw [worst_size]; decide)
theorem false_shaped : SeqAt.shaped (.tuple [.str "false"]) = true := by decide +kernel
theorem ok_softened (T : Tx K mg w) : Cl P w K mg base 15 "softened" (spD K 2 (rAt softD)) := by
  have cN : Cl P w K mg base 5 "need_path" (spD K 2 rNeedPath) := ok_need_path T
  have cG : Cl P w K mg base 14 "hardened_of" (spD K 2 (rAt0 hardD)) := ok_hardened_of T
  have cU : Cl P w K mg base 13 "put_in" (spD K 3 (rPut 12)) := ok_put_in T 12
  refine cl_of T.f_softened sc_softened (fun _ _ _ _ _ _ us hl => match us, hl with | [_, _], _ => rfl) (spD_len rfl) (fun f cdv A outer s H vs Q E hr h => ?_)
  obtain ⟨ds, r, _, hd, ⟨wi, x, p, ok, hf, hat, rfl, rfl⟩, q⟩ := h
  obtain ⟨v, u, rfl, hv, hu⟩ := hd.two
  have nd := sc_softened.nd
  have hz := (fits_size hf).1
  have hu0 := hr.units
  refine ⟨_, pss_cons (ps_expr (pe_cl cN hr (by decide) (pa_cons (pv 0) (pa_cons (pv 1) pa_nil))))
    (pss_cons (ps_set (i := 2) nd rfl (Or.inl rfl) (pe_cl cG hr (by decide) (pa_cons (pv 0) (pa_cons (pv 1) pa_nil))))
    (pss_cons (ps_for PassesOwn.never rfl (pi_tup (pv 1)) (pg_name (i := 3) nd rfl (Or.inl rfl)) (pss_one (ps_set (i := 2) nd rfl (Or.inl rfl) (pe_ix ix_tup (pv 2) (pv 3) (fun _ _ => rfl)))))
    (pss_one (ps_ret (pe_cl cU hr (by decide) (pa_cons (pv 0) (pa_cons (pv 1) (pa_cons (pe_ifExp (pt_cmpR (op_eqD hu0) (pv 2) (pe_tup (pa_cons (pe_k T.c_FALSE) pa_nil)) (nomark _)) (pe_tup (pa_cons (pe_k T.c_TRUE) pa_nil)) (pe_tup (pa_cons (pe_k T.c_FALSE) pa_nil))) pa_nil)))))))), ?_⟩
  refine s_drop (K := K) (ed_needPath ok hf hat (ed_var rfl hv) (ed_var rfl hu)) fun H1 s1 => ?_
  refine s_set (K := K) (d := hardD wi p) (ed_call (ea_cons (ed_var rfl (Dp.same s1 _ _ hv)) (ea_cons (ed_var rfl (Dp.same s1 _ _ hu)) ea_nil)) rfl ⟨wi, x, p, hz, hat, rfl, rfl⟩) fun v2 H2 s2 h2 => ?_
  have s12 := s1.trans s2
  have hput := Wi.at_put (wi.worst p) hat
  refine s_forT (K := K) (ds := p.map .int) (ed_var rfl (Dp.same s12 _ _ hu)) fun H3 s3 => ⟨fun i σ' H' => ∃ v' a y, σ' = [some v, some u, some v', a] ∧ (wi.put p (wi.worst p)).at (p.take i) = some y ∧ Dp K H' v' y.dat, ⟨v2, none, _, rfl, ?_, Dp.same s3 _ _ h2⟩, ?_, ?_⟩
  · rw [List.take_zero, Wi.at_nil]
  · rintro i d z σ' H' hi s' ⟨v', a, y, rfl, hy, hv'⟩ hz
    obtain ⟨n, hn, rfl⟩ := path_get hi
    cases hz.intOf
    obtain ⟨k, hk, hk2⟩ := at_step hput hn hy
    obtain ⟨hn2, hg⟩ := kid_get hk
    refine q_set (K := K) (d := k.dat) (ed_ixT (i := n.toNat) (ds := y.items) (ed_dat rfl hv') (ed_var rfl (by rw [ofNat_toNat hn2]; exact .int _)) hg) fun v3 H4 s4 h4 => ?_
    exact ⟨s'.trans s4, v3, _, k, rfl, hk2, h4⟩
  · rintro σ' H' s' ⟨v', a, y, rfl, hy, hv'⟩
    rw [List.length_map, List.take_length, hput] at hy
    cases hy
    have s13 := s12.trans (s3.trans s')
    refine q_ret (K := K) (d := softD wi p) ?_ fun v4 H4 s4 h4 => q v4 H4 (s13.trans s4) h4
    have e0 : EvD K (tVar 0) [some v, some u, some v', a] H' wi.dat := ed_var rfl (Dp.same s13 _ _ hv)
    have e1 : EvD K (tVar 1) [some v, some u, some v', a] H' (pD p) := ed_var rfl (Dp.same s13 _ _ hu)
    have e2 : EvD K (tVar 2) [some v, some u, some v', a] H' (wi.worst p).dat := ed_var rfl hv'
    have e3 := et_test (ed_eqD e2 (ed_tup (ea_cons (ed_c (v := .str "false") (.str _)) ea_nil) (by show 1 ≤ 100000; decide)) (worst_shaped wi p) false_shaped)
    rw [worst_eqv] at e3
    refine ed_call (ds := [wi.dat, pD p, (wi.best p).dat]) (ea_cons e0 (ea_cons e1 (ea_cons (ed_if e3 (fun z => ?_) fun z => ?_) ea_nil))) rfl ⟨wi, x, wi.best p, p, path_len hz hat, hat, rfl, rfl⟩
    · have e : (wi.best p).dat = .tuple [.str "true"] := by
        unfold Wi.best
        rw [if_pos z]
        rfl
      rw [e]
      exact ed_tup (ea_cons (ed_c (.str _)) ea_nil) (by show 1 ≤ 100000; decide)
    · have e : (wi.best p).dat = .tuple [.str "false"] := by
        unfold Wi.best
        rw [if_neg (by rw [z]; decide)]
        rfl
      rw [e]
      exact ed_tup (ea_cons (ed_c (.str _)) ea_nil) (by show 1 ≤ 100000; decide)
/-! ### replaced, what comes out is a wish -/
def rRepl (ds : List PyData) (r : PyData) : Prop := ∃ (w x q : Wi) (p : List Int), w.Ok ∧ fits w = true ∧ w.at p = some x ∧ q.Ok ∧ fits q = true ∧ fits (w.put p q) = true ∧ ds = [w.dat, pD p, q.dat] ∧ r = (w.put p q).dat
theorem sc_replaced : FnScope ["wish", "path", "part"] ["wish", "path", "part"] (defScope s_replaced) := ⟨rfl, rfl, rfl, by decide +kernel, rfl, by decide +kernel, by decide +kernel⟩
theorem ok_replaced (T : Tx K mg w) : Cl P w K mg base 14 "replaced" (spD K 3 rRepl) := by
  have cN : Cl P w K mg base 5 "need_path" (spD K 2 rNeedPath) := ok_need_path T
  have cW : Cl P w K mg base 4 "need_wish" (spD K 1 rNeed) := ok_need_wish T
  have cU : Cl P w K mg base 13 "put_in" (spD K 3 (rPut 12)) := ok_put_in T 12
  refine cl_of T.f_replaced sc_replaced (fun _ _ _ _ _ _ us hl => match us, hl with | [_, _, _], _ => rfl) (spD_len rfl) (fun f cdv A outer s H vs Q E hr h => ?_)
  obtain ⟨ds, r, _, hd, ⟨wi, x, qi, p, ok, hf, hat, okq, hfq, hff, rfl, rfl⟩, q⟩ := h
  obtain ⟨v, u, t, rfl, hv, hu, ht⟩ := hd.three
  have hz := (fits_size hf).1
  refine ⟨_, pss_cons (ps_expr (pe_cl cN hr (by decide) (pa_cons (pv 0) (pa_cons (pv 1) pa_nil))))
    (pss_cons (ps_expr (pe_cl cW hr (by decide) (pa_cons (pv 2) pa_nil)))
    (pss_one (ps_ret (pe_cl cW hr (by decide) (pa_cons (pe_cl cU hr (by decide) (pa_cons (pv 0) (pa_cons (pv 1) (pa_cons (pv 2) pa_nil)))) pa_nil))))), ?_⟩
  refine s_drop (K := K) (ed_needPath ok hf hat (ed_var rfl hv) (ed_var rfl hu)) fun H1 s1 => ?_
  refine s_drop (K := K) (ed_call (E := E0) (R := rNeed) (ea_cons (ed_var rfl (Dp.same s1 _ _ ht)) ea_nil) rfl ⟨qi, okq, hfq, rfl, rfl⟩) fun H2 s2 => ?_
  have s12 := s1.trans s2
  refine q_ret (K := K) (d := (wi.put p qi).dat) ?_ fun v4 H4 s4 h4 => q v4 H4 (s12.trans s4) h4
  have eu : EvD K (tCall (spD K 3 (rPut 12)) [] E0 (tCons (tVar 0) (tCons (tVar 1) (tCons (tVar 2) tNil)))) (start ["wish", "path", "part"] [v, u, t]) H2 (wi.put p qi).dat :=
    ed_call (ea_cons (ed_var rfl (Dp.same s12 _ _ hv)) (ea_cons (ed_var rfl (Dp.same s12 _ _ hu)) (ea_cons (ed_var rfl (Dp.same s12 _ _ ht)) ea_nil))) rfl ⟨wi, x, qi, p, path_len hz hat, hat, rfl, rfl⟩
  exact ed_call (ea_cons eu ea_nil) rfl ⟨wi.put p qi, Wi.Ok.put ok okq, hff, rfl, rfl⟩
end
end K3
set_option maxRecDepth 100000
set_option maxHeartbeats 4000000
/-! ## the law's own walking: _law_pieces, _law_with, _law_is_even -/
namespace K3
open PySem PySem.Spec PyProof.Rows L2
section
variable {P : Program} {w : World} {K : PySem.W.Frag} {mg : Str → Option Value} {base : Heap} {H : Hp} {σ : L2.St} {ta tb : TE} {D : Ends} {us ts : L2.TS} {g : TG} {ds es : List PyData} {as : TA}
theorem el_cat (h1 : EvL K ta σ H ds) (h2 : EvL K tb σ H es) (hl : ds.length + es.length ≤ 100000) : EvL K (tOp rCat ta tb) σ H (ds ++ es) := fun H1 s1 Q q =>
  h1 H1 s1 _ fun p xs H2 s2 np hp hx => h2 H2 (s1.trans s2) _ fun p' ys H3 s3 np' hp' hy =>
    ⟨p, p', xs, ys, rfl, rfl, s3 _ _ hp, hp', by rw [hx.len, hy.len]; exact sz100 hl, fun l hl => q l _ _ ((s2.trans s3).trans (same_new hl _)) ((s2.trans s3).free hl) upd_same (DpAll.same (same_new hl _) _ _ ((DpAll.same s3 _ _ hx).append hy))⟩
theorem el_catV {i : Nat} {l : Addr} {xs : List V} (hv : σ[i]? = some (some (.ref l))) (hp : H l = some (.lst xs)) (hx : DpAll K H xs ds) (h2 : EvL K tb σ H es) (hl : ds.length + es.length ≤ 100000) : EvL K (tOp rCat (tVar i) tb) σ H (ds ++ es) := fun H1 s1 Q q =>
  ⟨_, hv, h2 H1 s1 _ fun p' ys H3 s3 np' hp' hy =>
    ⟨l, p', xs, ys, rfl, rfl, s3 _ _ (s1 _ _ hp), hp', by rw [hx.len, hy.len]; exact sz100 hl, fun l hl => q l _ _ (s3.trans (same_new hl _)) (s3.free hl) upd_same (DpAll.same (same_new hl _) _ _ ((DpAll.same (s1.trans s3) _ _ hx).append hy))⟩⟩
/-- for over range(lo, up) -/
theorem s_forR {lo up : Int} (ha : EvDA K as σ H [.int lo, .int up]) (h1 : 0 ≤ lo) (h2 : lo ≤ up) (h3 : up ≤ 100000)
    (k : ∀ H1, Same H H1 → ∃ Pv : Nat → L2.St → Hp → Prop, Pv 0 σ H1 ∧ (∀ i σ' H', i < (up - lo).toNat → Pv i σ' H' → g (.int (lo + i)) σ' H' fun σ2 H2 => ts { D with nx := Pv (i + 1), ct := Pv (i + 1), bk := us D } σ2 H2) ∧
      ∀ σ' H', Pv (up - lo).toNat σ' H' → us D σ' H') : tSeq (tFor (iRng2 as) g ts) us D σ H :=
  ha H (Same.refl _) _ fun v H1 s1 hv => by
    obtain ⟨x, y, rfl, hx, hy⟩ := hv.two
    cases hx.intOf
    cases hy.intOf
    obtain ⟨Pv, h0, hs, hd⟩ := k H1 s1
    exact ⟨lo, up, rfl, ⟨by omega, by omega, by omega, by omega⟩, for_range (lo := lo) (n := (up - lo).toNat) Pv h0 hs hd⟩
/-! ### _law_pieces -/
def rPieces (n : Nat) (ds rs : List PyData) : Prop := ∃ w : Wi, w.Ok ∧ w.size ≤ n ∧ ds = [w.dat] ∧ rs = stD w.pieces
theorem sc_law_pieces : FnScope ["hope", "found", "place", "path", "part"] ["hope"] (defScope s_law_pieces) := ⟨rfl, rfl, rfl, by decide +kernel, rfl, by decide +kernel, by decide +kernel⟩
def under (n : Int) (l : List (List Int × Wi)) : List (List Int × Wi) := l.map fun p => (n :: p.1, p.2)
def pref (w : Wi) (i : Nat) : List (List Int × Wi) := ([], w) :: (w.kids.take i).flatMap fun k => under k.1 k.2.pieces
theorem pref_all (w : Wi) {i : Nat} (h : w.kids.length ≤ i) : pref w i = w.pieces := by
  unfold pref
  rw [List.take_of_length_le h]
  cases w <;> simp [Wi.kids, Wi.pieces, under]
theorem pref_succ {w z : Wi} {i : Nat} {n : Int} (h : w.kids[i]? = some (n, z)) : pref w (i + 1) = pref w i ++ under n z.pieces := by
  unfold pref
  rw [take_snoc h, List.flatMap_append]
  simp
theorem kids_at {w : Wi} {i : Nat} (hw : w.word ≠ "mark") (h : i < w.rest.length) : ∃ z, w.kids[i]? = some (1 + (i : Int), z) ∧ w.items[i + 1]? = some z.dat ∧ (w.Ok → z.Ok) ∧ z.size < w.size := by
  cases w with
  | mark n => exact absurd rfl hw
  | nul c => simp [Wi.rest] at h
  | un c f =>
    have e : i = 0 := by simpa [Wi.rest] using h
    subst e
    exact ⟨f, rfl, rfl, fun o => o.2, by simp [Wi.size]⟩
  | bi c f g =>
    have e : i = 0 ∨ i = 1 := by
      have : i < 2 := by simpa [Wi.rest] using h
      omega
    rcases e with rfl | rfl
    · exact ⟨f, rfl, rfl, fun o => o.2.1, by simp only [Wi.size]; omega⟩
    · exact ⟨g, rfl, rfl, fun o => o.2.2, by simp only [Wi.size]; omega⟩
theorem kids_rest {w : Wi} (hw : w.word ≠ "mark") : w.kids.length = w.rest.length := by
  cases w with
  | mark n => exact absurd rfl hw
  | _ => rfl
def underF (n : Int) : PyData → Option PyData
  | .tuple [.tuple ps, k] => some (.tuple [.tuple (.int n :: ps), k])
  | _ => none
theorem under_of (n : Int) (l : List (List Int × Wi)) : (stD l).filterMap (underF n) = stD (under n l) := by
  induction l with
  | nil => rfl
  | cons x l ih =>
    show (prD x :: stD l).filterMap (underF n) = _
    rw [List.filterMap_cons]
    show (prD (n :: x.1, x.2) :: (stD l).filterMap (underF n)) = _
    rw [ih]
    rfl
theorem under_len (n : Int) (l : List (List Int × Wi)) : (under n l).length = l.length := by simp [under]
theorem pref_len (w : Wi) (i : Nat) : (pref w i).length ≤ w.size := by
  cases w with
  | mark n => simp [pref, Wi.kids, Wi.size]
  | nul c => simp [pref, Wi.kids, Wi.size]
  | un c f =>
    cases i with
    | zero => simp [pref, Wi.kids, Wi.size]
    | succ i => simp [pref, Wi.kids, Wi.size, under_len, Wi.pieces_len]
  | bi c f g =>
    match i with
    | 0 => simp [pref, Wi.kids, Wi.size]
    | 1 =>
      simp [pref, Wi.kids, Wi.size, under_len, Wi.pieces_len]
    | i + 2 =>
      simp [pref, Wi.kids, Wi.size, under_len, Wi.pieces_len]
theorem ok_law_pieces (T : Tx K mg w) : ∀ n, n ≤ 60 → Cl P w K mg base (n + 1) "_law_pieces" (spL K 1 (rPieces n))
  | 0, _ => by
    refine cl_of T.f_law_pieces sc_law_pieces (fun _ _ _ _ _ _ us hl => match us, hl with | [_], _ => rfl) (spL_len rfl) (fun f cdv A outer s H vs Q E hr h => ?_)
    obtain ⟨ds, r, _, hd, ⟨wi, ok, hz, rfl, rfl⟩, q⟩ := h
    have := wi.size_pos
    omega
  | n + 1, hn => by
    have cS : Cl P w K mg base (n + 1) "_law_pieces" (spL K 1 (rPieces n)) := ok_law_pieces T n (by omega)
    refine cl_of T.f_law_pieces sc_law_pieces (fun _ _ _ _ _ _ us hl => match us, hl with | [_], _ => rfl) (spL_len rfl) (fun f cdv A outer s H vs Q E hr h => ?_)
    obtain ⟨ds, r, _, hd, ⟨wi, ok, hz, rfl, rfl⟩, q⟩ := h
    obtain ⟨v, rfl, hv⟩ := hd.one
    have nd := sc_law_pieces.nd
    refine ⟨_, pss_cons (ps_set (i := 1) nd rfl (Or.inl rfl) (pe_lst (pa_cons (pe_tup (pa_cons (pe_tup pa_nil) (pa_cons (pv 0) pa_nil))) pa_nil)))
      (pss_cons (ps_for PassesOwn.never rfl (pi_range2 rfl T.b_range (pa_cons pe_int (pa_cons (pe_callB call_len_seq rfl T.b_len PySem.boot_len (pa_cons (pv 0) pa_nil)) pa_nil))) (pg_name (i := 2) nd rfl (Or.inr rfl))
        (pss_one (ps_if (pt_cmpR op_ne (pe_ix ix_tup (pv 0) pe_int (fun _ _ => rfl)) pe_str (nomark _))
          (pss_one (ps_set (i := 1) nd rfl (Or.inl rfl) (pe_op op_cat (pv 1)
            (pe_lc (own := [("path", 3), ("part", 4)]) (g := gTup K 2 (gCons (gName 3) (gCons (gName 4) gNil))) (tt := tYes) rfl nd (pi_list (pe_cl cS hr (Nat.le_refl _) (pa_cons (pe_ix ix_tup (pv 0) (pv 2) (fun _ _ => rfl)) pa_nil)))
              (blkOk_by (N := ["hope", "found", "place", "path", "part"]) (sc := defScope s_law_pieces) (by decide +kernel))
              (fun _ _ _ _ _ => pg_tup rfl (pgs_cons (pg_name (i := 3) nd rfl (Or.inl rfl)) (pgs_cons (pg_name (i := 4) nd rfl (Or.inl rfl)) pgs_nil))) (fun _ _ _ _ _ => pts_nil)
              (fun _ _ _ _ _ => pe_tup (pa_cons (pe_op (r := rCatA K) op_catA (pe_tup (pa_cons (pv 2) pa_nil)) (pv 3)) (pa_cons (pv 4) pa_nil))))))) pss_nil)))
      (pss_one (ps_ret (pv 1)))), ?_⟩
    have lsz : wi.size ≤ 60 := by omega
    refine s_setL (K := K) (ds := [prD ([], wi)]) (el_lst (ea_cons (ed_tup (ds := [pD [], wi.dat]) (ea_cons (ed_tup ea_nil (by show 0 ≤ 100000; decide)) (ea_cons (ed_var rfl hv) ea_nil)) (by show 2 ≤ 100000; decide)) ea_nil) (by show 1 ≤ 100000; decide)) fun l xs H1 s1 nl hl hx => ?_
    have d0 : EvD K (tVar 0) ((start ["hope", "found", "place", "path", "part"] [v]).set 1 (some (.ref l))) H1 (.tuple wi.items) := ed_dat rfl (Dp.same s1 _ _ hv)
    refine s_forR (K := K) (lo := 1) (up := (wi.items.length : Int)) (ea_cons ed_int (ea_cons (ed_lenT d0) ea_nil)) (by decide) (by simp only [List.length_cons]; omega) (by have := rest_small wi; simp only [List.length_cons]; omega) fun H2 s2 => ?_
    refine ⟨fun i σ' H' => ∃ l xs a2 a3 a4, σ' = [some v, some (.ref l), a2, a3, a4] ∧ Same H H' ∧ H l = none ∧ H' l = some (.lst xs) ∧ DpAll K H' xs (stD (pref wi i)), ⟨l, xs, none, none, none, rfl, s1.trans s2, nl, s2 _ _ hl, ?_⟩, ?_, ?_⟩
    · exact DpAll.same s2 _ _ hx
    · rintro i σ' H' hi ⟨l', xs', a2, a3, a4, rfl, s', nl', hl', hx'⟩
      have hi2 : i < wi.rest.length := by
        simp only [List.length_cons] at hi
        omega
      have d0 : EvD K (tVar 0) [some v, some (.ref l'), some (.int (1 + (i : Int))), a3, a4] H' (.tuple wi.items) := ed_dat rfl (Dp.same s' _ _ hv)
      refine q_if (et_test (ed_neS (x := wi.word) (y := "mark") (ed_ixT (i := 0) d0 ed_int rfl) (ed_str (K := K)))) (fun z H3 s3 => ?_) fun z H3 s3 => ?_
      · have hne : wi.word ≠ "mark" := by simpa using z
        obtain ⟨k, hk, hg, hok, hkz⟩ := kids_at hne hi2
        have e2 : EvD K (tVar 2) [some v, some (.ref l'), some (.int (1 + (i : Int))), a3, a4] H3 (.int ((i + 1 : Nat) : Int)) := by
          have e : ((i + 1 : Nat) : Int) = 1 + (i : Int) := by omega
          rw [e]
          exact ed_var rfl (.int _)
        have ek : EvD K (tOp (rIxT K) (tVar 0) (tVar 2)) [some v, some (.ref l'), some (.int (1 + (i : Int))), a3, a4] H3 k.dat := ed_ixT (i := i + 1) (d0.mono s3) e2 hg
        have ec : EvL K (tCall (spL K 1 (rPieces n)) [] E0 (tCons (tOp (rIxT K) (tVar 0) (tVar 2)) tNil)) [some v, some (.ref l'), some (.int (1 + (i : Int))), a3, a4] H3 (stD k.pieces) :=
          el_call (ea_cons ek ea_nil) rfl ⟨k, hok ok, by omega, rfl, rfl⟩
        have hp1 := pref_succ hk
        refine q_setL (K := K) (ds := stD (pref wi i) ++ stD (under (1 + (i : Int)) k.pieces)) (el_catV rfl (s3 _ _ hl') (DpAll.same s3 _ _ hx') ?_ ?_) fun p ys H4 s4 np hp hy => ?_
        · rw [← under_of]
          refine el_lc ec.toD ?_ fun d hd => ?_
          · rw [stD, List.length_map, Wi.pieces_len]
            omega
          obtain ⟨z, hz, rfl⟩ := List.mem_map.mp hd
          intro x H5 s5 hx
          obtain ⟨a, b, ha, hb, g⟩ := g_pair (i := 3) (j := 4) hx
          refine ⟨_, true, fun Q q => g _ Q q, wipe2 (by decide) (by simp) (by simp), et_yes, ?_⟩
          rw [if_pos rfl]
          refine ⟨.tuple [.tuple (.int (1 + (i : Int)) :: z.1.map .int), z.2.dat], rfl, prD_tup ((1 + (i : Int)) :: z.1, z.2), ?_⟩
          have hzl : z.1.length ≤ 60 := by
            have h1 := (Wi.mem_pieces k z.1 z.2).mp hz
            have h2 := Wi.size_at h1
            omega
          have w2 : EvD K (tVar 2) (((wipe [some v, some (.ref l'), some (.int (1 + (i : Int))), a3, a4] [3, 4]).set 3 (some a)).set 4 (some b)) H5 (.int (1 + (i : Int))) := ed_var rfl (.int _)
          exact ed_tup (ea_cons (ed_catA (ed_tup (ea_cons w2 ea_nil) (by show 1 ≤ 100000; decide)) (ed_var (d := .tuple (z.1.map .int)) (at_i (by decide) (by simp)) ha) (by simp only [List.length_map, List.length_cons, List.length_nil]; omega)) (ea_cons (ed_var (at_j (by simp)) hb) ea_nil)) (by show 2 ≤ 100000; decide)
        · have h1 := pref_len wi (i + 1)
          rw [hp1, List.length_append] at h1
          simp only [stD, List.length_map]
          omega
        · refine ⟨p, ys, _, _, _, rfl, s'.trans (s3.trans s4), (s'.trans s3).free np, hp, ?_⟩
          rw [hp1, stD_append]
          exact hy
      · refine ⟨l', xs', _, _, _, rfl, s'.trans s3, nl', s3 _ _ hl', ?_⟩
        have hm : wi.word = "mark" := by simpa using z
        have e : pref wi (i + 1) = pref wi i := by
          rcases mark_only ok with ⟨m, rfl, _⟩ | hne
          · simp [pref, Wi.kids]
          · exact absurd hm hne
        rw [e]
        exact DpAll.same s3 _ _ hx'
    · rintro σ' H' ⟨l', xs', a2, a3, a4, rfl, s', nl', hl', hx'⟩
      have e : pref wi (((wi.items.length : Nat) : Int) - 1).toNat = wi.pieces := by
        refine pref_all wi ?_
        rcases mark_only ok with ⟨m, rfl, _⟩ | hne
        · exact Nat.zero_le _
        · rw [kids_rest hne]
          simp only [List.length_cons]
          omega
      rw [e] at hx'
      exact ⟨_, rfl, q l' xs' H' s' nl' hl' hx'⟩
/-! ### _law_with -/
theorem sc_law_with : FnScope ["hope", "path", "part", "place"] ["hope", "path", "part"] (defScope s_law_with) := ⟨rfl, rfl, rfl, by decide +kernel, rfl, by decide +kernel, by decide +kernel⟩
theorem ok_law_with (T : Tx K mg w) : ∀ n, Cl P w K mg base (n + 1) "_law_with" (spD K 3 (rPut n))
  | 0 => by
    refine cl_of T.f_law_with sc_law_with (fun _ _ _ _ _ _ us hl => match us, hl with | [_, _, _], _ => rfl) (spD_len rfl) (fun f cdv A outer s H vs Q E hr h => ?_)
    obtain ⟨ds, r, _, hd, ⟨wi, x, qi, p, hn, hat, rfl, rfl⟩, q⟩ := h
    obtain ⟨v, u, t, rfl, hv, hu, ht⟩ := hd.three
    have hu0 := hr.units
    have hp : p = [] := List.eq_nil_of_length_eq_zero (by omega)
    subst hp
    refine ⟨_, pss_cons (ps_if (pt_cmpR (op_eqD hu0) (pv 1) (pe_tup pa_nil) (nomark _)) (pss_one (ps_ret (pv 2))) pss_nil) pss_never, ?_⟩
    refine s_take (et_test (K := K) (b := true) ?_) fun H2 s2 => ?_
    · exact ed_eqD (K := K) (d := pD []) (ed_var rfl hu) (ed_tup ea_nil (by show 0 ≤ 100000; decide)) (pD_shaped _) nil_shaped
    · refine ⟨_, rfl, q _ _ s2 ?_⟩
      rw [Wi.put_nil]
      exact Dp.same s2 _ _ ht
  | n + 1 => by
    have cP : Cl P w K mg base (n + 1) "_law_with" (spD K 3 (rPut n)) := ok_law_with T n
    refine cl_of T.f_law_with sc_law_with (fun _ _ _ _ _ _ us hl => match us, hl with | [_, _, _], _ => rfl) (spD_len rfl) (fun f cdv A outer s H vs Q E hr h => ?_)
    obtain ⟨ds, r, _, hd, ⟨wi, x, qi, p, hn, hat, rfl, rfl⟩, q⟩ := h
    obtain ⟨v, u, t, rfl, hv, hu, ht⟩ := hd.three
    have hu0 := hr.units
    have nd := sc_law_with.nd
    refine ⟨_, pss_cons (ps_if (pt_cmpR (op_eqD hu0) (pv 1) (pe_tup pa_nil) (nomark _)) (pss_one (ps_ret (pv 2))) pss_nil)
      (pss_cons (ps_set (i := 3) nd rfl (Or.inl rfl) (pe_ix ix_tup (pv 1) pe_int (fun _ _ => rfl)))
      (pss_one (ps_ret (pe_op op_catA (pe_op op_catA (pe_slice sl_tupA (pv 0) po_none (po_some (pv 3)))
        (pe_tup (pa_cons (pe_cl cP hr (Nat.le_refl _) (pa_cons (pe_ix ix_tup (pv 0) (pv 3) (fun _ _ => rfl)) (pa_cons (pe_slice sl_tupA (pv 1) (po_some pe_int) po_none) (pa_cons (pv 2) pa_nil)))) pa_nil)))
        (pe_slice sl_tupA (pv 0) (po_some (pe_op op_add (pv 3) pe_int)) po_none))))), ?_⟩
    have e1 : EvD K (tVar 1) (start ["hope", "path", "part", "place"] [v, u, t]) H (pD p) := ed_var rfl hu
    have ec := et_test (ed_eqD (K := K) e1 (ed_tup ea_nil (by show 0 ≤ 100000; decide)) (pD_shaped _) nil_shaped)
    rw [pD_nil_eqv] at ec
    cases p with
    | nil =>
      refine s_take ec fun H2 s2 => ?_
      refine ⟨_, rfl, q _ _ s2 ?_⟩
      rw [Wi.put_nil]
      exact Dp.same s2 _ _ ht
    | cons m p =>
      refine s_pass ec fun H2 s2 => ?_
      have e1' : EvD K (tVar 1) (start ["hope", "path", "part", "place"] [v, u, t]) H2 (.tuple (.int m :: p.map .int)) := e1.mono s2
      refine s_set (K := K) (d := .int m) (ed_ixT (i := 0) e1' ed_int rfl) fun v3 H3 s3 h3 => ?_
      cases h3.intOf
      obtain ⟨z, hz, hzp, hput⟩ := put_step (q := qi) hat
      obtain ⟨hm2, hg⟩ := kid_get hz
      have s23 := s2.trans s3
      have d0 : EvD K (tVar 0) ((start ["hope", "path", "part", "place"] [v, u, t]).set 3 (some (.int m))) H3 (.tuple wi.items) := ed_dat rfl (Dp.same s23 _ _ hv)
      have d1 : EvD K (tVar 1) ((start ["hope", "path", "part", "place"] [v, u, t]).set 3 (some (.int m))) H3 (.tuple (.int m :: p.map .int)) := ed_var rfl (Dp.same s23 _ _ hu)
      have d2 : EvD K (tVar 2) ((start ["hope", "path", "part", "place"] [v, u, t]).set 3 (some (.int m))) H3 qi.dat := ed_var rfl (Dp.same s23 _ _ ht)
      have d3 : EvD K (tVar 3) ((start ["hope", "path", "part", "place"] [v, u, t]).set 3 (some (.int m))) H3 (.int ((m.toNat : Nat) : Int)) := ed_var rfl (by rw [ofNat_toNat hm2]; exact .int _)
      have d4 : EvD K (tOp (rI0 fun i j => .int (i + j)) (tVar 3) (tC (.int 1))) ((start ["hope", "path", "part", "place"] [v, u, t]).set 3 (some (.int m))) H3 (.int ((m.toNat + 1 : Nat) : Int)) :=
        ed_I0 d3 (ed_int (i := 1)) fun _ => .int _
      refine q_ret (K := K) (d := (wi.put (m :: p) qi).dat) ?_ fun v4 H4 s4 h4 => q v4 H4 (s23.trans s4) h4
      have e6 : (wi.put (m :: p) qi).dat = .tuple ((wi.items.take m.toNat ++ [(z.put p qi).dat]) ++ wi.items.drop (m.toNat + 1)) := by
        rw [hput]
        simp
      rw [e6]
      have ec2 := ed_call (K := K) (E := E0) (R := rPut n) (ea_cons (ed_ixT d0 d3 hg) (ea_cons (ed_slFrom (n := 1) d1 (eo_some (K := K) ed_int)) (ea_cons d2 ea_nil))) rfl ⟨z, x, qi, p, by simpa using hn, hzp, rfl, rfl⟩
      have := rest_small wi
      refine ed_catA (ed_catA (ed_slTo d0 (eo_some d3)) (ed_tup (ea_cons ec2 ea_nil) (by show 1 ≤ 100000; decide)) ?_) (ed_slFrom d0 (eo_some d4)) ?_
      · simp only [List.length_take, List.length_cons, List.length_nil]
        omega
      · simp only [List.length_append, List.length_take, List.length_cons, List.length_drop, List.length_nil]
        omega
/-! ### _law_is_even -/
theorem sc_law_is_even : FnScope ["hope", "path", "count", "place"] ["hope", "path"] (defScope s_law_is_even) := ⟨rfl, rfl, rfl, by decide +kernel, rfl, by decide +kernel, by decide +kernel⟩
theorem ok_law_is_even (T : Tx K mg w) : Cl P w K mg base 1 "_law_is_even" (spD K 2 rPlainIn) := by
  refine cl_of T.f_law_is_even sc_law_is_even (fun _ _ _ _ _ _ us hl => match us, hl with | [_, _], _ => rfl) (spD_len rfl) (fun f cdv A outer s H vs Q E hr h => ?_)
  obtain ⟨ds, r, _, hd, ⟨wi, x, p, hat, rfl, rfl⟩, q⟩ := h
  obtain ⟨v, u, rfl, hv, hu⟩ := hd.two
  have nd := sc_law_is_even.nd
  refine ⟨_, pss_cons (ps_set (i := 2) nd rfl (Or.inl rfl) pe_int) (pss_cons (ps_for PassesOwn.never rfl (pi_tup (pv 1)) (pg_name (i := 3) nd rfl (Or.inl rfl))
      (pss_cons (ps_set (i := 2) nd rfl (.inl rfl) (pe_op op_add (pv 2) (pe_callTy call_int1 rfl T.b_int (by decide +kernel) (pa_cons (pe_cmpR op_eq (pe_ix ix_tup (pv 0) pe_int (fun _ _ => rfl)) pe_str (nomark _)) pa_nil))))
      (pss_one (ps_set (i := 0) nd rfl (Or.inl rfl) (pe_ix ix_tup (pv 0) (pv 3) (fun _ _ => rfl))))))
    (pss_one (ps_ret (pe_cmpR op_eq (pe_op op_mod (pe_callTy call_int1 rfl T.b_int (by decide +kernel) (pa_cons (pv 2) pa_nil)) pe_int) pe_int (nomark _))))), ?_⟩
  refine s_set (K := K) ed_int fun v0 H0 s0 h0 => ?_
  cases h0.intOf
  refine s_forT (K := K) (ds := p.map .int) (ed_var rfl (Dp.same s0 _ _ hu)) fun H1 s1 => ⟨fun i σ' H' => ∃ v' a y, σ' = [some v', some u, some (.int ((wi.noes (p.take i) : Nat) : Int)), a] ∧ wi.at (p.take i) = some y ∧ Dp K H' v' y.dat, ⟨v, none, wi, ?_, ?_, Dp.same (s0.trans s1) _ _ hv⟩, ?_, ?_⟩
  · rw [List.take_zero, Wi.noes_nil]
    rfl
  · rw [List.take_zero, Wi.at_nil]
  · rintro i d z σ' H' hi s' ⟨v', a, y, rfl, hy, hv'⟩ hz
    obtain ⟨n, hn, rfl⟩ := path_get hi
    cases hz.intOf
    obtain ⟨k, hk, hk2⟩ := at_step hat hn hy
    obtain ⟨hn2, hg⟩ := kid_get hk
    refine s_set (K := K) (ed_I0 (g := fun i j => .int (i + j)) (ed_var (i := 2) rfl (.int _)) (ed_intB (ed_eqS (x := y.word) (y := "no") (ed_ixT (i := 0) (ds := y.items) (ed_dat rfl hv') ed_int rfl) ed_str)) fun _ => .int _) fun vc H2 s2 hc => ?_
    cases hc.intOf
    refine q_set (K := K) (d := k.dat) (ed_ixT (i := n.toNat) (ds := y.items) (ed_dat rfl (Dp.same s2 _ _ hv')) (ed_var rfl (by rw [ofNat_toNat hn2]; exact .int _)) hg) fun v2 H3 s3 h3 => ?_
    refine ⟨s'.trans (s2.trans s3), v2, some (.int n), k, ?_, hk2, h3⟩
    have e : p.take (i + 1) = p.take i ++ [n] := take_snoc hn
    have e2 := noes_snoc (p.take i) hy hk
    rw [e, e2]
    have e3 : ((wi.noes (p.take i) + (if y.word = "no" then 1 else 0) : Nat) : Int) = ((wi.noes (p.take i) : Nat) : Int) + (if decide (y.word = "no") = true then 1 else 0) := by
      by_cases z : y.word = "no" <;> simp [z]
    rw [e3]
    rfl
  · rintro σ' H' s' ⟨v', a, y, rfl, hy, hv'⟩
    have el : p.take (p.map PyData.int).length = p := by rw [List.length_map, List.take_length]
    rw [el]
    refine q_ret (K := K) (d := .bool (wi.even p)) ?_ fun v4 H4 s4 h4 => q v4 H4 (s0.trans (s1.trans (s'.trans s4))) h4
    have e1 : wi.even p = decide ((wi.noes p : Int) % 2 = 0) := by
      rw [even_of]
      rfl
    rw [e1]
    exact ed_eqI (ed_I (K := K) (g := fun i j => .int (i % j)) (ed_int1 (ed_var (i := 2) rfl (.int _))) (ed_int (i := 2)) (by decide) fun _ => .int _) ed_int
end
end K3
set_option maxRecDepth 100000
set_option maxHeartbeats 4000000
/-! ## timed_of, timed_parts, _law_timed -/
namespace K3
open PySem PySem.Spec PyProof.Rows L2
section
variable {P : Program} {w : World} {K : PySem.W.Frag} {mg : Str → Option Value} {base : Heap} {H : Hp} {σ : L2.St} {ta tb : TE} {D : Ends} {us ts : L2.TS} {g : TG} {ds es : List PyData} {as : TA}
def timedB (c : Str) : Bool := inV (.str c) (timedW.map V.str)
def tmStep (acc : List Wi) (x : List Int × Wi) : List Wi := if (timedB x.2.word && !(acc.map Wi.dat).any fun z => PyData.eqv z x.2.dat) = true then acc ++ [x.2] else acc
def timedL (l : List (List Int × Wi)) : List Wi := l.foldl tmStep []
theorem timedL_succ {l : List (List Int × Wi)} {i : Nat} {x : List Int × Wi} (h : l[i]? = some x) : timedL (l.take (i + 1)) = tmStep (timedL (l.take i)) x := by
  unfold timedL
  rw [take_snoc h, List.foldl_append]
  rfl
theorem timedL_mem : ∀ (l : List (List Int × Wi)) (acc : List Wi) (x : Wi), x ∈ l.foldl tmStep acc → x ∈ acc ∨ ∃ y ∈ l, y.2 = x
  | [], acc, x, h => .inl h
  | y :: l, acc, x, h => by
    rcases timedL_mem l (tmStep acc y) x h with h1 | ⟨z, hz, e⟩
    · unfold tmStep at h1
      split at h1
      · rcases List.mem_append.mp h1 with h2 | h2
        · exact .inl h2
        · rw [List.mem_singleton] at h2
          exact .inr ⟨y, List.mem_cons_self, h2.symm⟩
      · exact .inl h1
    · exact .inr ⟨z, List.mem_cons_of_mem _ hz, e⟩
theorem timedL_len : ∀ (l : List (List Int × Wi)) (acc : List Wi), (l.foldl tmStep acc).length ≤ acc.length + l.length
  | [], acc => Nat.le_refl _
  | y :: l, acc => by
    have h := timedL_len l (tmStep acc y)
    have h2 : (tmStep acc y).length ≤ acc.length + 1 := by
      unfold tmStep
      split <;> simp
    simp only [List.foldl_cons, List.length_cons]
    omega
theorem wis_shaped {l : List Wi} (h : ∀ x ∈ l, x.Ok ∧ x.size ≤ 60) : SeqAt.shaped (.list (l.map Wi.dat)) = true := by
  refine lst_shaped (n := 60) (fun d hd => ?_) (fun d hd => ?_) (by decide)
  · obtain ⟨x, hx, rfl⟩ := List.mem_map.mp hd
    exact dat_lay x (h x hx).1
  · obtain ⟨x, hx, rfl⟩ := List.mem_map.mp hd
    exact Nat.le_trans (dat_depth x) (h x hx).2
theorem wis_tup (l : List Wi) : tupDs (l.map Wi.dat) = true := tupDs_of fun d hd => by
  obtain ⟨x, _, rfl⟩ := List.mem_map.mp hd
  exact dat_tup x
theorem stD_get {l : List (List Int × Wi)} {i : Nat} {d : PyData} (h : (stD l)[i]? = some d) : ∃ x, l[i]? = some x ∧ d = prD x := by
  unfold stD at h
  rw [List.getElem?_map] at h
  cases e : l[i]? with
  | none => rw [e] at h; cases h
  | some n => rw [e] at h; exact ⟨n, rfl, (Option.some.inj h).symm⟩
theorem timed_read {tsrc tin : TE} {v : V} {l : List (List Int × Wi)} (hok : ∀ x ∈ l, x.2.Ok ∧ x.2.size ≤ 60) (hl : l.length ≤ 60)
    (hsrc : ∀ q H1, Same H H1 → EvL K tsrc [some v, some (.ref q), none, none] H1 (stD l))
    (htin : ∀ σ' H' y, Wi.Ok y → EvD K (tVar 3) σ' H' y.dat → EvD K tin σ' H' (.bool (timedB y.word)))
    (hd : ∀ q ys H', Same H H' → H q = none → H' q = some (.lst ys) → DpAll K H' ys ((timedL l).map Wi.dat) → D.rt (.ref q) H') :
    tSeq (tAsg (tLst tNil) (gName 1)) (tSeq (tFor (iList K tsrc) (gTup K 2 (gCons (gName 2) (gCons (gName 3) gNil)))
      (tIfS (tAnd (tTest tin) (tTest (tOp (rNotInD K) (tVar 3) (tVar 1)))) (tDrop (tBM K "list" rAppend (tVar 1) (tCons (tVar 3) tNil))) tNext)) (tRet (tVar 1))) D [some v, none, none, none] H := by
  refine s_setL (K := K) (ds := []) (el_lst ea_nil (by show 0 ≤ 100000; decide)) fun q0 ys0 H1 s1 nq0 hq0 hy0 => ?_
  refine hsrc q0 H1 s1 H1 (Same.refl _) _ fun p0 xs H2 s2 np0 hp0 hx0 => ?_
  have hne : q0 ≠ p0 := ne_of_none hq0 np0
  refine ⟨p0, rfl, ⟨xs, SqL.of hp0⟩, for_list (K := K) (a := p0) (xs := xs) (fun i σ' H' => ∃ a2 a3 ys, σ' = [some v, some (.ref q0), a2, a3] ∧ Same H H' ∧ H' p0 = some (.lst xs) ∧ DpAll K H' xs (stD l) ∧ H' q0 = some (.lst ys) ∧ DpAll K H' ys ((timedL (l.take i)).map Wi.dat))
    ⟨none, none, ys0, rfl, s1.trans s2, hp0, hx0, s2 _ _ hq0, DpAll.same s2 _ _ hy0⟩ (fun i σ' H' _ P => ?_) (fun i x σ' H' hi P => ?_) fun σ' H' P => ?_⟩
  · obtain ⟨_, _, _, _, _, h, _⟩ := P
    exact SqL.of h
  · obtain ⟨a2, a3, ys, rfl, s', hp', hx', hq', hy'⟩ := P
    obtain ⟨d, hd1, hd2⟩ := hx'.getV hi
    obtain ⟨z, hz, rfl⟩ := stD_get hd1
    obtain ⟨a, b, ha, hb, g⟩ := g_pair (i := 2) (j := 3) hd2
    refine g _ _ ?_
    have hzl := hok z (List.mem_of_getElem? hz)
    have htl : ∀ x ∈ timedL (l.take i), x.Ok ∧ x.size ≤ 60 := fun x hx => by
      rcases timedL_mem _ _ _ hx with h | ⟨y, hy, rfl⟩
      · cases h
      · exact hok y (List.mem_of_mem_take hy)
    have hlen : (timedL (l.take i)).length ≤ 60 := by
      have h1 := timedL_len (l.take i) []
      rw [List.length_take, List.length_nil] at h1
      unfold timedL
      omega
    have e3 : EvD K (tVar 3) [some v, some (.ref q0), some a, some b] H' z.2.dat := ed_var rfl hb
    have e1 : EvD K (tVar 1) [some v, some (.ref q0), some a, some b] H' (.list ((timedL (l.take i)).map Wi.dat)) := ed_var rfl (.lst (SqL.of hq') hy')
    refine q_if (b := timedB z.2.word && !((timedL (l.take i)).map Wi.dat).any fun x => PyData.eqv x z.2.dat) (et_and (et_test (htin _ _ _ hzl.1 e3)) fun _ => et_test (ed_notInD e3 e1 (dat_shaped hzl.1 (by omega)) (wis_shaped htl))) (fun k H3 s3 => ?_) fun k H3 s3 => ?_
    · refine q_app (K := K) rfl (s3 _ _ hq') (by rw [hy'.len, List.length_map]; omega) (e3.mono s3) (dat_tup _) fun y H4 s4 hy => ?_
      have t4 := TStay.lst (K := K) (o := .lst (ys ++ [y])) (s4 _ _ (s3 _ _ hq'))
      refine ⟨_, _, ys ++ [y], rfl, fun c o hc => ?_, ?_, ?_, upd_same, ?_⟩
      · rw [upd_ne (ne_of_none hc nq0)]
        exact s4 _ _ (s3 _ _ (s' _ _ hc))
      · rw [upd_ne hne.symm]
        exact s4 _ _ (s3 _ _ hp')
      · exact DpAll.ts t4 _ _ (stD_tup _) (DpAll.same (s3.trans s4) _ _ hx')
      · have e : timedL (l.take (i + 1)) = timedL (l.take i) ++ [z.2] := by
          rw [timedL_succ hz]
          unfold tmStep
          rw [if_pos k]
        rw [e, List.map_append]
        exact (DpAll.ts t4 _ _ (wis_tup _) (DpAll.same (s3.trans s4) _ _ hy')).append (.cons hy .nil)
    · have e : timedL (l.take (i + 1)) = timedL (l.take i) := by
        rw [timedL_succ hz]
        unfold tmStep
        rw [if_neg (by rw [k]; decide)]
      refine ⟨_, _, ys, rfl, s'.trans s3, s3 _ _ hp', DpAll.same s3 _ _ hx', s3 _ _ hq', ?_⟩
      rw [e]
      exact DpAll.same s3 _ _ hy'
  · obtain ⟨a2, a3, ys, rfl, s', hp', hx', hq', hy'⟩ := P
    have el : l.take xs.length = l := by
      rw [hx'.len, stD, List.length_map, List.take_length]
    rw [el] at hy'
    exact ⟨_, rfl, hd q0 ys H' s' nq0 hq' hy'⟩
theorem pieces_ok {w : Wi} (ok : w.Ok) (hz : w.size ≤ 60) : ∀ x ∈ w.pieces, x.2.Ok ∧ x.2.size ≤ 60 := fun x hx => by
  have h := (Wi.mem_pieces w x.1 x.2).mp hx
  have h2 := Wi.size_at h
  exact ⟨Wi.Ok.at ok h, by omega⟩
def timedD (w : Wi) : List PyData := (timedL w.pieces).map Wi.dat
def rTimed (ds rs : List PyData) : Prop := ∃ w : Wi, w.Ok ∧ w.size ≤ 60 ∧ ds = [w.dat] ∧ rs = timedD w
theorem sc_timed_of : FnScope ["wish", "found", "path", "part"] ["wish"] (defScope s_timed_of) := ⟨rfl, rfl, rfl, by decide +kernel, rfl, by decide +kernel, by decide +kernel⟩
theorem sc_law_timed : FnScope ["hope", "found", "path", "part"] ["hope"] (defScope s_law_timed) := ⟨rfl, rfl, rfl, by decide +kernel, rfl, by decide +kernel, by decide +kernel⟩
theorem ok_timed_of (T : Tx K mg w) : Cl P w K mg base 3 "timed_of" (spL K 1 rTimed) := by
  have cP : Cl P w K mg base 2 "parts_of" (spL K 1 rParts) := ok_parts_of T
  obtain ⟨tad, mT, hT⟩ := T.timed
  refine cl_of T.f_timed_of sc_timed_of (fun _ _ _ _ _ _ us hl => match us, hl with | [_], _ => rfl) (spL_len rfl) (fun f cdv A outer s H vs Q E hr h => ?_)
  obtain ⟨ds, r, _, hd, ⟨wi, ok, hz, rfl, rfl⟩, q⟩ := h
  obtain ⟨v, rfl, hv⟩ := hd.one
  have nd := sc_timed_of.nd
  have hu0 : (A.deeper (envOfC "timed_of" (defScope s_timed_of) s.heap.objs.size f cdv)).units + 65 < cLine := by
    have := hr.un
    omega
  refine ⟨_, pss_cons (ps_set (i := 1) nd rfl (Or.inl rfl) (pe_lst pa_nil)) (pss_cons (ps_for PassesOwn.never rfl (pi_list (pe_cl cP hr (by decide) (pa_cons (pv 0) pa_nil))) (pg_tup rfl (pgs_cons (pg_name (i := 2) nd rfl (Or.inl rfl)) (pgs_cons (pg_name (i := 3) nd rfl (Or.inl rfl)) pgs_nil)))
      (pss_one (ps_if (PW.pt (pw_and (pt_cmpR op_in_seq (pe_ix ix_tup (pv 3) pe_int (fun _ _ => rfl)) (pe_glob (v := .ref tad) rfl mT rfl) (by rfl)) (pw_and1 (pt_cmpR (op_notInD hu0) (pv 3) (pv 1) (by rfl)))))
        (pss_one (ps_expr (pe_bm PySem.F.plainAttrs_list PySem.F.slot_list_append PySem.F.type_list_append mt_append (pv 1) (pa_cons (pv 3) pa_nil)))) pss_nil)))
    (pss_one (ps_ret (pv 1)))), ?_⟩
  refine timed_read (K := K) (pieces_ok ok hz) (by rw [Wi.pieces_len]; omega) (fun q0 H1 s1 => el_call (ea_cons (ed_var rfl (Dp.same s1 _ _ hv)) ea_nil) rfl ⟨wi, ok, hz, rfl, rfl⟩) (fun σ' H' y oky e3 => ?_) fun q0 ys H' s' nq hq hy => q q0 ys H' s' nq hq hy
  have e4 : EvD K (tVar 3) σ' H' (.tuple y.items) := by
    rw [Wi.items, ← Wi.dat_eq]
    exact e3
  exact ed_inTimed (K := K) (a := tad) (c := y.word) (fun _ _ q => q) hT (ed_ixT (i := 0) e4 ed_int rfl)
theorem ok_law_timed (T : Tx K mg w) : Cl P w K mg base 62 "_law_timed" (spL K 1 rTimed) := by
  have cP : Cl P w K mg base 61 "_law_pieces" (spL K 1 (rPieces 60)) := ok_law_pieces T 60 (Nat.le_refl _)
  refine cl_of T.f_law_timed sc_law_timed (fun _ _ _ _ _ _ us hl => match us, hl with | [_], _ => rfl) (spL_len rfl) (fun f cdv A outer s H vs Q E hr h => ?_)
  obtain ⟨ds, r, _, hd, ⟨wi, ok, hz, rfl, rfl⟩, q⟩ := h
  obtain ⟨v, rfl, hv⟩ := hd.one
  have nd := sc_law_timed.nd
  have hu0 : (A.deeper (envOfC "_law_timed" (defScope s_law_timed) s.heap.objs.size f cdv)).units + 65 < cLine := by
    have := hr.un
    omega
  refine ⟨_, pss_cons (ps_set (i := 1) nd rfl (Or.inl rfl) (pe_lst pa_nil)) (pss_cons (ps_for PassesOwn.never rfl (pi_list (pe_cl cP hr (by decide) (pa_cons (pv 0) pa_nil))) (pg_tup rfl (pgs_cons (pg_name (i := 2) nd rfl (Or.inl rfl)) (pgs_cons (pg_name (i := 3) nd rfl (Or.inl rfl)) pgs_nil)))
      (pss_one (ps_if (PW.pt (pw_and (pt_cmpR op_in_seq (pe_ix ix_tup (pv 3) pe_int (fun _ _ => rfl)) (pe_tup (pa_cons pe_str (pa_cons pe_str (pa_cons pe_str (pa_cons pe_str pa_nil))))) (by rfl)) (pw_and1 (pt_cmpR (op_notInD hu0) (pv 3) (pv 1) (by rfl)))))
        (pss_one (ps_expr (pe_bm PySem.F.plainAttrs_list PySem.F.slot_list_append PySem.F.type_list_append mt_append (pv 1) (pa_cons (pv 3) pa_nil)))) pss_nil)))
    (pss_one (ps_ret (pv 1)))), ?_⟩
  refine timed_read (K := K) (pieces_ok ok hz) (by rw [Wi.pieces_len]; omega) (fun q0 H1 s1 => el_call (ea_cons (ed_var rfl (Dp.same s1 _ _ hv)) ea_nil) rfl ⟨wi, ok, hz, rfl, rfl⟩) (fun σ' H' y oky e3 => ?_) fun q0 ys H' s' nq hq hy => q q0 ys H' s' nq hq hy
  have e4 : EvD K (tVar 3) σ' H' (.tuple y.items) := by
    rw [Wi.items, ← Wi.dat_eq]
    exact e3
  intro H1 s1 Q q
  refine ed_ixT (K := K) (i := 0) e4 ed_int rfl H1 s1 _ fun v2 H2 s2 h2 => ?_
  cases h2.strOf
  refine ⟨by show 4 ≤ sizeLine; decide, fun p hp => ⟨p, timedW.map V.str, rfl, .inr (SqT.of upd_same), rfl, rfl, q _ _ (s2.trans (same_new hp _)) (.bl _)⟩⟩
/-! ### timed_parts -/
def rTimedParts (ds : List PyData) (r : PyData) : Prop := ∃ w : Wi, w.Ok ∧ fits w = true ∧ ds = [w.dat] ∧ r = .tuple (timedD w)
theorem sc_timed_parts : FnScope ["wish"] ["wish"] (defScope s_timed_parts) := ⟨rfl, rfl, rfl, by decide +kernel, rfl, by decide +kernel, by decide +kernel⟩
theorem ok_timed_parts (T : Tx K mg w) : Cl P w K mg base 5 "timed_parts" (spD K 1 rTimedParts) := by
  have cN : Cl P w K mg base 4 "need_wish" (spD K 1 rNeed) := ok_need_wish T
  have cT : Cl P w K mg base 3 "timed_of" (spL K 1 rTimed) := ok_timed_of T
  refine cl_of T.f_timed_parts sc_timed_parts (fun _ _ _ _ _ _ us hl => match us, hl with | [_], _ => rfl) (spD_len rfl) (fun f cdv A outer s H vs Q E hr h => ?_)
  obtain ⟨ds, r, _, hd, ⟨wi, ok, hf, rfl, rfl⟩, q⟩ := h
  obtain ⟨v, rfl, hv⟩ := hd.one
  have hz := fits_size hf
  refine ⟨_, pss_one (ps_ret (pe_callTy call_tuple_of rfl T.b_tuple (by decide +kernel) (pa_cons (pe_cl cT hr (by decide) (pa_cons (pe_cl cN hr (by decide) (pa_cons (pv 0) pa_nil)) pa_nil)) pa_nil))), ?_⟩
  refine q_ret (K := K) (d := .tuple (timedD wi)) ?_ q
  have e1 : EvD K (tCall (spD K 1 rNeed) [] E0 (tCons (tVar 0) tNil)) (start ["wish"] [v]) H wi.dat := ed_call (ea_cons (ed_var rfl hv) ea_nil) rfl ⟨wi, ok, hf, rfl, rfl⟩
  exact ed_tupOf (el_call (ea_cons e1 ea_nil) rfl ⟨wi, ok, by omega, rfl, rfl⟩)
end
end K3
set_option maxRecDepth 100000
set_option maxHeartbeats 4000000
/-! ## the drawing: _law_mixed, _law_folded -/
namespace K3
open PySem PySem.Spec PyProof.Rows L2
section
variable {P : Program} {w : World} {K : PySem.W.Frag} {mg : Str → Option Value} {base : Heap} {H : Hp} {σ : L2.St} {ta tb te : TE} {D : Ends} {us ts : L2.TS} {g : TG} {ds es : List PyData} {as : TA}
/-! ### _law_mixed -/
def blendI (c n : Int) : Int := (c * (1 + 2 * n) * 48271) % 2147483647 + 7919 * n * n + 104729 * n
def mixI (c n : Int) : Int := (blendI c n * 69621) % 2147483629 / 7
theorem mixI_range (c n : Int) : 0 ≤ mixI c n ∧ mixI c n < 2147483629 := by
  unfold mixI
  have h1 := Int.emod_nonneg (blendI c n * 69621) (by decide : (2147483629 : Int) ≠ 0)
  have h2 := Int.emod_lt_of_pos (blendI c n * 69621) (by decide : (0 : Int) < 2147483629)
  omega
def rMixed (ds : List PyData) (r : PyData) : Prop := ∃ c n : Int, 0 ≤ c ∧ c < 2 ^ 60 ∧ 0 ≤ n ∧ n < 2 ^ 60 ∧ ds = [.int c, .int n] ∧ r = .int (mixI c n)
theorem sc_law_mixed : FnScope ["cell", "n", "blend"] ["cell", "n"] (defScope s_law_mixed) := ⟨rfl, rfl, rfl, by decide +kernel, rfl, by decide +kernel, by decide +kernel⟩
theorem ok_law_mixed (T : Tx K mg w) : Cl P w K mg base 1 "_law_mixed" (spD K 2 rMixed) := by
  refine cl_of T.f_law_mixed sc_law_mixed (fun _ _ _ _ _ _ us hl => match us, hl with | [_, _], _ => rfl) (spD_len rfl) (fun f cdv A outer s H vs Q E hr h => ?_)
  obtain ⟨ds, r, _, hd, ⟨c, n, c0, c1, n0, n1, rfl, rfl⟩, q⟩ := h
  obtain ⟨v, u, rfl, hv, hu⟩ := hd.two
  have nd := sc_law_mixed.nd
  refine ⟨_, pss_cons (ps_set (i := 2) nd rfl (Or.inl rfl) (pe_op op_add (pe_op op_add (pe_op op_mod (pe_callTy call_int1 rfl T.b_int (by decide +kernel) (pa_cons (pe_op op_mul (pe_op op_mul (pv 0) (pe_op op_add pe_int (pe_op op_mul pe_int (pv 1)))) pe_int) pa_nil)) pe_int)
      (pe_op op_mul (pe_op op_mul pe_int (pv 1)) (pv 1))) (pe_op op_mul pe_int (pv 1))))
    (pss_one (ps_ret (pe_op op_fdiv (pe_op op_mod (pe_callTy call_int1 rfl T.b_int (by decide +kernel) (pa_cons (pe_op op_mul (pv 2) pe_int) pa_nil)) pe_int) pe_int))), ?_⟩
  have e0 : EvD K (tVar 0) (start ["cell", "n", "blend"] [v, u]) H (.int c) := ed_var rfl hv
  have e1 : EvD K (tVar 1) (start ["cell", "n", "blend"] [v, u]) H (.int n) := ed_var rfl hu
  have p60 : (2 : Int) ^ 60 < 2 ^ 64 := by decide
  have p0 : -(2 : Int) ^ 64 < 0 := by decide
  have z2 : EvD K (tOp (rI CMul fun i j => .int (i * j)) (tC (.int 2)) (tVar 1)) (start ["cell", "n", "blend"] [v, u]) H (.int (2 * n)) := ed_I ed_int e1 (.inl (by decide)) fun _ => .int _
  have z3 : EvD K _ (start ["cell", "n", "blend"] [v, u]) H (.int (1 + 2 * n)) := ed_I0 (g := fun i j => .int (i + j)) ed_int z2 fun _ => .int _
  have z4 : EvD K _ (start ["cell", "n", "blend"] [v, u]) H (.int (c * (1 + 2 * n))) := ed_I (C := CMul) (g := fun i j => .int (i * j)) e0 z3 (.inl ⟨by omega, by omega⟩) fun _ => .int _
  have z5 : EvD K _ (start ["cell", "n", "blend"] [v, u]) H (.int (c * (1 + 2 * n) * 48271)) := ed_I (C := CMul) (g := fun i j => .int (i * j)) z4 ed_int (.inr (by decide)) fun _ => .int _
  have z6 : EvD K _ (start ["cell", "n", "blend"] [v, u]) H (.int (c * (1 + 2 * n) * 48271 % 2147483647)) := ed_I (C := fun _ j => 0 < j) (g := fun i j => .int (i % j)) (ed_int1 z5) ed_int (by decide) fun _ => .int _
  have z7 : EvD K _ (start ["cell", "n", "blend"] [v, u]) H (.int (7919 * n)) := ed_I (C := CMul) (g := fun i j => .int (i * j)) ed_int e1 (.inl (by decide)) fun _ => .int _
  have z8 : EvD K _ (start ["cell", "n", "blend"] [v, u]) H (.int (7919 * n * n)) := ed_I (C := CMul) (g := fun i j => .int (i * j)) z7 e1 (.inr ⟨by omega, by omega⟩) fun _ => .int _
  have z9 : EvD K _ (start ["cell", "n", "blend"] [v, u]) H (.int (104729 * n)) := ed_I (C := CMul) (g := fun i j => .int (i * j)) ed_int e1 (.inl (by decide)) fun _ => .int _
  refine s_set (K := K) (d := .int (blendI c n)) (ed_I0 (g := fun i j => .int (i + j)) (ed_I0 (g := fun i j => .int (i + j)) z6 z8 fun _ => .int _) z9 fun _ => .int _) fun v2 H2 s2 h2 => ?_
  refine q_ret (K := K) (d := .int (mixI c n)) ?_ fun v3 H3 s3 h3 => q v3 H3 (s2.trans s3) h3
  have y0 : EvD K (tVar 2) ((start ["cell", "n", "blend"] [v, u]).set 2 (some v2)) H2 (.int (blendI c n)) := ed_var rfl h2
  have y1 : EvD K _ ((start ["cell", "n", "blend"] [v, u]).set 2 (some v2)) H2 (.int (blendI c n * 69621)) := ed_I (C := CMul) (g := fun i j => .int (i * j)) y0 ed_int (.inr (by decide)) fun _ => .int _
  have y2 : EvD K _ ((start ["cell", "n", "blend"] [v, u]).set 2 (some v2)) H2 (.int (blendI c n * 69621 % 2147483629)) := ed_I (C := fun _ j => 0 < j) (g := fun i j => .int (i % j)) (ed_int1 y1) ed_int (by decide) fun _ => .int _
  exact ed_I (C := CDiv) (g := fun i j => .int (i / j)) y2 ed_int ⟨by decide, by decide⟩ fun _ => .int _
end
end K3
set_option maxRecDepth 100000
set_option maxHeartbeats 4000000
/-! ## _law_folded -/
namespace K3
open PySem PySem.Spec PyProof.Rows L2
section
variable {P : Program} {w : World} {K : PySem.W.Frag} {mg : Str → Option Value} {base : Heap} {H : Hp} {σ : L2.St} {ta tb te : TE} {D : Ends} {us ts : L2.TS} {g : TG} {ds es : List PyData} {as : TA}
theorem ints_dp : ∀ ns : List Int, DpAll K H (ns.map V.int) (ns.map PyData.int)
  | [] => .nil
  | n :: ns => .cons (.int n) (ints_dp ns)
theorem ints_of : ∀ {ns : List Int} {vs : List V}, DpAll K H vs (ns.map PyData.int) → vs = ns.map V.int
  | [], _, .nil => rfl
  | n :: ns, _, .cons a b => by rw [a.intOf, ints_of b]; rfl
/-- for over enumerate(list) -/
theorem for_enumL {a : Addr} {xs : List V} (Pv : Nat → L2.St → Hp → Prop) (h0 : Pv 0 σ H) (hl : ∀ i σ H, i ≤ xs.length → Pv i σ H → SqL K H a xs)
    (hs : ∀ i x T σ H, xs[i]? = some x → Pv i σ H → H T = none → g (.ref T) σ (upd H T (.tup [.int (i : Nat), x])) fun σ2 H2 => ts { D with nx := Pv (i + 1), ct := Pv (i + 1), bk := D.nx } σ2 H2) (hd : ∀ σ H, Pv xs.length σ H → D.nx σ H) :
    ∃ W : Nat → Nat → L2.St → Hp → Prop, (∃ m, W 0 m σ H) ∧ ∀ i m σ H, W i m σ H →
      ((Ite K a).stop i H ∧ D.nx σ H) ∨ ((Ite K a).go i H ∧ ∃ N : L2.St → Hp → Prop, (∀ σ' H', N σ' H' → ∃ m', m' < m ∧ W (i + 1) m' σ' H') ∧ ∀ x H', (Ite K a).yld i H x H' → g x σ H' fun σ2 H2 => ts { D with nx := N, ct := N, bk := D.nx } σ2 H2) := by
  refine ⟨fun i m σ H => m = xs.length - i ∧ i ≤ xs.length ∧ Pv i σ H, ⟨xs.length, by simp, Nat.zero_le _, h0⟩, ?_⟩
  rintro i m σ H ⟨rfl, hi, p⟩
  have q := hl i σ H hi p
  by_cases hlt : i < xs.length
  · refine .inr ⟨⟨xs, xs[i], q, by simp [hlt]⟩, Pv (i + 1), fun σ' H' p' => ⟨xs.length - (i + 1), by omega, rfl, hlt, p'⟩, fun x H' y => ?_⟩
    obtain ⟨T, x', rfl, hT, rfl, hx⟩ := y
    exact hs i x' T σ H (hx xs q) p hT
  · have e : i = xs.length := by omega
    subst e
    exact .inl ⟨⟨xs, q, Nat.le_refl _⟩, hd σ H p⟩
def Cells (ns : List Int) : Prop := ns.length = 64 ∧ ∀ n ∈ ns, 0 ≤ n ∧ n < 2147483647
theorem Cells.set {ns : List Int} (h : Cells ns) (j : Nat) (c : Int) : Cells (ns.set j (c % 2147483647)) := by
  refine ⟨by rw [List.length_set]; exact h.1, fun n hn => ?_⟩
  rcases List.mem_or_eq_of_mem_set hn with h1 | rfl
  · exact h.2 n h1
  · exact ⟨Int.emod_nonneg _ (by decide), Int.emod_lt_of_pos _ (by decide)⟩
theorem Cells.get {ns : List Int} (h : Cells ns) {j : Nat} (hj : j < 64) : ∃ c, ns[j]? = some c ∧ 0 ≤ c ∧ c < 2147483647 := by
  have hl : j < ns.length := by rw [h.1]; exact hj
  exact ⟨ns[j], List.getElem?_eq_getElem hl, h.2 _ (List.getElem_mem hl)⟩
def spF (K : PySem.W.Frag) : Sp := fun vs H Q _ => ∃ (a : Addr) (zs : List Int), vs = [.ref a] ∧ SqL K H a (zs.map V.int) ∧ zs.length ≤ 64 ∧ ∀ p ns H', Same H H' → H p = none → H' p = some (.lst (ns.map V.int)) → Cells ns → Q (.ref p) H'
theorem sc_law_folded : FnScope ["script", "found", "n", "cell"] ["script"] (defScope s_law_folded) := ⟨rfl, rfl, rfl, by decide +kernel, rfl, by decide +kernel, by decide +kernel⟩
theorem ixN_cast {n j : Nat} (h : j < n) : ixN n (j : Int) = some j := by
  unfold ixN
  rw [if_pos (by omega), if_pos (by omega)]
  simp
/-- over range(up) -/
theorem el_lcR1 {tt : TT} {vs : List Nat} {F : PyData → Option PyData} {up : Int} (ha : EvDA K as σ H [.int up]) (h2 : 0 ≤ up) (h3 : up ≤ 100000) (hi : ∀ d ∈ upD 0 up.toNat, ItemOk K g tt te vs σ H F d) : EvL K (tLc (iRng1 as) g tt te vs) σ H ((upD 0 up.toNat).filterMap F) := fun H0 s0 Q q =>
  ha H0 s0 _ fun v H1 s1 hv => by
    obtain ⟨x, rfl, hx⟩ := hv.one
    cases hx.intOf
    refine ⟨_, rfl, by omega, by omega, fun D hD => lc_range (fun i H' => LcP K H1 D (((upD 0 up.toNat).take i).filterMap F) H') (lc_begin hD) (fun i H' hlt P => ?_) fun H' P => ?_⟩
    · have hd := upD_get (lo := 0) hlt
      exact lc_turn (s0.trans s1) hD (by rw [upD_len]; omega) hd (hi _ (List.mem_of_getElem? hd)) P (.int _)
    · have e : (upD 0 up.toNat).take up.toNat = upD 0 up.toNat := List.take_of_length_le (by rw [upD_len]; exact Nat.le_refl _)
      rw [e] at P
      obtain ⟨acc, e, ha⟩ := P.at_
      exact q D acc H' (s1.trans P.same) (s1.free hD) e ha
def addF : PyData → Option PyData
  | .int n => some (.int (17 + n))
  | _ => none
def cells0 : List Int := (List.range 64).map fun (i : Nat) => 17 + (0 + (i : Int))
theorem cells0_of : (upD 0 64).filterMap addF = cells0.map PyData.int := rfl
theorem cells0_ok : Cells cells0 := by
  unfold cells0
  refine ⟨by rw [List.length_map, List.length_range], fun n hn => ?_⟩
  obtain ⟨i, hi, rfl⟩ := List.mem_map.mp hn
  have := List.mem_range.mp hi
  omega
/-- found[i] = e -/
theorem q_setIx {i : Nat} {p : Addr} {ns : List Int} {j : Nat} {c : Int} {ti : TE} (hv : σ[i]? = some (some (.ref p))) (hp : H p = some (.lst (ns.map V.int))) (he : EvD K te σ H (.int c)) (hi : EvD K ti σ H (.int (j : Int))) (hj : j < ns.length)
    (k : ∀ H2, Same H H2 → D.nx σ (upd H2 p (.lst ((ns.set j c).map V.int)))) : tAsg te (gSub (tVar i) ti rSetL) D σ H :=
  he H (Same.refl _) _ fun v H1 s1 hv1 => ⟨_, hv, hi H1 s1 _ fun w H2 s2 hw => by
    cases hv1.intOf
    cases hw.intOf
    refine ⟨p, ns.map V.int, (j : Int), j, rfl, rfl, s2 _ _ (s1 _ _ hp), ixN_cast (by rw [List.length_map]; exact hj), ?_⟩
    have e : (ns.map V.int).set j (V.int c) = (ns.set j c).map V.int := by rw [List.map_set]
    rw [e]
    exact k H2 (s1.trans s2)⟩
theorem ed_cell {i : Nat} {p : Addr} {ns : List Int} {j : Nat} {c : Int} {ti : TE} (hv : σ[i]? = some (some (.ref p))) (hp : H p = some (.lst (ns.map V.int))) (hi : EvD K ti σ H (.int (j : Int))) (hc : ns[j]? = some c) : EvD K (tOp (rIxL K) (tVar i) ti) σ H (.int c) :=
  ed_ixL (ds := ns.map PyData.int) (ed_var hv (.lst (SqL.of hp) (ints_dp ns))) hi (by rw [List.getElem?_map, hc]; rfl)
theorem ok_law_folded (T : Tx K mg w) : Cl P w K mg base 1 "_law_folded" (spF K) := by
  refine cl_of T.f_law_folded sc_law_folded (fun _ _ _ _ _ _ us hl => match us, hl with | [_], _ => rfl) (fun vs H Q E h => by obtain ⟨a, zs, rfl, _⟩ := h; rfl) (fun f cdv A outer s H vs Q E hr h => ?_)
  obtain ⟨a, zs, rfl, ha, hzl, q⟩ := h
  have nd := sc_law_folded.nd
  refine ⟨_, pss_cons (ps_setLc (i := 1) (own := [("n", 2)]) (g := gName 2) (tt := tYes) rfl nd rfl rfl (sw_true rfl rfl rfl (by decide +kernel)) (pi_range1 rfl T.b_range (pa_cons pe_int pa_nil))
      (blkOk_by (N := ["script", "found", "n", "cell"]) (sc := defScope s_law_folded) (by decide +kernel)) (fun _ _ _ _ _ => pg_name (i := 2) nd rfl (Or.inl rfl)) (fun _ _ _ _ _ => pts_nil) (fun _ _ _ _ _ => pe_op op_add pe_int (pv 2)))
    (pss_cons (ps_for PassesOwn.never rfl (pi_enum rfl T.b_enumerate (pa_cons (pv 0) pa_nil)) (pg_tup rfl (pgs_cons (pg_name (i := 2) nd rfl (Or.inl rfl)) (pgs_cons (pg_name (i := 3) nd rfl (Or.inl rfl)) pgs_nil)))
      (pss_one (ps_asg (pe_op op_mod (pe_callTy call_int1 rfl T.b_int (by decide +kernel) (pa_cons (pe_op op_add (pe_op op_mul (pe_ix ix_list (pv 1) (pe_op op_mod (pe_callTy call_int1 rfl T.b_int (by decide +kernel) (pa_cons (pv 2) pa_nil)) pe_int) (fun _ _ => rfl)) pe_int) (pv 3)) pa_nil)) pe_int)
        (pg_sub (pv 1) (pe_op op_mod (pe_callTy call_int1 rfl T.b_int (by decide +kernel) (pa_cons (pv 2) pa_nil)) pe_int) set_list))))
    (pss_cons (ps_for PassesOwn.never rfl (pi_range2 rfl T.b_range (pa_cons pe_int (pa_cons pe_int pa_nil))) (pg_name (i := 2) nd rfl (Or.inl rfl))
      (pss_one (ps_asg (pe_op op_mod (pe_callTy call_int1 rfl T.b_int (by decide +kernel) (pa_cons (pe_op op_add (pe_ix ix_list (pv 1) (pv 2) (fun _ _ => rfl)) (pe_op op_mul (pe_ix ix_list (pv 1) (pe_op op_sub (pv 2) pe_int) (fun _ _ => rfl)) pe_int)) pa_nil)) pe_int)
        (pg_sub (pv 1) (pv 2) set_list))))
    (pss_one (ps_ret (pv 1))))), ?_⟩
  have ec : EvL K (tLc (iRng1 (tCons (tC (.int 64)) tNil)) (gName 2) tYes (tOp (rI0 fun i j => .int (i + j)) (tC (.int 17)) (tVar 2)) [2]) (start ["script", "found", "n", "cell"] [V.ref a]) H (cells0.map PyData.int) := by
    rw [← cells0_of]
    refine el_lcR1 (up := 64) (ea_cons ed_int ea_nil) (by decide) (by decide) fun d hd => ?_
    obtain ⟨i, hi, rfl⟩ := List.mem_map.mp hd
    intro x H' s' hx
    cases hx.intOf
    refine ⟨_, true, fun Q q => q, rfl, et_yes, ?_⟩
    rw [if_pos rfl]
    exact ⟨_, rfl, rfl, ed_I0 (g := fun i j => .int (i + j)) ed_int (ed_var rfl (.int _)) fun _ => .int _⟩
  refine s_setL (K := K) ec fun p xs H1 s1 np hp hx => ?_
  obtain rfl := ints_of hx
  have n0 : ∀ {c o}, H c = some o → c ≠ p := fun hc => ne_of_none hc np
  refine ⟨_, rfl, ⟨a, zs.map V.int, rfl, s1.seq ha, for_enumL (K := K) (a := a) (xs := zs.map V.int) (fun i σ' H' => ∃ a2 a3 ns, σ' = [some (.ref a), some (.ref p), a2, a3] ∧ Same H H' ∧ H' p = some (.lst (ns.map V.int)) ∧ Cells ns)
    ⟨none, none, cells0, rfl, s1, hp, cells0_ok⟩ (fun i σ' H' _ P => ?_) (fun i x t σ' H' hi P ht => ?_) fun σ' H' P => ?_⟩⟩
  · obtain ⟨_, _, _, _, s', _⟩ := P
    exact s'.seq ha
  · obtain ⟨a2, a3, ns, rfl, s', hp', hc⟩ := P
    obtain ⟨z, hz, rfl⟩ : ∃ z : Int, zs[i]? = some z ∧ x = .int z := by
      rw [List.getElem?_map] at hi
      cases e : zs[i]? with
      | none => rw [e] at hi; cases hi
      | some z => rw [e] at hi; exact ⟨z, rfl, (Option.some.inj hi).symm⟩
    have st := same_new ht (HO.tup [.int (i : Nat), .int z])
    refine ⟨t, _, rfl, SqT.of upd_same, rfl, _, _, rfl, _, _, rfl, rfl, ?_⟩
    have i64 : ((i : Int) % 64) = ((i % 64 : Nat) : Int) := by omega
    have eI : EvD K (tOp (rI (fun _ j => 0 < j) fun i j => .int (i % j)) (tCB (fun xs H Q => (∃ i, xs = [.int i] ∧ Q (.int i) H) ∨ ∃ k, xs = [.bl k] ∧ Q (.int (if k then 1 else 0)) H) (tCons (tVar 2) tNil)) (tC (.int 64)))
        [some (.ref a), some (.ref p), some (.int (i : Nat)), some (.int z)] (upd H' t (.tup [.int (i : Nat), .int z])) (.int ((i % 64 : Nat) : Int)) := by
      rw [← i64]
      exact ed_I (ed_int1 (ed_var rfl (.int _))) ed_int (by decide) fun _ => .int _
    obtain ⟨c, hc1, hc2, hc3⟩ := hc.get (Nat.mod_lt i (by decide : 0 < 64))
    have hpt := st _ _ hp'
    have e1 := ed_cell (σ := [some (.ref a), some (.ref p), some (.int (i : Nat)), some (.int z)]) (i := 1) rfl hpt eI hc1
    have e2 := ed_I (C := CMul) (g := fun i j => .int (i * j)) e1 (ed_int (i := 48271)) (.inr (by decide)) fun _ => .int _
    have e3 := ed_I0 (g := fun i j => .int (i + j)) e2 (ed_var (i := 3) (v := .int z) rfl (.int _)) fun _ => .int _
    refine q_setIx (K := K) rfl hpt (ed_I (g := fun i j => .int (i % j)) (ed_int1 e3) (ed_int (i := 2147483647)) (by decide) fun _ => .int _) eI (by rw [hc.1]; omega) fun H2 s2 => ?_
    refine ⟨_, _, _, rfl, fun c o h => ?_, upd_same, hc.set _ _⟩
    rw [upd_ne (n0 h)]
    exact s2 _ _ (st _ _ (s' _ _ h))
  · obtain ⟨a2, a3, ns, rfl, s', hp', hc⟩ := P
    refine s_forR (K := K) (lo := 1) (up := 64) (ea_cons ed_int (ea_cons ed_int ea_nil)) (by decide) (by decide) (by decide) fun H2 s2 => ?_
    refine ⟨fun i σ' H' => ∃ a2 a3 ns, σ' = [some (.ref a), some (.ref p), a2, a3] ∧ Same H H' ∧ H' p = some (.lst (ns.map V.int)) ∧ Cells ns, ⟨_, _, ns, rfl, s'.trans s2, s2 _ _ hp', hc⟩, ?_, ?_⟩
    · rintro i σ' H' hi ⟨a2, a3, ns, rfl, s', hp', hc⟩
      have hi2 : i < 63 := hi
      have e0 : EvD K (tVar 2) [some (.ref a), some (.ref p), some (.int (1 + (i : Int))), a3] H' (.int ((i + 1 : Nat) : Int)) := by
        have e : ((i + 1 : Nat) : Int) = 1 + (i : Int) := by omega
        rw [e]
        exact ed_var rfl (.int _)
      have e0' : EvD K (tOp (rI0 fun i j => .int (i - j)) (tVar 2) (tC (.int 1))) [some (.ref a), some (.ref p), some (.int (1 + (i : Int))), a3] H' (.int (i : Int)) := by
        have z := ed_I0 (g := fun i j => .int (i - j)) e0 (ed_int (i := 1)) fun _ => .int _
        have e : ((i + 1 : Nat) : Int) - 1 = (i : Int) := by omega
        rw [e] at z
        exact z
      obtain ⟨c, hc1, _⟩ := hc.get (j := i + 1) (by omega)
      obtain ⟨c', hc2, _⟩ := hc.get (j := i) (by omega)
      have e1 := ed_cell (σ := [some (.ref a), some (.ref p), some (.int (1 + (i : Int))), a3]) (i := 1) rfl hp' e0 hc1
      have e2 := ed_cell (σ := [some (.ref a), some (.ref p), some (.int (1 + (i : Int))), a3]) (i := 1) rfl hp' e0' hc2
      have e3 := ed_I (C := CMul) (g := fun i j => .int (i * j)) e2 (ed_int (i := 16807)) (.inr (by decide)) fun _ => .int _
      have e4 := ed_I0 (g := fun i j => .int (i + j)) e1 e3 fun _ => .int _
      refine q_setIx (K := K) rfl hp' (ed_I (g := fun i j => .int (i % j)) (ed_int1 e4) (ed_int (i := 2147483647)) (by decide) fun _ => .int _) e0 (by rw [hc.1]; omega) fun H3 s3 => ?_
      refine ⟨_, _, _, rfl, fun c o h => ?_, upd_same, hc.set _ _⟩
      rw [upd_ne (n0 h)]
      exact s3 _ _ (s' _ _ h)
    · rintro σ' H' ⟨a2, a3, ns, rfl, s', hp', hc⟩
      exact ⟨_, rfl, q p ns H' s' np hp' hc⟩
end
end K3
set_option maxRecDepth 100000
set_option maxHeartbeats 4000000
/-! ## _law_draw -/
namespace K3
open PySem PySem.Spec PyProof.Rows L2
section
variable {P : Program} {w : World} {K : PySem.W.Frag} {mg : Str → Option Value} {base : Heap} {H H1 H2 : Hp} {σ : L2.St} {ta tb te : TE} {D : Ends} {us ts : L2.TS} {g : TG} {ds es : List PyData} {as : TA}
abbrev kv3 (c g : Addr) (n : Nat) : List (Key × V) := [(.inr "cells", .ref c), (.inr "great", .ref g), (.inr "spot", .int (n : Int))]
/-- the drawing's state: the dict at m, its list of great cells at g -/
structure Dr (H : Hp) (m g : Addr) (n : Nat) : Prop where
  ex : ∃ (c : Addr) (ns gs : List Int), H m = some (.dK (kv3 c g n)) ∧ H c = some (.lst (ns.map V.int)) ∧ Cells ns ∧ H g = some (.lst (gs.map V.int)) ∧ gs.length ≤ 64 ∧ c ≠ g
theorem Dr.same {m g : Addr} {n : Nat} (s : Same H H1) (h : Dr H m g n) : Dr H1 m g n := by
  obtain ⟨c, ns, gs, h1, h2, h3, h4, h5, h6⟩ := h.ex
  exact ⟨c, ns, gs, s _ _ h1, s _ _ h2, h3, s _ _ h4, h5, h6⟩
/-- all but m and g stays -/
def FrX (m g : Addr) (H H' : Hp) : Prop := ∀ a o, H a = some o → a ≠ m → a ≠ g → H' a = some o
theorem FrX.trans {m g : Addr} (a : FrX m g H H1) (b : FrX m g H1 H2) : FrX m g H H2 := fun c o h n1 n2 => b c o (a c o h n1 n2) n1 n2
theorem FrX.of {m g : Addr} (s : Same H H1) : FrX m g H H1 := fun c o h _ _ => s c o h
theorem FrX.tstay {m g : Addr} {n : Nat} (d : Dr H m g n) (f : FrX m g H H1) : TStay K H H1 := fun a xs q => by
  obtain ⟨c, ns, gs, h1, h2, h3, h4, h5, h6⟩ := d.ex
  rcases q with (q | ⟨ob, q⟩) | q
  · exact .inl (.inl (f _ _ q (ne_of q h1 (by simp)) (ne_of q h4 (by simp))))
  · exact .inl (.inr ⟨ob, f _ _ q (ne_of q h1 (by simp)) (ne_of q h4 (by simp))⟩)
  · exact .inr q
theorem v_spot (c g : Addr) (n : Nat) : valV (kv3 c g n) (.inr "spot") = some (.int (n : Int)) := rfl
theorem v_great (c g : Addr) (n : Nat) : valV (kv3 c g n) (.inr "great") = some (.ref g) := rfl
theorem v_cells (c g : Addr) (n : Nat) : valV (kv3 c g n) (.inr "cells") = some (.ref c) := rfl
theorem put_spot (c g : Addr) (n : Nat) : putK (kv3 c g n) (.inr "spot") (.int ((n : Int) + 1)) = kv3 c g (n + 1) := rfl
theorem put_great (c g g' : Addr) (n : Nat) : putK (kv3 c g n) (.inr "great") (.ref g') = kv3 c g' n := rfl
theorem s_getK {i j : Nat} {m : Addr} {kvs : List (Key × V)} {k : Str} {v : V} (hv : σ[i]? = some (some (.ref m))) (hm : H m = some (.dK kvs)) (hk : valV kvs (.inr k) = some v) (cont : us D (σ.set j (some v)) H) :
    tSeq (tAsg (tDGet (tVar i) (tC (.str k))) (gName j)) us D σ H := by
  refine ⟨_, hv, m, v, rfl, ?_, cont⟩
  rw [← hk]
  exact DGet.k (k := .inr k) hm
theorem s_putK {i : Nat} {m : Addr} {kvs kvs' : List (Key × V)} {k : Str} {d : PyData} (he : EvD K te σ H d) (hv : σ[i]? = some (some (.ref m))) (hm : H m = some (.dK kvs)) (hl : kvs.length < 1000)
    (hk : ∀ v H2, Dp K H2 v d → putK kvs (.inr k) v = kvs') (cont : ∀ H2, Same H H2 → us D σ (upd H2 m (.dK kvs'))) : tSeq (sDPut (tVar i) (tC (.str k)) te) us D σ H :=
  he H (Same.refl _) _ fun v H2 s2 h2 => ⟨_, hv, m, upd H2 m (.dK kvs'), rfl, by
    rw [← hk v H2 h2]
    exact DPut.k (k := .inr k) (s2 _ _ hm) (Nat.lt_of_lt_of_le hl (by decide)), cont H2 s2⟩
def spDraw : Sp := fun vs H Q _ => ∃ (m g : Addr) (L : Int) (n : Nat), vs = [.ref m, .int L] ∧ 0 < L ∧ L < 1000 ∧ (n : Int) < 2 ^ 50 ∧ Dr H m g n ∧ ∀ (r : Int) (H' : Hp), 0 ≤ r → r < L → FrX m g H H' → Dr H' m g (n + 1) → Q (.int r) H'
theorem sc_law_draw : FnScope ["m", "limit", "n", "lot", "here", "cell"] ["m", "limit"] (defScope s_law_draw) := ⟨rfl, rfl, rfl, by decide +kernel, rfl, by decide +kernel, by decide +kernel⟩
theorem ok_law_draw (T : Tx K mg w) : Cl P w K mg base 2 "_law_draw" spDraw := by
  have cM : Cl P w K mg base 1 "_law_mixed" (spD K 2 rMixed) := ok_law_mixed T
  refine cl_of T.f_law_draw sc_law_draw (fun _ _ _ _ _ _ us hl => match us, hl with | [_, _], _ => rfl) (fun vs H Q E h => by obtain ⟨m, g, L, n, rfl, _⟩ := h; rfl) (fun f cdv A outer s H vs Q E hr h => ?_)
  obtain ⟨m, g, L, n, rfl, L0, L1, nb, dr, q⟩ := h
  have nd := sc_law_draw.nd
  have hu := hr.units
  have hu1 : (A.deeper (envOfC "_law_draw" (defScope s_law_draw) s.heap.objs.size f cdv)).units + 1 < cLine := by omega
  refine ⟨_, pss_cons (ps_set (i := 2) nd rfl (Or.inl rfl) (pe_dget hu1 (pv 0) pe_str (fun _ _ => rfl)))
    (pss_cons (ps_dput hu1 (pv 0) pe_str (pe_op op_add (pv 2) pe_int) rfl)
    (pss_cons (ps_if (pt_cmpR (op_neD hu) (pe_dget hu1 (pv 0) pe_str (fun _ _ => rfl)) (pe_lst pa_nil) (nomark _))
      (pss_cons (ps_set (i := 3) nd rfl (Or.inl rfl) (pe_dget hu1 (pv 0) pe_str (fun _ _ => rfl)))
      (pss_cons (ps_set (i := 4) nd rfl (Or.inl rfl) (pe_op op_mod (pe_callTy call_int1 rfl T.b_int (by decide +kernel) (pa_cons (pv 2) pa_nil)) (pe_callB call_len_seq rfl T.b_len PySem.boot_len (pa_cons (pv 3) pa_nil))))
      (pss_cons (ps_set (i := 5) nd rfl (Or.inl rfl) (pe_ix ix_list (pv 3) (pv 4) (fun _ _ => rfl)))
      (pss_one (ps_if (pt_cmpR op_gt (pv 5) pe_int (nomark _))
        (pss_cons (ps_asg (pe_op op_fdiv (pv 5) (pv 1)) (pg_sub (pv 3) (pv 4) set_list))
        (pss_one (ps_ret (pe_op op_mod (pe_callTy call_int1 rfl T.b_int (by decide +kernel) (pa_cons (pv 5) pa_nil)) (pv 1))))) pss_nil))))) pss_nil)
    (pss_cons (ps_set (i := 3) nd rfl (Or.inl rfl) (pe_dget hu1 (pv 0) pe_str (fun _ _ => rfl)))
    (pss_one (ps_ret (pe_op op_mod (pe_callTy call_int1 rfl T.b_int (by decide +kernel) (pa_cons (pe_cl cM hr (by decide)
      (pa_cons (pe_cl cM hr (by decide) (pa_cons (pe_op op_add (pe_ix ix_list (pv 3) (pe_op op_mod (pe_callTy call_int1 rfl T.b_int (by decide +kernel) (pa_cons (pv 2) pa_nil)) pe_int) (fun _ _ => rfl)) (pe_op op_mul pe_int (pe_op op_fdiv (pv 2) pe_int))) (pa_cons (pv 2) pa_nil)))
        (pa_cons (pe_op op_add (pv 2) pe_int) pa_nil))) pa_nil)) (pv 1))))))), ?_⟩
  obtain ⟨c, ns, gs, h1, h2, h3, h4, h5, h6⟩ := dr.ex
  refine s_getK (k := "spot") rfl h1 (v_spot c g n) ?_
  refine s_putK (K := K) (k := "spot") (kvs' := kv3 c g (n + 1)) (ed_I0 (g := fun i j => .int (i + j)) (ed_var (i := 2) (v := .int (n : Int)) rfl (.int _)) ed_int fun _ => .int _) rfl h1 (by show 3 < 1000; decide) (fun v H2 hv => by cases hv.intOf; exact put_spot c g n) fun H2 s2 => ?_
  replace h1 := s2 _ _ h1
  replace h2 := s2 _ _ h2
  replace h4 := s2 _ _ h4
  have cm : c ≠ m := ne_of h2 h1 (by simp)
  have gm : g ≠ m := ne_of h4 h1 (by simp)
  have f2 : FrX m g H (upd H2 m (.dK (kv3 c g (n + 1)))) := fun a o e n1 _ => by rw [upd_ne n1]; exact s2 _ _ e
  have m2 : upd H2 m (.dK (kv3 c g (n + 1))) m = some (.dK (kv3 c g (n + 1))) := upd_same
  have c2 : upd H2 m (.dK (kv3 c g (n + 1))) c = some (.lst (ns.map V.int)) := by rw [upd_ne cm]; exact h2
  have g2 : upd H2 m (.dK (kv3 c g (n + 1))) g = some (.lst (gs.map V.int)) := by rw [upd_ne gm]; exact h4
  generalize upd H2 m (.dK (kv3 c g (n + 1))) = H2 at f2 m2 c2 g2 ⊢
  have rest : ∀ a3 a4 a5 H3, Same H2 H3 → tSeq (tAsg (tDGet (tVar 0) (tC (.str "cells"))) (gName 3)) (tRet (tOp (rI (fun _ j => 0 < j) fun i j => .int (i % j))
      (tCB (fun xs H Q => (∃ i, xs = [.int i] ∧ Q (.int i) H) ∨ ∃ k, xs = [.bl k] ∧ Q (.int (if k then 1 else 0)) H) (tCons (tCall (spD K 2 rMixed) [] E0 (tCons (tCall (spD K 2 rMixed) [] E0 (tCons (tOp (rI0 fun i j => .int (i + j))
        (tOp (rIxL K) (tVar 3) (tOp (rI (fun _ j => 0 < j) fun i j => .int (i % j)) (tCB (fun xs H Q => (∃ i, xs = [.int i] ∧ Q (.int i) H) ∨ ∃ k, xs = [.bl k] ∧ Q (.int (if k then 1 else 0)) H) (tCons (tVar 2) tNil)) (tC (.int 64))))
        (tOp (rI CMul fun i j => .int (i * j)) (tC (.int 31)) (tOp (rI CDiv fun i j => .int (i / j)) (tVar 2) (tC (.int 64))))) (tCons (tVar 2) tNil))) (tCons (tOp (rI0 fun i j => .int (i + j)) (tVar 2) (tC (.int 7))) tNil))) tNil)) (tVar 1))) { nx := fun _ H' => Q .non H', rt := Q }
      [some (.ref m), some (.int L), some (.int (n : Int)), a3, a4, a5] H3 := by
    intro a3 a4 a5 H3 s3
    refine s_getK (k := "cells") rfl (s3 _ _ m2) (v_cells c g (n + 1)) ?_
    have n64 : (n : Int) % 64 = ((n % 64 : Nat) : Int) := by omega
    obtain ⟨x, hx, x0, x1⟩ := h3.get (Nat.mod_lt n (by decide : 0 < 64))
    have v2 : EvD K (tVar 2) [some (.ref m), some (.int L), some (.int (n : Int)), some (.ref c), a4, a5] H3 (.int (n : Int)) := ed_var rfl (.int _)
    have v1 : EvD K (tVar 1) [some (.ref m), some (.int L), some (.int (n : Int)), some (.ref c), a4, a5] H3 (.int L) := ed_var rfl (.int _)
    have eI := ed_I (C := fun _ j => 0 < j) (g := fun i j => .int (i % j)) (ed_int1 v2) (ed_int (i := 64)) (by decide) fun _ => .int _
    rw [n64] at eI
    have e1 := ed_cell (σ := [some (.ref m), some (.int L), some (.int (n : Int)), some (.ref c), a4, a5]) (i := 3) rfl (s3 _ _ c2) eI hx
    have e2 := ed_I (C := CDiv) (g := fun i j => .int (i / j)) v2 (ed_int (i := 64)) ⟨by decide, by decide⟩ fun _ => .int _
    have e3 := ed_I (C := CMul) (g := fun i j => .int (i * j)) (ed_int (i := 31)) e2 (.inl (by decide)) fun _ => .int _
    have e4 := ed_I0 (g := fun i j => .int (i + j)) e1 e3 fun _ => .int _
    have e5 := ed_call (K := K) (E := E0) (R := rMixed) (ea_cons e4 (ea_cons v2 ea_nil)) rfl ⟨_, _, by omega, by omega, by omega, by omega, rfl, rfl⟩
    have e6 := ed_I0 (g := fun i j => .int (i + j)) v2 (ed_int (i := 7)) fun _ => .int _
    have hm := mixI_range (x + 31 * ((n : Int) / 64)) (n : Int)
    have e7 := ed_call (K := K) (E := E0) (R := rMixed) (ea_cons e5 (ea_cons e6 ea_nil)) rfl ⟨_, _, by omega, by omega, by omega, by omega, rfl, rfl⟩
    refine q_ret (K := K) (ed_I (C := fun _ j => 0 < j) (g := fun i j => .int (i % j)) (ed_int1 e7) v1 L0 fun _ => .int _) fun v' H4 s4 h4 => ?_
    cases h4.intOf
    refine q _ H4 (Int.emod_nonneg _ (by omega)) (Int.emod_lt_of_pos _ L0) (f2.trans (.of (s3.trans s4))) ?_
    have s24 := s3.trans s4
    exact ⟨c, ns, gs, s24 _ _ m2, s24 _ _ c2, h3, s24 _ _ g2, h5, h6⟩
  have ed1 : EvD K (tDGet (tVar 0) (tC (.str "great"))) [some (.ref m), some (.int L), some (.int (n : Int)), none, none, none] H2 (.list (gs.map PyData.int)) := fun H3 s3 Q q =>
    ⟨_, rfl, m, .ref g, rfl, DGet.k (k := .inr "great") (s3 _ _ m2), q _ H3 (Same.refl _) (.lst (SqL.of (s3 _ _ g2)) (ints_dp gs))⟩
  have sh1 : SeqAt.shaped (.list (gs.map PyData.int)) = true := lst_shaped (n := 0) (fun d hd => by obtain ⟨x, _, rfl⟩ := List.mem_map.mp hd; rfl) (fun d hd => by obtain ⟨x, _, rfl⟩ := List.mem_map.mp hd; exact Nat.le_refl _) (by decide)
  have et := et_test (ed_neD ed1 (ed_lst ea_nil (by show 0 ≤ 100000; decide)) sh1 lnil_shaped)
  rw [eqv_lnil] at et
  refine s_if et (fun z H3 s3 => ?_) fun z H3 s3 => rest _ _ _ H3 s3
  have gpos : 0 < gs.length := by
    cases gs with
    | nil => simp at z
    | cons x gs => simp
  refine s_getK (k := "great") rfl (s3 _ _ m2) (v_great c g (n + 1)) ?_
  have nl : (n : Int) % ((gs.map PyData.int).length : Int) = ((n % gs.length : Nat) : Int) := by
    rw [List.length_map]
    omega
  have eg : EvD K (tVar 3) [some (.ref m), some (.int L), some (.int (n : Int)), some (.ref g), none, none] H3 (.list (gs.map PyData.int)) := ed_var rfl (.lst (SqL.of (s3 _ _ g2)) (ints_dp gs))
  have eh := ed_I (C := fun _ j => 0 < j) (g := fun i j => .int (i % j)) (ed_int1 (ed_var (i := 2) (v := .int (n : Int)) rfl (.int _))) (ed_lenL eg) (by rw [List.length_map]; omega) fun _ => .int _
  rw [nl] at eh
  refine s_set eh fun v4 H4 s4 h4 => ?_
  cases h4.intOf
  have hlt := Nat.mod_lt n gpos
  obtain ⟨x, hx⟩ : ∃ x, gs[n % gs.length]? = some x := ⟨_, List.getElem?_eq_getElem hlt⟩
  have s34 := s3.trans s4
  refine s_set (K := K) (ed_cell (σ := [some (.ref m), some (.int L), some (.int (n : Int)), some (.ref g), some (.int ((n % gs.length : Nat) : Int)), none]) (i := 3) rfl (s34 _ _ g2) (ed_var rfl (.int _)) hx) fun v5 H5 s5 h5' => ?_
  cases h5'.intOf
  have s35 := s34.trans s5
  refine q_if (et_test (ed_I0 (K := K) (g := fun i j => .bl (decide (j < i))) (ed_var (i := 5) (v := .int x) rfl (.int _)) (ed_int (i := 0)) fun _ => .bl _)) (fun z5 H6 s6 => ?_) fun z5 H6 s6 => rest _ _ _ H6 (s35.trans s6)
  have s26 := s35.trans s6
  refine q_setIx (K := K) (c := x / L) rfl (s26 _ _ g2) (ed_I (C := CDiv) (g := fun i j => .int (i / j)) (ed_var (i := 5) (v := .int x) rfl (.int _)) (ed_var (i := 1) (v := .int L) rfl (.int _)) ⟨L0, by omega⟩ fun _ => .int _)
    (ed_var (i := 4) (v := .int ((n % gs.length : Nat) : Int)) rfl (.int _)) hlt fun H7 s7 => ?_
  refine q_ret (K := K) (ed_I (C := fun _ j => 0 < j) (g := fun i j => .int (i % j)) (ed_int1 (ed_var (i := 5) (v := .int x) rfl (.int _))) (ed_var (i := 1) (v := .int L) rfl (.int _)) L0 fun _ => .int _) fun v' H8 s8 h8 => ?_
  cases h8.intOf
  have s27 := s26.trans s7
  refine q _ H8 (Int.emod_nonneg _ (by omega)) (Int.emod_lt_of_pos _ L0) (fun a o e n1 n2 => s8 _ _ (by rw [upd_ne n2]; exact s27 _ _ (f2 a o e n1 n2))) ?_
  refine ⟨c, ns, gs.set (n % gs.length) (x / L), s8 _ _ ?_, s8 _ _ ?_, h3, s8 _ _ upd_same, by rw [List.length_set]; exact h5, h6⟩
  · rw [upd_ne gm.symm]
    exact s27 _ _ m2
  · rw [upd_ne h6]
    exact s27 _ _ c2
end
end K3
set_option maxRecDepth 100000
set_option maxHeartbeats 4000000
/-! ## _law_begun, _law_hope -/
namespace K3
open PySem PySem.Spec PyProof.Rows L2
section
variable {P : Program} {w : World} {K : PySem.W.Frag} {mg : Str → Option Value} {base : Heap} {H H1 H2 : Hp} {σ : L2.St} {ta tb tc te : TE} {D : Ends} {us : L2.TS} {ds es : List PyData} {as : TA} {Q : VK}
theorem s_setV {i : Nat} (h : te σ H fun v H1 => us D (σ.set i (some v)) H1) : tSeq (tAsg te (gName i)) us D σ H := h
theorem q_retV (h : te σ H D.rt) : tRet te D σ H := h
theorem n_next {t : L2.TS} {D' : Ends} (k : t D σ H) : tNext { nx := t D, rt := D'.rt, bk := D'.bk, ct := D'.ct } σ H := k
theorem q_op {r : R2} (h : ta σ H fun x H1 => tb σ H1 fun y H2 => r x y H2 Q) : tOp r ta tb σ H Q := h
theorem q_c {v : V} (h : Q v H) : tC v σ H Q := h
theorem q_var {i : Nat} {v : V} (hv : σ[i]? = some (some v)) (h : Q v H) : tVar i σ H Q := ⟨v, hv, h⟩
theorem q_tup2 (h : ta σ H fun x H1 => tb σ H1 fun y H2 => 2 ≤ sizeLine ∧ ∀ p, H2 p = none → Q (.ref p) (upd H2 p (.tup [x, y]))) : tTup (tCons ta (tCons tb tNil)) σ H Q := h
theorem q_tup3 (h : ta σ H fun x H1 => tb σ H1 fun y H2 => tc σ H2 fun z H3 => 3 ≤ sizeLine ∧ ∀ p, H3 p = none → Q (.ref p) (upd H3 p (.tup [x, y, z]))) : tTup (tCons ta (tCons tb (tCons tc tNil))) σ H Q := h
theorem s_putKL {i : Nat} {m : Addr} {kvs : List (Key × V)} {k : Str} (he : EvL K te σ H ds) (hv : σ[i]? = some (some (.ref m))) (hm : H m = some (.dK kvs)) (hl : kvs.length < 1000)
    (cont : ∀ q xs H2, Same H H2 → H q = none → H2 q = some (.lst xs) → DpAll K H2 xs ds → us D σ (upd H2 m (.dK (putK kvs (.inr k) (.ref q))))) : tSeq (sDPut (tVar i) (tC (.str k)) te) us D σ H :=
  he H (Same.refl _) _ fun q xs H2 s2 nq hq hx => ⟨_, hv, m, upd H2 m (.dK (putK kvs (.inr k) (.ref q))), rfl, DPut.k (k := .inr k) (s2 _ _ hm) (Nat.lt_of_lt_of_le hl (by decide)), cont q xs H2 s2 nq hq hx⟩
/-! ### _law_begun -/
def spBegun (K : PySem.W.Frag) : Sp := fun vs H Q _ => ∃ (a : Addr) (zs : List Int), vs = [.ref a] ∧ SqL K H a (zs.map V.int) ∧ zs.length ≤ 64 ∧ ∀ m g H', Same H H' → Dr H' m g 0 → Q (.ref m) H'
theorem sc_law_begun : FnScope ["script", "m", "cell"] ["script"] (defScope s_law_begun) := ⟨rfl, rfl, rfl, by decide +kernel, rfl, by decide +kernel, by decide +kernel⟩
def greatF : PyData → Option PyData
  | .int n => some (.int (if 1000000000000000000 ≤ n then n else 0))
  | _ => none
theorem great_of (zs : List Int) : (zs.map PyData.int).filterMap greatF = (zs.map fun n => if 1000000000000000000 ≤ n then n else 0).map PyData.int := by
  induction zs with
  | nil => rfl
  | cons n zs ih => simp only [List.map_cons, List.filterMap_cons, greatF, ih]
theorem ok_law_begun (T : Tx K mg w) : Cl P w K mg base 2 "_law_begun" (spBegun K) := by
  have cF : Cl P w K mg base 1 "_law_folded" (spF K) := ok_law_folded T
  refine cl_of T.f_law_begun sc_law_begun (fun _ _ _ _ _ _ us hl => match us, hl with | [_], _ => rfl) (fun vs H Q E h => by obtain ⟨a, zs, rfl, _⟩ := h; rfl) (fun f cdv A outer s H vs Q E hr h => ?_)
  obtain ⟨a, zs, rfl, ha, hzl, q⟩ := h
  have nd := sc_law_begun.nd
  have hu := hr.units
  have hu1 : (A.deeper (envOfC "_law_begun" (defScope s_law_begun) s.heap.objs.size f cdv)).units + 1 < cLine := by omega
  refine ⟨_, pss_cons (ps_set (i := 1) nd rfl (Or.inl rfl) (pe_disp (pps_cons pe_str (pe_cl cF hr (by decide) (pa_cons (pv 0) pa_nil)) (pps_cons pe_str (pe_lst pa_nil) (pps_cons pe_str pe_int pps_nil))) (by rfl) (by rfl) (fun z => by cases z) (by decide)))
    (pss_cons (ps_dput hu1 (pv 1) pe_str (pe_lc (own := [("cell", 2)]) (g := gName 2) (tt := tYes) rfl nd (pi_list (pv 0)) (blkOk_by (N := ["script", "m", "cell"]) (sc := defScope s_law_begun) (by decide +kernel))
      (fun _ _ _ _ _ => pg_name (i := 2) nd rfl (Or.inl rfl)) (fun _ _ _ _ _ => pts_nil) (fun _ _ _ _ _ => pe_ifExp (pt_cmpR op_ge (pv 2) (pe_op op_pow pe_int pe_int) (nomark _)) (pv 2) pe_int)) rfl)
    (pss_one (ps_ret (pv 1)))), ?_⟩
  refine s_setV ?_
  intro p hp
  have s0 := same_new hp (HO.dK [])
  refine ⟨_, rfl, a, zs, rfl, s0.seq ha, hzl, fun pc ns H2 s2 npc hpc hc => ?_⟩
  refine ⟨by show 0 ≤ sizeLine; decide, fun g0 hg0 => ?_⟩
  have s3 := same_new hg0 (HO.lst [])
  refine ⟨s3 _ _ (s2 _ _ upd_same), kv3 pc g0 0, rfl, by show 3 ≤ 15; decide, ?_⟩
  have h1 : upd (upd H2 g0 (.lst [])) p (.dK (mergeK [] (kv3 pc g0 0))) p = some (.dK (kv3 pc g0 0)) := upd_same
  have npc2 : pc ≠ p := fun e => by
    rw [e, upd_same] at npc
    cases npc
  have h2 : upd (upd H2 g0 (.lst [])) p (.dK (mergeK [] (kv3 pc g0 0))) pc = some (.lst (ns.map V.int)) := by
    rw [upd_ne npc2]
    exact s3 _ _ hpc
  have s4 : Same H (upd (upd H2 g0 (.lst [])) p (.dK (mergeK [] (kv3 pc g0 0)))) := fun c o e => by
    rw [upd_ne (ne_of_none e hp)]
    exact s3 _ _ (s2 _ _ (s0 _ _ e))
  generalize upd (upd H2 g0 (.lst [])) p (.dK (mergeK [] (kv3 pc g0 0))) = H4 at h1 h2 s4 ⊢
  refine s_putKL (K := K) (ds := (zs.map fun n => if 1000000000000000000 ≤ n then n else 0).map PyData.int) ?_ rfl h1 (by show 3 < 1000; decide) fun g1 xs H5 s5 np5 h5 hx5 => ?_
  · rw [← great_of]
    have ev : EvD K (tVar 0) ((start ["script", "m", "cell"] [V.ref a]).set 1 (some (.ref p))) H4 (.list (zs.map PyData.int)) := ed_var rfl (.lst (s4.seq ha) (ints_dp zs))
    refine el_lc ev (by rw [List.length_map]; omega) fun d hd => ?_
    obtain ⟨n, _, rfl⟩ := List.mem_map.mp hd
    intro x H' s' hx
    cases hx.intOf
    refine ⟨_, true, fun Q q => q, rfl, et_yes, ?_⟩
    rw [if_pos rfl]
    refine ⟨_, rfl, rfl, ?_⟩
    have ei : EvD K (tVar 2) ((wipe ((start ["script", "m", "cell"] [V.ref a]).set 1 (some (.ref p))) [2]).set 2 (some (.int n))) H' (.int n) := ed_var rfl (.int _)
    have ep : EvD K (tOp (rI CPow fun i j => .int (i ^ j.toNat)) (tC (.int 10)) (tC (.int 18))) ((wipe ((start ["script", "m", "cell"] [V.ref a]).set 1 (some (.ref p))) [2]).set 2 (some (.int n))) H' (.int 1000000000000000000) :=
      ed_I ed_int ed_int ⟨by decide, by decide, by decide⟩ fun _ => .int _
    refine ed_if (et_test (ed_I0 (g := fun i j => .bl (decide (j ≤ i))) ei ep fun _ => .bl _)) (fun z => ?_) fun z => ?_
    · rw [if_pos (of_decide_eq_true z)]
      exact ei
    · rw [if_neg (of_decide_eq_false z)]
      exact ed_int
  · obtain rfl := ints_of hx5
    rw [put_great]
    have n1 : g1 ≠ p := fun e => by rw [e, h1] at np5; cases np5
    have n2 : g1 ≠ pc := fun e => by rw [e, h2] at np5; cases np5
    refine ⟨_, rfl, q p g1 _ (fun c o e => ?_) ⟨pc, ns, zs.map fun n => if 1000000000000000000 ≤ n then n else 0, upd_same, ?_, hc, ?_, by rw [List.length_map]; exact hzl, n2.symm⟩⟩
    · rw [upd_ne (ne_of_none e hp)]
      exact s5 _ _ (s4 _ _ e)
    · rw [upd_ne npc2]
      exact s5 _ _ h2
    · rw [upd_ne n1]
      exact h5
/-! ### draws -/
theorem ev_draw {E : XK} {i : Nat} {m g : Addr} {L : Int} {n : Nat} {tl : TE} (hv : σ[i]? = some (some (.ref m))) (hL : EvD K tl σ H (.int L)) (L0 : 0 < L) (L1 : L < 1000) (hn : (n : Int) < 2 ^ 50) (d : Dr H m g n)
    (k : ∀ (r : Int) (H' : Hp), 0 ≤ r → r < L → FrX m g H H' → Dr H' m g (n + 1) → Q (.int r) H') : tCall spDraw [] E (tCons (tVar i) (tCons tl tNil)) σ H Q :=
  ⟨_, hv, hL H (Same.refl _) _ fun v H1 s1 h1 => by
    cases h1.intOf
    exact ⟨m, g, L, n, rfl, L0, L1, hn, d.same s1, fun r H' r0 r1 f d' => k r H' r0 r1 ((FrX.of s1).trans f) d'⟩⟩
theorem Dr.ne {m g p : Addr} {n : Nat} (d : Dr H m g n) (hp : H p = none) : p ≠ m ∧ p ≠ g := by
  obtain ⟨c, ns, gs, h1, h2, h3, h4, h5, h6⟩ := d.ex
  exact ⟨(fun e => by rw [e, h1] at hp; cases hp), (fun e => by rw [e, h4] at hp; cases hp)⟩
/-- a word drawn out of a list -/
theorem ev_pick {E : XK} {i : Nat} {m g : Addr} {cs : List Str} {n : Nat} {tl : TE} (hl : EvL K te σ H (cs.map PyData.str)) (hv : σ[i]? = some (some (.ref m))) (hL : EvD K tl σ H (.int (cs.length : Int))) (L0 : 0 < cs.length) (L1 : cs.length < 1000) (hn : (n : Int) < 2 ^ 50) (d : Dr H m g n)
    (k : ∀ c H', c ∈ cs → FrX m g H H' → Dr H' m g (n + 1) → Q (.str c) H') : tOp (rIxL K) te (tCall spDraw [] E (tCons (tVar i) (tCons tl tNil))) σ H Q :=
  hl H (Same.refl _) _ fun p xs H1 s1 np hp hx => ev_draw hv (hL.mono s1) (by omega) (by omega) hn (d.same s1) fun r H2 r0 r1 f d2 => by
    obtain ⟨n1, n2⟩ := d.ne np
    have hp2 := f _ _ hp n1 n2
    have hr : r.toNat < cs.length := by omega
    obtain ⟨c, hc, hm⟩ : ∃ c, cs[r.toNat]? = some c ∧ c ∈ cs := ⟨_, List.getElem?_eq_getElem hr, List.getElem_mem hr⟩
    have e1 : (cs.map PyData.str)[r.toNat]? = some (.str c) := by rw [List.getElem?_map, hc]; rfl
    obtain ⟨v, hv1, hv2⟩ := hx.get e1
    cases hv2.strOf
    refine ⟨p, xs, r, _, rfl, rfl, SqL.of hp2, ?_, k _ H2 hm ((FrX.of s1).trans f) d2⟩
    have e2 : r = ((r.toNat : Nat) : Int) := by omega
    rw [e2]
    exact atI_nat hv1
def spHope (K : PySem.W.Frag) (N : Nat) : Sp := fun vs H Q _ => ∃ (m g : Addr) (left timed : Int) (n : Nat), vs = [.ref m, .int left, .int timed] ∧ 1 ≤ left ∧ left ≤ N ∧ 0 ≤ timed ∧ ((n : Int) + 3 * left < 2 ^ 50) ∧ Dr H m g n ∧
  ∀ (x : Wi) (v : V) (n' : Nat) (H' : Hp), x.Ok → (x.size : Int) ≤ left → (x.tm : Int) ≤ timed → FrX m g H H' → Dr H' m g n' → (n' : Int) ≤ n + 3 * left → Dp K H' v x.dat → Q v H'
theorem ev_hope {E : XK} {N i : Nat} {m g : Addr} {left timed : Int} {n : Nat} {tl tt : TE} (hv : σ[i]? = some (some (.ref m))) (hL : EvD K tl σ H (.int left)) (hT : EvD K tt σ H (.int timed)) (l1 : 1 ≤ left) (l2 : left ≤ N) (t0 : 0 ≤ timed) (hn : (n : Int) + 3 * left < 2 ^ 50) (d : Dr H m g n)
    (k : ∀ (x : Wi) (v : V) (n' : Nat) (H' : Hp), x.Ok → (x.size : Int) ≤ left → (x.tm : Int) ≤ timed → FrX m g H H' → Dr H' m g n' → (n' : Int) ≤ n + 3 * left → Dp K H' v x.dat → Q v H') : tCall (spHope K N) [] E (tCons (tVar i) (tCons tl (tCons tt tNil))) σ H Q :=
  ⟨_, hv, hL H (Same.refl _) _ fun v H1 s1 h1 => hT H1 s1 _ fun u H2 s2 h2 => by
    cases h1.intOf
    cases h2.intOf
    exact ⟨m, g, left, timed, n, rfl, l1, l2, t0, hn, d.same (s1.trans s2), fun x v n' H' ok hs ht f d' hn' hv => k x v n' H' ok hs ht ((FrX.of (s1.trans s2)).trans f) d' hn' hv⟩⟩
theorem and_or : ∀ c ∈ (["and", "or"] : List Str), c ∈ biW ∧ tmW c = 0 := by decide +kernel
theorem tim_un : ∀ c ∈ (["next", "ever", "always"] : List Str), c ∈ unW ∧ tmW c = 1 := by decide +kernel
theorem sc_law_hope : FnScope ["m", "left", "timed", "pick", "leaf", "size", "near"] ["m", "left", "timed"] (defScope s_law_hope) := ⟨rfl, rfl, rfl, by decide +kernel, rfl, by decide +kernel, by decide +kernel⟩
theorem ok_law_hope (T : Tx K mg w) : ∀ N : Nat, N ≤ 60 → Cl P w K mg base (N + 3) "_law_hope" (spHope K N)
  | 0, _ => by
    refine cl_of T.f_law_hope sc_law_hope (fun _ _ _ _ _ _ us hl => match us, hl with | [_, _, _], _ => rfl) (fun vs H Q E h => by obtain ⟨m, g, left, timed, n, rfl, _⟩ := h; rfl) (fun f cdv A outer s H vs Q E hr h => ?_)
    obtain ⟨m, g, left, timed, n, rfl, l1, l2, _⟩ := h
    omega
  | N + 1, hN => by
    have cS : Cl P w K mg base (N + 3) "_law_hope" (spHope K N) := ok_law_hope T N (by omega)
    have cD : Cl P w K mg base 2 "_law_draw" spDraw := ok_law_draw T
    refine cl_of T.f_law_hope sc_law_hope (fun _ _ _ _ _ _ us hl => match us, hl with | [_, _, _], _ => rfl) (fun vs H Q E h => by obtain ⟨m, g, left, timed, n, rfl, _⟩ := h; rfl) (fun f cdv A outer s H vs Q E hr h => ?_)
    obtain ⟨m, g, left, timed, n, rfl, l1, l2, t0, hn, d, q⟩ := h
    have nd := sc_law_hope.nd
    have hr2 : Room (N + 3) (A.deeper (envOfC "_law_hope" (defScope s_law_hope) s.heap.objs.size f cdv)) := hr
    refine ⟨_, pss_cons (ps_set (i := 3) nd rfl (Or.inl rfl) (pe_cl cD hr (by omega) (pa_cons (pv 0) (pa_cons pe_int pa_nil))))
      (pss_cons (ps_if (PW.pt (pw_or (pt_cmpR op_lt (pv 1) pe_int (nomark _)) (pw_or1 (pt_cmpR op_lt (pv 3) pe_int (nomark _)))))
        (pss_cons (ps_set (i := 4) nd rfl (Or.inl rfl) (pe_cl cD hr (by omega) (pa_cons (pv 0) (pa_cons pe_int pa_nil))))
        (pss_one (ps_ret (pe_ifExp (pt_cmpR op_lt (pv 4) pe_int (nomark _)) (pe_tup (pa_cons pe_str (pa_cons (pe_cl cD hr (by omega) (pa_cons (pv 0) (pa_cons pe_int pa_nil))) pa_nil)))
          (pe_ix ix_list (pe_lst (pa_cons (pe_tup (pa_cons pe_str (pa_cons pe_int pa_nil))) (pa_cons (pe_tup (pa_cons pe_str pa_nil)) (pa_cons (pe_tup (pa_cons pe_str pa_nil)) pa_nil)))) (pe_op op_sub (pv 4) pe_int) (fun _ _ => rfl)))))) pss_nil)
      (pss_cons (ps_if (PW.pt (pw_or (pt_cmpR op_lt (pv 3) pe_int (nomark _)) (pw_or1 (pt_cmpR op_eq (pv 2) pe_int (nomark _)))))
        (pss_cons (ps_if (PW.pt (pw_or (pt_cmpR op_lt (pv 1) pe_int (nomark _)) (pw_or1 (pt_cmpR op_eq (pv 3) pe_int (nomark _)))))
          (pss_one (ps_ret (pe_tup (pa_cons pe_str (pa_cons (pe_cl cS hr (by omega) (pa_cons (pv 0) (pa_cons (pe_op op_sub (pv 1) pe_int) (pa_cons (pv 2) pa_nil)))) pa_nil))))) pss_nil)
        (pss_cons (ps_set (i := 5) nd rfl (Or.inl rfl) (pe_op op_add pe_int (pe_cl cD hr (by omega) (pa_cons (pv 0) (pa_cons (pe_op op_sub (pv 1) pe_int) pa_nil)))))
        (pss_cons (ps_set (i := 6) nd rfl (Or.inl rfl) (pe_cl cS hr (by omega) (pa_cons (pv 0) (pa_cons (pv 5) (pa_cons (pe_op op_fdiv (pv 2) pe_int) pa_nil)))))
        (pss_one (ps_ret (pe_tup (pa_cons (pe_ix ix_list (pe_lst (pa_cons pe_str (pa_cons pe_str pa_nil))) (pe_cl cD hr (by omega) (pa_cons (pv 0) (pa_cons pe_int pa_nil))) (fun _ _ => rfl)) (pa_cons (pv 6)
          (pa_cons (pe_cl cS hr (by omega) (pa_cons (pv 0) (pa_cons (pe_op op_sub (pe_op op_sub (pv 1) pe_int) (pv 5)) (pa_cons (pe_op op_sub (pv 2) (pe_op op_fdiv (pv 2) pe_int)) pa_nil)))) pa_nil))))))))) pss_nil)
      (pss_cons (ps_if (PW.pt (pw_and (pt_cmpR op_gt (pv 1) pe_int (nomark _)) (pw_and1 (pt_cmpR op_lt (pv 3) pe_int (nomark _)))))
        (pss_cons (ps_set (i := 5) nd rfl (Or.inl rfl) (pe_op op_add pe_int (pe_cl cD hr (by omega) (pa_cons (pv 0) (pa_cons (pe_op op_sub (pv 1) pe_int) pa_nil)))))
        (pss_cons (ps_set (i := 6) nd rfl (Or.inl rfl) (pe_cl cS hr (by omega) (pa_cons (pv 0) (pa_cons (pv 5) (pa_cons (pe_op op_fdiv (pe_op op_sub (pv 2) pe_int) pe_int) pa_nil)))))
        (pss_one (ps_ret (pe_tup (pa_cons pe_str (pa_cons (pv 6)
          (pa_cons (pe_cl cS hr (by omega) (pa_cons (pv 0) (pa_cons (pe_op op_sub (pe_op op_sub (pv 1) pe_int) (pv 5)) (pa_cons (pe_op op_sub (pe_op op_sub (pv 2) pe_int) (pe_op op_fdiv (pe_op op_sub (pv 2) pe_int) pe_int)) pa_nil)))) pa_nil)))))))) pss_nil)
      (pss_one (ps_ret (pe_tup (pa_cons (pe_ix ix_list (pe_lst (pa_cons pe_str (pa_cons pe_str (pa_cons pe_str pa_nil)))) (pe_cl cD hr (by omega) (pa_cons (pv 0) (pa_cons pe_int pa_nil))) (fun _ _ => rfl))
        (pa_cons (pe_cl cS hr (by omega) (pa_cons (pv 0) (pa_cons (pe_op op_sub (pv 1) pe_int) (pa_cons (pe_op op_sub (pv 2) pe_int) pa_nil)))) pa_nil)))))))), ?_⟩
    refine s_setV (ev_draw (n := n) rfl (ed_int (K := K)) (by decide) (by decide) (by omega) d fun pick H1 p0 p1 f1 d1 => ?_)
    have v0 : ∀ a4 a5 a6, ([some (.ref m), some (.int left), some (.int timed), some (.int pick), a4, a5, a6] : L2.St)[0]? = some (some (.ref m)) := fun _ _ _ => rfl
    have e1 : ∀ a4 a5 a6 H, EvD K (tVar 1) [some (.ref m), some (.int left), some (.int timed), some (.int pick), a4, a5, a6] H (.int left) := fun _ _ _ _ => ed_var rfl (.int _)
    have e2 : ∀ a4 a5 a6 H, EvD K (tVar 2) [some (.ref m), some (.int left), some (.int timed), some (.int pick), a4, a5, a6] H (.int timed) := fun _ _ _ _ => ed_var rfl (.int _)
    have e3 : ∀ a4 a5 a6 H, EvD K (tVar 3) [some (.ref m), some (.int left), some (.int timed), some (.int pick), a4, a5, a6] H (.int pick) := fun _ _ _ _ => ed_var rfl (.int _)
    refine s_if (et_or (et_test (ed_I0 (g := fun i j => .bl (decide (i < j))) (e1 none none none H1) (ed_int (i := 2)) fun _ => .bl _)) fun _ => et_test (ed_I0 (g := fun i j => .bl (decide (i < j))) (e3 none none none H1) (ed_int (i := 2)) fun _ => .bl _)) (fun z H2 s2 => ?_) fun z H2 s2 => ?_
    · refine s_setV (ev_draw (n := n + 1) (v0 _ _ _) (ed_int (K := K)) (by decide) (by decide) (by omega) (d1.same s2) fun leaf H3 q0 q1 f3 d3 => ?_)
      have e4 : ∀ H, EvD K (tVar 4) [some (.ref m), some (.int left), some (.int timed), some (.int pick), some (.int leaf), none, none] H (.int leaf) := fun _ => ed_var rfl (.int _)
      have f13 : FrX m g H H3 := f1.trans ((FrX.of s2).trans f3)
      refine q_retV ?_
      refine et_test (ed_I0 (g := fun i j => .bl (decide (i < j))) (e4 H3) (ed_int (i := 2)) fun _ => .bl _) H3 (Same.refl _) _ fun H4 s4 => ?_
      by_cases hl : leaf < 2
      · rw [decide_eq_true hl]
        refine iteT ?_
        refine ev_draw (n := n + 2) rfl (ed_int (K := K)) (by decide) (by decide) (by omega) (d3.same s4) fun r H5 r0 r1 f5 d5 => ?_
        refine ⟨by show 2 ≤ sizeLine; decide, fun p hp => ?_⟩
        have s6 := same_new hp (HO.tup [.str "mark", .int r])
        refine q (.mark r) _ (n + 3) _ ⟨r0, by omega⟩ (by simp only [Wi.size]; omega) (by show ((tmW "mark" : Nat) : Int) ≤ timed; exact t0) (f13.trans ((FrX.of s4).trans (f5.trans (.of s6)))) (d5.same s6) (by omega) ?_
        exact .tup (SqT.of upd_same) (.cons (.str _) (.cons (.int _) .nil))
      · rw [decide_eq_false hl]
        refine iteF ?_
        have el : EvD K (tLst (tCons (tTup (tCons (tC (.str "mark")) (tCons (tC (.int 2)) tNil))) (tCons (tTup (tCons (tC (.str "true")) tNil)) (tCons (tTup (tCons (tC (.str "false")) tNil)) tNil))))
            [some (.ref m), some (.int left), some (.int timed), some (.int pick), some (.int leaf), none, none] H4 (.list ([Wi.mark 2, .nul "true", .nul "false"].map Wi.dat)) :=
          ed_lst (ds := [Wi.mark 2, .nul "true", .nul "false"].map Wi.dat) (ea_cons (ed_tup (ea_cons ed_str (ea_cons ed_int ea_nil)) (by show 2 ≤ 100000; decide)) (ea_cons (ed_tup (ea_cons ed_str ea_nil) (by show 1 ≤ 100000; decide)) (ea_cons (ed_tup (ea_cons ed_str ea_nil) (by show 1 ≤ 100000; decide)) ea_nil))) (by show 3 ≤ 100000; decide)
        obtain ⟨j, hj, rfl⟩ : ∃ j : Nat, j < 3 ∧ leaf = (j : Int) + 2 := ⟨(leaf - 2).toNat, by omega, by omega⟩
        have ei := ed_I0 (g := fun i j => .int (i - j)) (e4 H4) (ed_int (i := 2)) fun _ => .int _
        have ej : ((j : Int) + 2 - 2) = (j : Int) := by omega
        rw [ej] at ei
        obtain ⟨x, hx, hok, hs, ht⟩ : ∃ x, [Wi.mark 2, .nul "true", .nul "false"][j]? = some x ∧ x.Ok ∧ x.size = 1 ∧ x.tm = 0 := by
          match j, hj with
          | 0, _ => exact ⟨_, rfl, ⟨by decide, by decide⟩, rfl, rfl⟩
          | 1, _ => exact ⟨_, rfl, by simp [Wi.Ok, nulW], rfl, rfl⟩
          | 2, _ => exact ⟨_, rfl, by simp [Wi.Ok, nulW], rfl, rfl⟩
        refine ed_ixL (d := x.dat) el ei (by rw [List.getElem?_map, hx]; rfl) H4 (Same.refl _) _ fun v H5 s5 h5 => ?_
        exact q x v (n + 2) H5 hok (by omega) (by omega) (f13.trans (.of (s4.trans s5))) (d3.same (s4.trans s5)) (by omega) h5
    · have z2 : 2 ≤ left ∧ 2 ≤ pick := by simpa using z
      have d2 := d1.same s2
      have f2 : FrX m g H H2 := f1.trans (.of s2)
      refine s_if (et_or (et_test (ed_I0 (g := fun i j => .bl (decide (i < j))) (e3 none none none H2) (ed_int (i := 4)) fun _ => .bl _)) fun _ => et_test (ed_eqI (e2 none none none H2) (ed_int (i := 0)))) (fun y H3 s3 => ?_) fun y H3 s3 => ?_
      · refine s_if (et_or (et_test (ed_I0 (g := fun i j => .bl (decide (i < j))) (e1 none none none H3) (ed_int (i := 3)) fun _ => .bl _)) fun _ => et_test (ed_eqI (e3 none none none H3) (ed_int (i := 2)))) (fun x H4 s4 => ?_) fun x H4 s4 => ?_
        · refine q_retV ?_
          refine ev_hope (m := m) (g := g) (left := left - 1) (timed := timed) (n := n + 1) rfl (ed_I0 (g := fun i j => .int (i - j)) (e1 none none none H4) (ed_int (i := 1)) fun _ => .int _) (e2 none none none H4) (by omega) (by omega) t0 (by omega) (d2.same (s3.trans s4)) fun x v n' H5 ok hs ht f5 d5 hn' hv => ?_
          refine ⟨by show 2 ≤ sizeLine; decide, fun p hp => ?_⟩
          have s6 := same_new hp (HO.tup [.str "no", v])
          refine q (.un "no" x) _ n' _ ⟨by simp [unW], ok⟩ (by simp only [Wi.size]; omega) (by show ((x.tm + tmW "no" : Nat) : Int) ≤ timed; exact ht) (f2.trans ((FrX.of (s3.trans s4)).trans (f5.trans (.of s6)))) (d5.same s6) (by omega) ?_
          exact .tup (SqT.of upd_same) (.cons (.str _) (.cons (Dp.same s6 _ _ hv) .nil))
        · have x2 : 3 ≤ left := by
            have : 3 ≤ left ∧ pick ≠ 2 := by simpa using x
            exact this.1
          refine s_setV (q_op (q_c (ev_draw (n := n + 1) rfl (ed_I0 (g := fun i j => .int (i - j)) (e1 none none none H4) (ed_int (i := 2)) fun _ => .int _) (by omega) (by omega) (by omega) (d2.same (s3.trans s4)) fun r H5 r0 r1 f5 d5 => ?_)))
          refine ⟨1, r, rfl, rfl, ?_⟩
          have f25 : FrX m g H H5 := f2.trans ((FrX.of (s3.trans s4)).trans f5)
          have e5 : ∀ a6 H, EvD K (tVar 5) [some (.ref m), some (.int left), some (.int timed), some (.int pick), none, some (.int (1 + r)), a6] H (.int (1 + r)) := fun _ _ => ed_var rfl (.int _)
          refine s_setV (ev_hope (m := m) (g := g) (left := 1 + r) (timed := timed / 2) (n := n + 2) rfl (e5 none H5) (ed_I (C := CDiv) (g := fun i j => .int (i / j)) (e2 none (some (.int (1 + r))) none H5) (ed_int (i := 2)) ⟨by decide, by decide⟩ fun _ => .int _) (by omega) (by omega) (by omega) (by omega) d5 fun x v n' H6 ok hs ht f6 d6 hn' hv => ?_)
          have f26 : FrX m g H H6 := f25.trans f6
          refine q_retV (q_tup3 ?_)
          refine ev_pick (cs := ["and", "or"]) (n := n') (el_lst (ds := (["and", "or"] : List Str).map PyData.str) (ea_cons ed_str (ea_cons ed_str ea_nil)) (by show 2 ≤ 100000; decide)) rfl (ed_int (i := 2)) (by decide) (by decide) (by omega) d6 fun c H7 hc f7 d7 => ?_
          refine q_var rfl ?_
          refine ev_hope (m := m) (g := g) (left := left - 1 - (1 + r)) (timed := timed - timed / 2) (n := n' + 1) rfl (ed_I0 (g := fun i j => .int (i - j)) (ed_I0 (g := fun i j => .int (i - j)) (e1 none (some (.int (1 + r))) (some v) H7) (ed_int (i := 1)) fun _ => .int _) (e5 (some v) H7) fun _ => .int _) (ed_I0 (g := fun i j => .int (i - j)) (e2 none (some (.int (1 + r))) (some v) H7) (ed_I (C := CDiv) (g := fun i j => .int (i / j)) (e2 none (some (.int (1 + r))) (some v) H7) (ed_int (i := 2)) ⟨by decide, by decide⟩ fun _ => .int _) fun _ => .int _) (by omega) (by omega) (by omega) (by omega) d7 fun y u n2 H8 ok2 hs2 ht2 f8 d8 hn2 hu => ?_
          refine ⟨by show 3 ≤ sizeLine; decide, fun p hp => ?_⟩
          have s9 := same_new hp (HO.tup [.str c, v, u])
          have hv8 : Dp K H8 v x.dat := Dp.ts (FrX.tstay d6 (f7.trans f8)) _ _ (dat_tup x) hv
          refine q (.bi c x y) _ n2 _ ⟨(and_or c hc).1, ok, ok2⟩ (by simp only [Wi.size]; omega) ?_ (f26.trans ((f7.trans f8).trans (.of s9))) (d8.same s9) (by omega) ?_
          · show ((x.tm + y.tm + tmW c : Nat) : Int) ≤ timed
            have hw : tmW c = 0 := (and_or c hc).2
            omega
          · exact .tup (SqT.of upd_same) (.cons (.str _) (.cons (Dp.same s9 _ _ hv8) (.cons (Dp.same s9 _ _ hu) .nil)))
      · have y2 : 4 ≤ pick ∧ timed ≠ 0 := by simpa using y
        refine s_if (et_and (et_test (ed_I0 (g := fun i j => .bl (decide (j < i))) (e1 none none none H3) (ed_int (i := 2)) fun _ => .bl _)) fun _ => et_test (ed_I0 (g := fun i j => .bl (decide (i < j))) (e3 none none none H3) (ed_int (i := 6)) fun _ => .bl _)) (fun x H4 s4 => ?_) fun x H4 s4 => ?_
        · have x2 : 2 < left ∧ pick < 6 := by simpa using x
          refine s_setV (q_op (q_c (ev_draw (n := n + 1) rfl (ed_I0 (g := fun i j => .int (i - j)) (e1 none none none H4) (ed_int (i := 2)) fun _ => .int _) (by omega) (by omega) (by omega) (d2.same (s3.trans s4)) fun r H5 r0 r1 f5 d5 => ?_)))
          refine ⟨1, r, rfl, rfl, ?_⟩
          have f25 : FrX m g H H5 := f2.trans ((FrX.of (s3.trans s4)).trans f5)
          have e5 : ∀ a6 H, EvD K (tVar 5) [some (.ref m), some (.int left), some (.int timed), some (.int pick), none, some (.int (1 + r)), a6] H (.int (1 + r)) := fun _ _ => ed_var rfl (.int _)
          refine s_setV (ev_hope (m := m) (g := g) (left := 1 + r) (timed := (timed - 1) / 2) (n := n + 2) rfl (e5 none H5) (ed_I (C := CDiv) (g := fun i j => .int (i / j)) (ed_I0 (g := fun i j => .int (i - j)) (e2 none (some (.int (1 + r))) none H5) (ed_int (i := 1)) fun _ => .int _) (ed_int (i := 2)) ⟨by decide, by decide⟩ fun _ => .int _) (by omega) (by omega) (by omega) (by omega) d5 fun x v n' H6 ok hs ht f6 d6 hn' hv => ?_)
          have f26 : FrX m g H H6 := f25.trans f6
          refine q_retV (q_tup3 ?_)
          refine q_c ?_
          refine q_var rfl ?_
          refine ev_hope (m := m) (g := g) (left := left - 1 - (1 + r)) (timed := timed - 1 - (timed - 1) / 2) (n := n') rfl (ed_I0 (g := fun i j => .int (i - j)) (ed_I0 (g := fun i j => .int (i - j)) (e1 none (some (.int (1 + r))) (some v) H6) (ed_int (i := 1)) fun _ => .int _) (e5 (some v) H6) fun _ => .int _) (ed_I0 (g := fun i j => .int (i - j)) (ed_I0 (g := fun i j => .int (i - j)) (e2 none (some (.int (1 + r))) (some v) H6) (ed_int (i := 1)) fun _ => .int _) (ed_I (C := CDiv) (g := fun i j => .int (i / j)) (ed_I0 (g := fun i j => .int (i - j)) (e2 none (some (.int (1 + r))) (some v) H6) (ed_int (i := 1)) fun _ => .int _) (ed_int (i := 2)) ⟨by decide, by decide⟩ fun _ => .int _) fun _ => .int _) (by omega) (by omega) (by omega) (by omega) d6 fun y u n2 H8 ok2 hs2 ht2 f8 d8 hn2 hu => ?_
          refine ⟨by show 3 ≤ sizeLine; decide, fun p hp => ?_⟩
          have s9 := same_new hp (HO.tup [.str "till", v, u])
          have hv8 : Dp K H8 v x.dat := Dp.ts (FrX.tstay d6 f8) _ _ (dat_tup x) hv
          refine q (.bi "till" x y) _ n2 _ ⟨(by simp [biW]), ok, ok2⟩ (by simp only [Wi.size]; omega) ?_ (f26.trans (f8.trans (.of s9))) (d8.same s9) (by omega) ?_
          · show ((x.tm + y.tm + tmW "till" : Nat) : Int) ≤ timed
            have hw : tmW "till" = 1 := by decide +kernel
            omega
          · exact .tup (SqT.of upd_same) (.cons (.str _) (.cons (Dp.same s9 _ _ hv8) (.cons (Dp.same s9 _ _ hu) .nil)))
        · refine n_next (q_retV (q_tup2 ?_))
          refine ev_pick (cs := ["next", "ever", "always"]) (n := n + 1) (el_lst (ds := (["next", "ever", "always"] : List Str).map PyData.str) (ea_cons ed_str (ea_cons ed_str (ea_cons ed_str ea_nil))) (by show 3 ≤ 100000; decide)) rfl (ed_int (i := 3)) (by decide) (by decide) (by omega) (d2.same (s3.trans s4)) fun c H5 hc f5 d5 => ?_
          refine ev_hope (m := m) (g := g) (left := left - 1) (timed := timed - 1) (n := n + 2) rfl (ed_I0 (g := fun i j => .int (i - j)) (e1 none none none H5) (ed_int (i := 1)) fun _ => .int _) (ed_I0 (g := fun i j => .int (i - j)) (e2 none none none H5) (ed_int (i := 1)) fun _ => .int _) (by omega) (by omega) (by omega) (by omega) d5 fun x v n' H6 ok hs ht f6 d6 hn' hv => ?_
          refine ⟨by show 2 ≤ sizeLine; decide, fun p hp => ?_⟩
          have s7 := same_new hp (HO.tup [.str c, v])
          refine q (.un c x) _ n' _ ⟨(tim_un c hc).1, ok⟩ (by simp only [Wi.size]; omega) ?_ (f2.trans ((FrX.of (s3.trans s4)).trans (f5.trans (f6.trans (.of s7))))) (d6.same s7) (by omega) ?_
          · show ((x.tm + tmW c : Nat) : Int) ≤ timed
            have hw : tmW c = 1 := (tim_un c hc).2
            omega
          · exact .tup (SqT.of upd_same) (.cons (.str _) (.cons (Dp.same s7 _ _ hv) .nil))
end
end K3
set_option maxRecDepth 100000
set_option maxHeartbeats 4000000
/-! ## defs that show data: what is asked of the guards; repr -/
namespace K3
open PySem PySem.Spec PyProof.Rows L2
/-- a def's promise where no guard stands -/
structure FnG (P : Program) (w : World) (K : PySem.W.Frag) (mg : Str → Option Value) (base : Heap) (k : Nat) (f : Addr) (fd : FuncData) (ps : List Str) (sp : Sp) : Prop where
  len : ∀ vs H Q E, sp vs H Q E → vs.length = ps.length
  go : ∀ (A : Around) (outer : List Env) (s : Shared) (H : Hp) (args : Args) (us : List Value) (vs : List V) (Q : VK) (E : XK), A.guards = some [] → Room k A → Env0 P w K mg base A outer s H →
    BindsTo s fd args (ps.zip us) → Vals vs us → sp vs H Q E → codeAny (model P w) A (.call (.ref f) args) (CR CX0 outer P w H s Q E) s
structure ClG (P : Program) (w : World) (K : PySem.W.Frag) (mg : Str → Option Value) (base : Heap) (k : Nat) (x : Str) (sp : Sp) : Prop where
  ex : ∃ (f : Addr) (fd : FuncData) (ps : List Str), FnG P w K mg base k f fd ps sp ∧ mg x = some (.ref f) ∧ PySem.W.keepIn K (.ref f) = true ∧ Binds K fd ps []
section
variable {P : Program} {w : World} {K : PySem.W.Frag} {mg : Str → Option Value} {base : Heap}
theorem fnG_of {x : Str} {st : Stmt} {N ps : List Str} {k : Nat} {sp : Sp} {f : Addr} {fd : FuncData} (D : Dn K mg x st f fd) (S : FnScope N ps (defScope st)) (len : ∀ vs H Q E, sp vs H Q E → vs.length = ps.length)
    (hbody : ∀ (cdv : Value) (A : Around) (outer : List Env) (s : Shared) (H : Hp) (vs : List V) (Q : VK) (E : XK), A.guards = some [] → Room k (A.deeper (envOfC x (defScope st) s.heap.objs.size f cdv)) → sp vs H Q E →
      ∃ t, PSs (cxOf CX0 P w K mg base N x (defScope st) f cdv A outer s H E).nox (defBody st) t ∧ t { nx := fun _ H' => Q .non H', rt := Q } (start N vs) H) : FnG P w K mg base (k + 1) f fd ps sp := by
  obtain ⟨oc, od, dV, kV, doc, pm, an, cdv, ct, osl, rfl, lk, hcd, _, _⟩ := D.fn.ex
  refine ⟨len, fun A outer s H args us vs Q E hg hr e0 hb r h => ?_⟩
  refine LamX.run_ofS lk hcd S hr e0 hb r (len _ _ _ _ h) fun hr' => ?_
  obtain ⟨t, h1, h2⟩ := hbody cdv A outer s H vs Q E hg hr' h
  exact ⟨t, h1.nox, h2⟩
theorem clG_of {x : Str} {st : Stmt} {N ps : List Str} {k : Nat} {sp : Sp} (D : ∃ f fd, Dn K mg x st f fd) (S : FnScope N ps (defScope st)) (hb : BindsN x st ps) (len : ∀ vs H Q E, sp vs H Q E → vs.length = ps.length)
    (hbody : ∀ (f : Addr) (cdv : Value) (A : Around) (outer : List Env) (s : Shared) (H : Hp) (vs : List V) (Q : VK) (E : XK), A.guards = some [] → Room k (A.deeper (envOfC x (defScope st) s.heap.objs.size f cdv)) → sp vs H Q E →
      ∃ t, PSs (cxOf CX0 P w K mg base N x (defScope st) f cdv A outer s H E).nox (defBody st) t ∧ t { nx := fun _ H' => Q .non H', rt := Q } (start N vs) H) : ClG P w K mg base (k + 1) x sp := by
  obtain ⟨f, fd, D⟩ := D
  exact ⟨f, fd, ps, fnG_of D S len (hbody f), D.at_, D.fn.kp, D.fn.bindsN hb⟩
end
section
variable {X : Cx} {k j : Nat} {x : Str} {sp : Sp} {p pos : Pos} {e : Expr} {es : List Expr} {t : TA} {te : TE}
theorem pe_clG (c : ClG X.prog X.w X.K X.mg X.base k x sp) (hgd : X.A.guards = some []) (hr : Room j X.A) (hk : k ≤ j) (ha : PA X (e :: es) t) (hg : Gl X x := by rfl)
    (hdb : (x == ("__debug__" : Str)) = false := by decide) (he : starEach (e :: es) X.env = (false, eval e X.env) :: starEach es X.env := by rfl) (hpl : (backTo pos (starEach es X.env)).any (·.1) = false := by rfl) :
    PE X (.Call (.Name x p) (e :: es) [] pos) (tCall sp [] E0 t) := by
  obtain ⟨f, fd, ps, F, hm, kp, b⟩ := c.ex
  constructor
  intro pins s σ H Q I h
  refine wpAny_Call_Name_kw (ld_glob I hg hm ?_ hdb)
  refine PySem.W.callWith_K (h₀ := X.base) I.ok.mod.kin kp (thn (ha.run pos pins s σ H _ I h) ?_) he hpl
  rintro us s1 ⟨vs, H1, J, r, q⟩
  refine ⟨J.kIn, ?_⟩
  rw [List.append_nil] at q
  have hl : (us ++ []).length = ps.length := by
    rw [List.append_nil, ← r.length]
    exact F.len _ _ _ _ q
  have hb := b s1 us J.kIn hl
  rw [List.append_nil] at hb
  have run := F.go X.A X.stack s1 H1 ⟨us, []⟩ us vs Q E0 hgd (hr.mono hk) J.env0 hb r q
  refine wpAny_call (codeAny_mono run ?_)
  rintro (er | fl) s2 hq
  · exact (show False from hq).elim
  · cases fl with
    | ret u => exact J.after hq
    | next => exact (show False from hq).elim
    | brk => exact (show False from hq).elim
    | cont => exact (show False from hq).elim
/-- repr of a list or tuple of data -/
def rShow (K : PySem.W.Frag) : List V → Hp → VK → Prop := fun xs H Q => ∃ (a : Addr) (d : PyData), xs = [.ref a] ∧ Dp K H (.ref a) d ∧ d.showable = true ∧ d.hasDict = false ∧ d.depth ≤ 90 ∧ d.shown.length ≤ sizeLine ∧ Q (.str d.shown) H
theorem call_show (hg : X.A.guards = some []) (hu : X.A.units + 100 < cLine) : CallR X (.builtin "repr") (rShow X.K) := by
  intro pins s σ H xs us Q I r h
  obtain ⟨a, d, rfl, hd, hs, hn, hdep, hsz, q⟩ := h
  obtain ⟨u, rfl, ru⟩ := r.one
  obtain ⟨as, rd⟩ := Dp.reads I d _ _ hd ru
  cases ru
  refine PySem.repr_of_reads' rd hs (fun z => by rw [hn] at z; cases z) hg (by omega) (fun _ _ e => e) (fun h' u tk hk => ?_) hsz
  exact ⟨.str _, H, I.kept (t' := tk) hk, ⟨_, rfl⟩, q⟩
end
section
variable {K : PySem.W.Frag} {H : Hp} {σ : L2.St} {ta : TE}
/-- what can be shown within the line -/
def canShow (d : PyData) : Prop := d.showable = true ∧ d.hasDict = false ∧ d.depth ≤ 90 ∧ d.shown.length ≤ sizeLine
theorem ed_show {ds : List PyData} (h : EvD K ta σ H (.list ds)) (c : canShow (.list ds)) : EvD K (tCB (rShow K) (tCons ta tNil)) σ H (.str (PyData.shown (.list ds))) :=
  ed_CB (ea_cons h ea_nil) fun vs H2 _ hv Q q => by
    obtain ⟨v, rfl, h1⟩ := hv.one
    obtain ⟨a, xs, rfl, hs, hx⟩ := h1.lstOf
    exact ⟨a, _, rfl, h1, c.1, c.2.1, c.2.2.1, c.2.2.2, q _ H2 (Same.refl _) (.str _)⟩
end
section
variable {P : Program} {w : World} {K : PySem.W.Frag} {mg : Str → Option Value} {base : Heap} {H : Hp}
/-! ### _law_like -/
def rLike (ds : List PyData) (r : PyData) : Prop := ∃ xs : List PyData, canShow (.list xs) ∧ ds = [.list xs, .list xs] ∧ r = .bool true
theorem sc_law_like : FnScope ["got", "due"] ["got", "due"] (defScope s_law_like) := ⟨rfl, rfl, rfl, by decide +kernel, rfl, by decide +kernel, by decide +kernel⟩
theorem ok_law_like (T : Tx K mg w) : ClG P w K mg base 1 "_law_like" (spD K 2 rLike) := by
  refine clG_of T.f_law_like sc_law_like (fun _ _ _ _ _ _ us hl => match us, hl with | [_, _], _ => rfl) (spD_len rfl) (fun f cdv A outer s H vs Q E hgd hr h => ?_)
  obtain ⟨ds, r, _, hd, ⟨xs, hc, rfl, rfl⟩, q⟩ := h
  obtain ⟨v, u, rfl, hv, hu⟩ := hd.two
  have hun : (A.deeper (envOfC "_law_like" (defScope s_law_like) s.heap.objs.size f cdv)).units + 100 < cLine := by
    have := hr.un
    omega
  refine ⟨_, pss_one (ps_ret (pe_cmpR op_eq (pe_callB (call_show (by exact hgd) hun) rfl T.b_repr (by decide +kernel) (pa_cons (pv 0) pa_nil)) (pe_callB (call_show (by exact hgd) hun) rfl T.b_repr (by decide +kernel) (pa_cons (pv 1) pa_nil)) (nomark _))), ?_⟩
  refine q_ret (K := K) (d := .bool true) ?_ q
  have e1 := ed_eqS (ed_show (ed_var (K := K) (σ := start ["got", "due"] [v, u]) (i := 0) rfl hv) hc) (ed_show (ed_var (K := K) (σ := start ["got", "due"] [v, u]) (i := 1) rfl hu) hc)
  rw [decide_eq_true rfl] at e1
  exact e1
end
end K3
set_option maxRecDepth 100000
set_option maxHeartbeats 4000000
/-! ## what can be shown -/
namespace K3
open PySem
structure Nice (m n : Nat) (d : PyData) : Prop where
  sh : d.showable = true
  nd : d.hasDict = false
  dp : d.depth ≤ m
  ls : d.leavesShort 13 = true
  bk : d.bulk ≤ n
theorem Nice.mono {m n m' n' : Nat} {d : PyData} (h : Nice m n d) (hm : m ≤ m') (hn : n ≤ n') : Nice m' n' d := ⟨h.sh, h.nd, Nat.le_trans h.dp hm, h.ls, Nat.le_trans h.bk hn⟩
structure NiceAll (m n : Nat) (ds : List PyData) : Prop where
  sh : PyData.showableAll ds = true
  nd : PyData.hasDictAll ds = false
  dp : PyData.depthAll ds ≤ m
  ls : PyData.leavesShortAll 13 ds = true
  bk : PyData.bulkAll ds ≤ n
theorem NiceAll.nil {m : Nat} : NiceAll m 0 [] := ⟨by simp [PyData.showableAll], by simp [PyData.hasDictAll], by simp [PyData.depthAll], by simp [PyData.leavesShortAll], by simp [PyData.bulkAll]⟩
theorem NiceAll.cons {m n k : Nat} {d : PyData} {ds : List PyData} (h : Nice m n d) (t : NiceAll m k ds) : NiceAll m (n + 1 + k) (d :: ds) where
  sh := by simp [PyData.showableAll, h.sh, t.sh]
  nd := by simp [PyData.hasDictAll, h.nd, t.nd]
  dp := by
    have h1 := h.dp
    have h2 := t.dp
    simp only [PyData.depthAll]
    omega
  ls := by simp [PyData.leavesShortAll, h.ls, t.ls]
  bk := by
    have h1 := h.bk
    have h2 := t.bk
    simp only [PyData.bulkAll]
    omega
theorem NiceAll.of {m n : Nat} : ∀ {ds : List PyData}, (∀ d ∈ ds, Nice m n d) → NiceAll m (ds.length * (n + 1)) ds
  | [], _ => by
    rw [List.length_nil, Nat.zero_mul]
    exact NiceAll.nil
  | d :: ds, h => by
    have t := NiceAll.cons (h d List.mem_cons_self) (NiceAll.of fun x hx => h x (List.mem_cons_of_mem _ hx))
    have e : (d :: ds).length * (n + 1) = n + 1 + ds.length * (n + 1) := by
      rw [List.length_cons, Nat.add_mul, Nat.one_mul, Nat.add_comm]
    rw [e]
    exact t
theorem Nice.tup {m n : Nat} {ds : List PyData} (h : NiceAll m n ds) : Nice (m + 1) n (.tuple ds) where
  sh := by simp only [PyData.showable]; exact h.sh
  nd := by simp only [PyData.hasDict]; exact h.nd
  dp := by
    have := h.dp
    simp only [PyData.depth]
    omega
  ls := by simp only [PyData.leavesShort]; exact h.ls
  bk := by simp only [PyData.bulk]; exact h.bk
theorem show_of {m n : Nat} {ds : List PyData} (h : NiceAll m n ds) (hm : m ≤ 89) (hn : n ≤ 1000000) : canShow (.list ds) := by
  refine ⟨by simp only [PyData.showable]; exact h.sh, by simp only [PyData.hasDict]; exact h.nd, ?_, ?_⟩
  · have := h.dp
    simp only [PyData.depth]
    omega
  · refine PyData.shown_fits_bulk (B := 13) (by decide) (by decide) (by simp only [PyData.leavesShort]; exact h.ls) ?_
    have := h.bk
    have e : (1000000 : Nat) ≤ 2 ^ 20 := by decide
    simp only [PyData.bulk]
    omega
theorem nice_bool (b : Bool) : Nice 0 0 (.bool b) := by cases b <;> exact ⟨rfl, rfl, by decide, by decide +kernel, by decide⟩
theorem nice_small {i : Int} (h : 0 ≤ i ∧ i ≤ 3) : Nice 0 0 (.int i) := by
  have e : i = 0 ∨ i = 1 ∨ i = 2 ∨ i = 3 := by omega
  rcases e with rfl | rfl | rfl | rfl <;> exact ⟨by decide +kernel, rfl, by decide, by decide +kernel, by decide⟩
theorem nice_word : ∀ c ∈ (["mark", "true", "false", "no", "next", "ever", "always", "and", "or", "till"] : List Str), Nice 0 6 (.str c) := by
  intro c hc
  have h1 : ∀ c ∈ (["mark", "true", "false", "no", "next", "ever", "always", "and", "or", "till"] : List Str), (PyData.leavesShort 13 (.str c) = true ∧ PyData.bulk (.str c) ≤ 6) := by decide +kernel
  obtain ⟨a, b⟩ := h1 c hc
  exact ⟨rfl, rfl, Nat.le_refl _, a, b⟩
theorem nice_dat : ∀ w : Wi, w.Ok → Nice w.size (12 * w.size) w.dat
  | .mark n, h => by
    have hw := nice_word "mark" (by simp)
    exact (Nice.tup (NiceAll.cons hw (NiceAll.cons (nice_small h) NiceAll.nil))).mono (Nat.le_refl _) (by show 6 + 1 + (0 + 1 + 0) ≤ 12 * 1; decide)
  | .nul c, h => by
    have hw := nice_word c (word_cases (w := .nul c) h)
    exact (Nice.tup (NiceAll.cons hw NiceAll.nil)).mono (Nat.le_refl _) (by show 6 + 1 + 0 ≤ 12 * 1; decide)
  | .un c f, h => by
    have hw := nice_word c (word_cases (w := .un c f) h)
    have hf := nice_dat f h.2
    exact (Nice.tup (NiceAll.cons (hw.mono (Nat.zero_le _) (Nat.le_refl _)) (NiceAll.cons hf NiceAll.nil))).mono (by simp only [Wi.size]; omega) (by simp only [Wi.size]; omega)
  | .bi c f g, h => by
    have hw := nice_word c (word_cases (w := .bi c f g) h)
    have hf := nice_dat f h.2.1
    have hg := nice_dat g h.2.2
    exact (Nice.tup (m := f.size + g.size) (NiceAll.cons (hw.mono (Nat.zero_le _) (Nat.le_refl _)) (NiceAll.cons (hf.mono (by omega) (Nat.le_refl _)) (NiceAll.cons (hg.mono (by omega) (Nat.le_refl _)) NiceAll.nil)))).mono (by simp only [Wi.size]; omega) (by simp only [Wi.size]; omega)
theorem nice_path {p : List Int} (h : ∀ i ∈ p, i = 1 ∨ i = 2) : Nice 1 p.length (pD p) := by
  have t : NiceAll 0 ((p.map PyData.int).length * (0 + 1)) (p.map PyData.int) := NiceAll.of fun d hd => by
    obtain ⟨i, hi, rfl⟩ := List.mem_map.mp hd
    rcases h i hi with rfl | rfl <;> exact nice_small (by decide)
  exact (Nice.tup t).mono (Nat.le_refl _) (by rw [List.length_map]; omega)
/-- paths of a wish -/
theorem nice_ways {w : Wi} (hz : w.size ≤ 60) : Nice 2 4000 (.tuple (waysD w)) := by
  have t : NiceAll 1 ((waysD w).length * (60 + 1)) (waysD w) := NiceAll.of fun d hd => by
    obtain ⟨x, hx, rfl⟩ := List.mem_map.mp hd
    have h1 := (Wi.mem_pieces w x.1 x.2).mp hx
    have h2 := Wi.size_at h1
    exact (nice_path (Wi.at_place h1)).mono (Nat.le_refl _) (by omega)
  refine (Nice.tup t).mono (Nat.le_refl _) ?_
  rw [waysD, List.length_map, Wi.pieces_len]
  omega
theorem nice_timed {w : Wi} (ok : w.Ok) (hz : w.size ≤ 60) : Nice 61 45000 (.tuple (timedD w)) := by
  have t : NiceAll 60 ((timedD w).length * (720 + 1)) (timedD w) := NiceAll.of fun d hd => by
    obtain ⟨x, hx, rfl⟩ := List.mem_map.mp hd
    rcases timedL_mem _ _ _ hx with h | ⟨y, hy, rfl⟩
    · cases h
    · obtain ⟨o, z⟩ := pieces_ok ok hz y hy
      exact (nice_dat y.2 o).mono z (by omega)
  refine (Nice.tup t).mono (Nat.le_refl _) ?_
  have h1 := timedL_len w.pieces []
  rw [List.length_nil, Wi.pieces_len] at h1
  rw [timedD, List.length_map, timedL]
  omega
end K3
set_option maxRecDepth 100000
set_option maxHeartbeats 4000000
/-! ## BadWish(path) -/
namespace K3
open PySem PySem.Spec PyProof.Rows PySem.W PySem.Calls PySem.HandSPX
/-- the def BadWish.__init__ -/
abbrev iniFn (doc pm cdv ct : Value) (an : Option Addr) (cc : Addr) : FuncData := fnX "__init__" "BadWish.__init__" (L2.defArgs s_BadWish_init) (L2.defBody s_BadWish_init) (L2.defScope s_BadWish_init) [("__class__", cc)] .none .none doc pm an cdv ct
/-- what the written part says of BadWish, at C, its __init__, at fI, that one's cell, at cc, and code, at cda -/
structure BadTxt (P : Program) (K : Frag) (mg : Str → Option Value) (C fI cc cda : Addr) : Prop where
  gC : mg "BadWish" = some (.ref C)
  cls : ∃ nm q N bs bm sn sub ab col dd k0 k1 k2 k3 k5, K.lookup C = some (excClassObj nm q C N bs bm true sn sub ab col dd k0 k1 k2 k3 k5 "ValueError.__new__") ∧ refsVE bm = true
  sa : findIn K (.ref C) "__setattr__" = some (some (.builtin "object.__setattr__"))
  ga : findIn K (.ref C) "__getattribute__" = some (some (.builtin "BaseException.__getattribute__"))
  gg : findIn K (.ref C) "__getattr__" = some none
  noN : findIn K (.ref C) "path" = some none
  iC : findIn K (.ref C) "__init__" = some (some (.ref fI))
  tC : typeIn K (.ref fI) = some (.type "function")
  kC : keepIn K (.ref C) = true
  exC : subIn K (.ref C) (.type "BaseException") = some true
  tyC : typeIn K (.ref C) = some (.type "type")
  hdC : hasDictIn K C = true
  fn : ∃ (oc : Value) (od : Option Addr) (doc pm : Value) (an : Option Addr) (ct : Value) (osl : Array (Option Value)), K.lookup fI = some ⟨oc, od, .func (iniFn doc pm (.ref cda) ct an cc), osl⟩ ∧ codeIn K (.ref cda) "BadWish.__init__" = true
  code : ∃ (oc : Value) (od : Option Addr) (vs : Array Value) (osl : Array (Option Value)) (file : Str) (tf : Tok), K.lookup cda = some ⟨oc, od, .fields vs, osl⟩ ∧ vs[2]? = some (.str file tf) ∧ ((P.main.file : Str) == file) = true
  cell : ∃ (oc : Value) (od : Option Addr) (osl : Array (Option Value)), K.lookup cc = some ⟨oc, od, .cell (some (.ref C)), osl⟩
  sup : ks_superIn K C C "__init__" = some (some (.builtin "ValueError.__init__"))
  sVE : subIn K (.ref C) (.type "ValueError") = some true
  sCC : mroIn K C (.ref C) = some true
  opq : nsIn K cStatics "thirdparty.any" = some none
  msup : mg "super" = none
  top : (P.main.scope.names.lookup ("super" : Str)).isSome = false
theorem one_line (v : Value) : [v].length ≤ sizeLine := by
  rw [sizeLine_eq]
  exact (by decide : 1 ≤ 16777216)
/-- what __init__ leaves of a fresh exception at x -/
structure IniEnd (h h' : Heap) (x C dx t1 : Addr) (v : Value) : Prop where
  keep : ∀ b o, b ≠ x → h.get? b = some o → h'.get? b = some o
  obj : h'.get? x = some { cls := .ref C, dict := some dx, data := .fields #[.ref t1, .none, .none, .none, .bool false, .none] }
  dbig : h.objs.size ≤ dx
  dne : dx ≠ x
  ns : h'.Ns1 dx (fun y => if y = "path" then some v else none)
/-- a made BadWish -/
structure OwnBad (h h' : Heap) (e C d : Addr) (v : Value) : Prop where
  keep : ∀ b o, h.get? b = some o → h'.get? b = some o
  new : h.objs.size ≤ e
  obj : ∃ oe vs, h'.get? e = some oe ∧ oe.cls = .ref C ∧ oe.dict = some d ∧ oe.data = .fields vs ∧ vs[1]? = some .none
  dbig : h.objs.size ≤ d
  dne : d ≠ e
  ns : h'.Ns1 d (fun y => if y = "path" then some v else none)
section
variable {prog : Program} {w : World} {A : Around} {E : Value → Shared → Prop} {R : Result → Shared → Prop} {s : Shared} {K : Frag} {mg : Str → Option Value} {base : Heap} {C fI cc cda : Addr}
/-- the method-wrapper called: the built-in __init__ -/
theorem call_mw {h : Heap} {g : Array GenState} {d : Drawn} {t : Nat} {os : OsState} {u x t0 : Addr} {rest : List Value} {nm q : Str} {N : Addr} {bs bm : List Value} {sn : List Str} {sub : List Value} {ab : Bool} {col : Option Bool} {dd : Option Addr} {k0 k1 k2 k3 k5 : Option Value} {Q : Value → Shared → Prop}
    (hC : h.get? C = some (excClassObj nm q C N bs bm true sn sub ab col dd k0 k1 k2 k3 k5 "ValueError.__new__")) (hu : h.get? u = some (kxs_mw "ValueError.__init__" x)) (hx : h.get? x = some (excO C t0)) (hz : rest.length ≤ sizeLine)
    (hq : ∀ h' t1, (∀ b o, b ≠ x → h.get? b = some o → h'.get? b = some o) → h'.get? x = some (excO C t1) → Q .none ⟨h', g, d, t, os⟩) :
    wpAny (model prog w) A (call (.ref u) rest) Q E ⟨h, g, d, t, os⟩ := by
  refine wpAny_call (codeAny_of_tree ?_)
  show wpAny _ A.in1 (callAny (.ref u) ⟨rest, []⟩) _ _ _
  simp only [callAny]
  refine wpAny_bind (wpAny_load hu ?_)
  simp only [kxs_mw, show (Value.type "method-wrapper" == Value.type "method" || Value.type "method-wrapper" == Value.type "builtin_function_or_method" || Value.type "method-wrapper" == Value.type "method-wrapper") = true by decide, if_true]
  refine KFB.if_so (by decide) ?_
  refine wpAny_bind (check_bound_init F.excBase_ValueError.toExcCallFacts hC hx rfl ?_)
  refine wpAny_bind (wpAny_pure (wpAny_pure ?_))
  exact ⟨plainId_quiet F.excBase_ValueError.init.plain _, codeAny_builtin F.excBase_ValueError.initEntry (exc_init_tree (cls := .ref C) (t0 := t0) (dv := none) (c2 := .none) (c3 := .none) (b4 := .bool false) hx hz fun h' k e _ => hq h' _ k e)⟩
theorem ini_cell : ∀ y ∈ (L2.defScope s_BadWish_init).names, y.2 ≠ .cell := by decide +kernel
def iniB : List Stmt := [.Expr (.Call (.Attribute (.Call (.Name "super" ⟨12, 8, 12, 13⟩) [] [] ⟨12, 8, 12, 15⟩) "__init__" ⟨12, 8, 12, 24⟩) [.Constant (.str "not a wish") 0 ⟨12, 25, 12, 37⟩] [] ⟨12, 8, 12, 38⟩) ⟨12, 8, 12, 38⟩,
  .Assign [.Attribute (.Name "self" ⟨13, 8, 13, 12⟩) "path" ⟨13, 8, 13, 17⟩] (.Name "path" ⟨13, 20, 13, 24⟩) ⟨13, 8, 13, 24⟩]
theorem iniB_eq : L2.defBody s_BadWish_init = iniB := rfl
/-- __init__ walked -/
theorem bad_init (T : BadTxt prog K mg C fI cc cda) (M : L2.Mod K mg base) (kb : ∀ b o, base.get? b = some o → s.heap.get? b = some o) {x t0 : Addr} {v : Value} (hx : s.heap.get? x = some (excO C t0)) (hx0 : base.get? x = none) (hroom : A.depth < recursionLimit)
    (hq : ∀ h' tk dx t1, IniEnd s.heap h' x C dx t1 v → R (.ok (.ret .none)) { s with heap := h', toks := tk }) :
    codeAny (model prog w) A (.call (.ref fI) ⟨[.ref x, v], []⟩) R s := by
  have X : K.In s.heap := M.kin.keeps kb
  obtain ⟨oc, od, doc, pm, an, ct, osl, ho, hcd⟩ := T.fn
  obtain ⟨oc2, od2, vs2, osl2, file, tf, hcode, hvs, hfile⟩ := T.code
  obtain ⟨oc3, od3, osl3, hcell⟩ := T.cell
  obtain ⟨nm, q, N, bs, bm, sn, sub, ab, col, dd, k0, k1, k2, k3, k5, hC, hbm⟩ := T.cls
  have hcl : clsIn K C = some { name := nm, bases := bs, mro := .ref C :: bm, ns := N, qualname := q, hasDict := true, slotNames := sn, subclasses := sub, abstract := ab, collection := col, hasDel := false } := by unfold clsIn; rw [hC] <;> rfl
  obtain ⟨mb, hb1, hb2⟩ := M.blt
  refine ks_codeAny_call_defAt (fd := iniFn doc pm (.ref cda) ct an cc) (body := L2.defBody s_BadWish_init) (binds := [("self", .ref x), ("path", v)]) hroom (X _ _ ho) rfl (M.nolimit.keeps kb) (codeRec_of X hcd) rfl (BindsTo.of_eq rfl) ini_cell (fun y hy => by
      simp only [List.mem_cons, List.not_mem_nil, or_false] at hy
      rcases hy with rfl | rfl <;> rfl) (fun h₁ hns k₁ => ?_) rfl rfl rfl
  have X₁ : K.In h₁ := X.keeps k₁
  have kb1 : ∀ b o, base.get? b = some o → h₁.get? b = some o := fun b o e => k₁ b o (kb b o e)
  have hx₁ := k₁ _ _ hx
  have hxC : x ≠ C := fun z => by rw [z, M.kin _ _ hC] at hx0; cases hx0
  have hI : Looks (model prog w) h₁ (isInstance (.ref x) (.type "ValueError")) true := (InstAt.type (od := none) ⟨hx₁, rfl, rfl, trivial⟩).andThen (looks_subIn X₁ T.sVE)
  have hal := T.sup
  unfold ks_superIn at hal
  rw [hcl] at hal
  show PySem.wpAt _ _ (.func _ (ksEnv "BadWish.__init__" (L2.defScope s_BadWish_init) s.heap.objs.size fI (.ref cda) cc)) (execs _ (ksEnv "BadWish.__init__" (L2.defScope s_BadWish_init) s.heap.objs.size fI (.ref cda) cc)) _ _ _
  rw [iniB_eq]
  unfold iniB
  refine ks_wpAt_execs_cons (ks_wpAt_Expr_any (ks_wpAt_MethodCall (ks_wpAt_super_base rfl rfl (by decide) rfl (X₁ _ _ ho) rfl rfl rfl (X₁ _ _ hcode) rfl hvs hfile T.top ?_)))
  refine ks_loadName_global rfl rfl (loadGlobal_builtin (M.glob.keeps kb1) T.msup (hb1.keeps kb1) ((hb2 _ (by decide)).trans (by decide +kernel)) ⟨rfl, ?_⟩)
  refine wpAny_loadName_free rfl rfl rfl ⟨_, X₁ _ _ hcell, rfl⟩ ?_
  refine wpAny_loadName_local rfl rfl hns rfl ?_
  refine ks_wpAny_isType_cls (X₁ _ _ hC) rfl ⟨rfl, ?_⟩
  refine ks_wpAny_call_super (X₁ _ _ hC) rfl hx₁ rfl (fun c z => by cases z) (looks_mroIn X₁ T.sCC) (fun h₂ e₂ k₂ => ?_)
  have X₂ : K.In h₂ := X₁.keeps k₂
  have hx₂ := k₂ _ _ hx₁
  refine kxs_getMethod kxs_ValueError (l₀ := .ref C :: bm) e₂ (looks_opaque X₂ T.opq) (fun A Q E s k q => wpAny_bind ((looks_clsIn X₂ hcl) A _ E s k (wpAny_pure q))) rfl X₂ hal (hI.keeps k₂) hxC (by decide) ?_
  have k₃ : ∀ b o, h₂.get? b = some o → (h₂.push (kxs_mw "ValueError.__init__" x)).get? b = some o := fun b o e => Heap.get?_push_of_some _ e
  have hu : (h₂.push (kxs_mw "ValueError.__init__" x)).get? h₂.objs.size = some (kxs_mw "ValueError.__init__" x) := Heap.get?_push_at rfl rfl
  generalize h₂.push (kxs_mw "ValueError.__init__" x) = h₃ at k₃ hu ⊢
  refine kxs_callWith (i := "ValueError.__init__") (x := x) rfl (evalArgs_plain (spliced_cons (Constant_str (k := 0) (pos := ⟨12, 25, 12, 37⟩) (spliced_nil ⟨hu, ?_⟩))))
  have X₃ : K.In h₃ := X₂.keeps k₃
  refine call_mw (X₃ _ _ hC) hu (k₃ _ _ hx₂) (one_line _) (fun h₄ t1 k₄ hx₄ => ?_)
  have k₁₄ : ∀ b o, b ≠ x → h₁.get? b = some o → h₄.get? b = some o := fun b o hb e => k₄ b o hb (k₃ b o (k₂ b o e))
  have X₄ : K.In h₄ := fun a o e => by
    have e0 := M.kin _ _ e
    refine k₁₄ a o (fun z => ?_) (kb1 a o e0)
    rw [z, hx0] at e0
    cases e0
  have hxL : s.heap.objs.size ≠ x := Nat.ne_of_gt (Heap.lt_size hx)
  have hns4 : h₄.Ns s.heap.objs.size (fun y => ([("self", .ref x), ("path", v)] : List (Str × Value)).reverse.lookup y) := by
    obtain ⟨oL, es, ep, hL, r⟩ := hns
    exact ⟨oL, es, ep, k₁₄ _ _ hxL hL, r⟩
  refine ks_wpAt_execs_cons (ks_wpAt_Assign_Attr ?_)
  refine PySem.wpAt_of_wpAny (wpAny_Name (wpAny_loadName_local rfl rfl hns4 rfl ?_) (by decide))
  refine wpAny_Name (wpAny_loadName_local rfl rfl hns4 rfl ?_) (by decide)
  refine set_plain X₄ (ox := excO C t1) (od := none) ⟨hx₄, rfl, rfl, trivial⟩ T.sa ?_
  refine exc_osa X₄ hx₄ hcl (show refsVE (.ref C :: bm) = true from hbm) rfl T.noN (fun h₅ tk₅ dx k₅ dn dne hx₅ hn₅ => ?_)
  refine PySem.wpAt_of_wpAny ?_
  have z1 : s.heap.objs.size < h₁.objs.size := hns.lt
  have z4 : s.heap.objs.size < h₄.objs.size := hns4.lt
  exact wpAny_execs_nil (hq h₅ tk₅ dx t1 ⟨fun b o hb e => k₅ b o hb (k₁₄ b o hb (k₁ b o e)), hx₅, Nat.le_of_lt (Nat.lt_of_lt_of_le z4 dn), dne, hn₅⟩)
/-- BadWish(v) -/
theorem bad_made (T : BadTxt prog K mg C fI cc cda) (M : L2.Mod K mg base) (kb : ∀ b o, base.get? b = some o → s.heap.get? b = some o) {v : Value} (hroom : A.depth + 1 < recursionLimit)
    (hq : ∀ h' tk e d, OwnBad s.heap h' e C d v → R (.ok (.ret (.ref e))) { s with heap := h', toks := tk }) :
    codeAny (model prog w) A (.call (.ref C) ⟨[v], []⟩) R s := by
  have X : K.In s.heap := M.kin.keeps kb
  obtain ⟨nm, q, N, bs, bm, sn, sub, ab, col, dd, k0, k1, k2, k3, k5, hC, hbm⟩ := T.cls
  obtain ⟨hp, g, dr, tk, os⟩ := s
  have k : ∀ b o, hp.get? b = some o → ((hp.push (kdv_tup [v])).push (excO C hp.objs.size)).get? b = some o := fun b o e => Heap.get?_push_of_some _ (Heap.get?_push_of_some _ e)
  have hget : ((hp.push (kdv_tup [v])).push (excO C hp.objs.size)).get? (hp.objs.size + 1) = some (excO C hp.objs.size) := by heap_get
  have hx0 : base.get? (hp.objs.size + 1) = none := by
    cases e : base.get? (hp.objs.size + 1) with
    | none => rfl
    | some o =>
      have z : hp.get? (hp.objs.size + 1) = some o := kb _ _ e
      exact absurd (Nat.lt_of_succ_lt (Heap.lt_size z)) (Nat.lt_irrefl _)
  refine call_own F.excBase_ValueError (fun X => refsVE_contains X bm hbm) (X _ _ hC) (looks_findIn X T.iC) (fun self => bind_fn X self T.tC) (one_line v) ?_
  refine bad_init (s := ⟨(hp.push (kdv_tup [v])).push (excO C hp.objs.size), g, dr, tk, os⟩) T M (fun b o e => k b o (kb b o e)) hget hx0 ?_ fun h' tk' dx t1 ⟨k', hx, dn, dne, hns⟩ => ?_
  · show A.depth + 1 < recursionLimit
    exact hroom
  · have old : ∀ b o, hp.get? b = some o → h'.get? b = some o := fun b o e => k' b o (Nat.ne_of_lt (Nat.lt_succ_of_lt (Heap.lt_size e))) (k b o e)
    have z : hp.objs.size + 1 + 1 ≤ dx := by
      have q := dn
      rw [Heap.size_push, Heap.size_push] at q
      exact q
    exact ⟨rfl, hq h' tk' (hp.objs.size + 1) dx ⟨old, Nat.le_succ _, ⟨_, _, hx, rfl, rfl, rfl, rfl⟩, Nat.le_trans (Nat.le_trans (Nat.le_succ _) (Nat.le_succ _)) z, dne, hns⟩⟩
end
end K3
namespace K3
open PySem PySem.Spec PyProof.Rows L2
theorem relO_path {v : V} {v' : Value} (r : RelV v v') (f : Str) : RelO (List.lookup f [(("path" : Str), v)]) (if f = "path" then some v' else none) := by
  by_cases hw : f = "path"
  · subst hw
    rw [if_pos rfl]
    have q : List.lookup ("path" : Str) [(("path" : Str), v)] = some v := by simp [List.lookup]
    rw [q]
    exact r
  · rw [if_neg hw]
    have qw : (f == ("path" : Str)) = false := by simpa using hw
    have q2 : List.lookup f [(("path" : Str), v)] = none := by simp [List.lookup, qw]
    rw [q2]
    trivial
section
variable {X : Cx} {C fI cc cda : Addr}
/-- BadWish(e) -/
def tMkBad (C : Addr) (ta : TA) : L2.St → Hp → XK → Prop := fun σ H Q => ta σ H fun vs H1 => ∃ v, vs = [v] ∧ ∀ d, H1 d = none → Q (.ref C) (some d) (upd H1 d (.xd [(("path" : Str), v)]))
theorem pmk_bad {a : Expr} {ta : TA} {p pos : Pos} {k : Nat} (T : BadTxt X.prog X.K X.mg C fI cc cda) (hr : Room k X.A) (ha : PA X [a] ta) (hg : Gl X "BadWish" := by rfl)
    (he : starEach (a :: []) X.env = (false, eval a X.env) :: starEach [] X.env := by rfl) (hpl : (backTo pos (starEach [] X.env)).any (·.1) = false := by rfl) :
    PMk X (.Call (.Name "BadWish" p) [a] [] pos) (tMkBad C ta) := by
  intro pins s σ H Q I h
  refine wpAny_Call_Name_kw (ld_glob I hg T.gC ?_)
  refine PySem.W.callWith_K (h₀ := X.base) I.ok.mod.kin T.kC (thn (ha.run pos pins s σ H _ I h) fun us s1 hh => ?_) he hpl
  obtain ⟨vs, H1, I1, r1, v, ev, q1⟩ := hh
  subst ev
  refine ⟨I1.kIn, ?_⟩
  obtain ⟨v', rfl, rv⟩ := r1.one
  show wpAny _ _ (call (.ref C) [v']) _ _ _
  have kb : ∀ b o, X.base.get? b = some o → s1.heap.get? b = some o := I1.bk
  obtain ⟨hp, g, dr, tk, os⟩ := s1
  refine wpAny_call (bad_made T I1.ok.mod kb (by have := hr.dp; omega) fun h' tk' e d M => ?_)
  show MkP X pins σ Q (.ref e) ⟨h', g, dr, tk', os⟩
  obtain ⟨oe, fv, hoe, hc, hd, hdat, h1⟩ := M.obj
  have hns := M.ns
  obtain ⟨G', g1, g2⟩ := restrict h' fun b => decide (b ≠ e)
  have gk : ∀ b, b ≠ e → G'.get? b = h'.get? b := fun b hb => g1 b (decide_eq_true hb)
  have ge : G'.get? e = none := g2 e (by simp)
  have old : ∀ b o, hp.get? b = some o → G'.get? b = some o := fun b o q => (gk b (Nat.ne_of_lt (Nat.lt_of_lt_of_le (Heap.lt_size q) M.new))).trans (M.keep b o q)
  have ob : ObjOk X.prog X.w (upd H1 d (.xd [(("path" : Str), v)])) G' d (.xd [(("path" : Str), v)]) :=
    ⟨_, hns.at (fun o q => (gk d M.dne).trans q), fun f => relO_path rv f⟩
  have J : Inv X pins σ (upd H1 d (.xd [(("path" : Str), v)])) ⟨G', g, dr, tk', os⟩ := I1.laid (t' := tk') old M.dbig ob
  refine ⟨e, oe, fv, ⟨G', g, dr, tk', os⟩, _, .ref C, some d, rfl, J, fun b o q => ?_, ge, hoe, ⟨hc, hd⟩, hdat, h1, ?_, rfl, I1.bare, raises_own T.exC T.tyC, q1 d (I1.hok.fresh M.dbig)⟩
  · by_cases hb : b = e
    · have q' : G'.get? b = some o := q
      rw [hb, ge] at q'; cases q'
    · exact (gk b hb).symm.trans q
  · rw [upd_ne (Ne.symm M.dne)]
    exact I1.hok.fresh M.new
/-- raise BadWish(e) -/
def tRaiseBad (C : Addr) (W : WX) (ta : TA) : L2.TS := fun _ σ H => tMkBad C ta σ H fun cls d H' => W cls d σ H'
theorem ps_raiseBad {a : Expr} {ta : TA} {W : WX} {p pos pos2 : Pos} {k : Nat} (hc : X.calm = true) (T : BadTxt X.prog X.K X.mg C fI cc cda) (hr : Room k X.A) (tk : Takes X W) (ha : PA X [a] ta) (hg : Gl X "BadWish" := by rfl)
    (he : starEach (a :: []) X.env = (false, eval a X.env) :: starEach [] X.env := by rfl) (hpl : (backTo pos (starEach [] X.env)).any (·.1) = false := by rfl) :
    PS X (.Raise (some (.Call (.Name "BadWish" p) [a] [] pos)) none pos2) (tRaiseBad C W ta) := ps_raise hc tk (pmk_bad T hr ha hg he hpl)
end
end K3
set_option maxRecDepth 100000
set_option maxHeartbeats 4000000
/-! ## need_wish, replaced: the way by BadWish -/
namespace K3
open PySem PySem.Spec PyProof.Rows L2
structure ClX (P : Program) (w : World) (K : PySem.W.Frag) (mg : Str → Option Value) (base : Heap) (k : Nat) (x : Str) (sp : Sp) : Prop where
  ex : ∃ (f : Addr) (fd : FuncData) (ps : List Str), FnOk P w K mg base (L2.CX P w) k f fd ps sp ∧ mg x = some (.ref f) ∧ PySem.W.keepIn K (.ref f) = true ∧ Binds K fd ps []
section
variable {P : Program} {w : World} {K : PySem.W.Frag} {mg : Str → Option Value} {base : Heap}
theorem clX_of {x : Str} {st : Stmt} {N ps : List Str} {k : Nat} {sp : Sp} (D : ∃ f fd, Dn K mg x st f fd) (S : FnScope N ps (defScope st)) (hb : BindsN x st ps) (len : ∀ vs H Q E, sp vs H Q E → vs.length = ps.length)
    (hbody : ∀ (f : Addr) (cdv : Value) (A : Around) (outer : List Env) (s : Shared) (H : Hp) (vs : List V) (Q : VK) (E : XK), Room k (A.deeper (envOfC x (defScope st) s.heap.objs.size f cdv)) → sp vs H Q E →
      ∃ t, PSs (cxOf (L2.CX P w) P w K mg base N x (defScope st) f cdv A outer s H E) (defBody st) t ∧ t { nx := fun _ H' => Q .non H', rt := Q } (start N vs) H) : ClX P w K mg base (k + 1) x sp := by
  obtain ⟨f, fd, D⟩ := D
  exact ⟨f, fd, ps, D.fn.ok S len (hbody f), D.at_, D.fn.kp, D.fn.bindsN hb⟩
end
section
variable {X : Cx} {k j : Nat} {x : Str} {sp : Sp} {p pos : Pos} {e : Expr} {es : List Expr} {t : TA} {E : XK}
theorem pe_clX (c : ClX X.prog X.w X.K X.mg X.base k x sp) (hr : Room j X.A) (hk : k ≤ j) (hx : Passes (L2.CX X.prog X.w) X E) (ha : PA X (e :: es) t) (hg : Gl X x := by rfl)
    (hdb : (x == ("__debug__" : Str)) = false := by decide) (he : starEach (e :: es) X.env = (false, eval e X.env) :: starEach es X.env := by rfl) (hpl : (backTo pos (starEach es X.env)).any (·.1) = false := by rfl) :
    PE X (.Call (.Name x p) (e :: es) [] pos) (tCall sp [] E t) := by
  obtain ⟨f, fd, ps, F, hm, kp, b⟩ := c.ex
  exact pe_call F (hr.mono hk) hg hm kp b .nil hx ha hdb he hpl
end
section
variable {P : Program} {w : World} {K : PySem.W.Frag} {mg : Str → Option Value} {base : Heap} {H : Hp} {C fI cc cda : Addr}
/-- the def raises BadWish(()) -/
def spRaise (K : PySem.W.Frag) (C : Addr) (n : Nat) (R : List PyData → Prop) : Sp := fun vs H _ E => ∃ ds, ds.length = n ∧ DpAll K H vs ds ∧ R ds ∧ ∀ d y H', Same H H' → H d = none → H' d = some (.xd [(("path" : Str), y)]) → Dp K H' y (pD []) → E (.ref C) (some d) H'
theorem spRaise_len {n : Nat} {R : List PyData → Prop} {ps : List Str} (hn : ps.length = n) (vs : List V) (H : Hp) (Q : VK) (E : XK) (h : spRaise K C n R vs H Q E) : vs.length = ps.length := by
  obtain ⟨ds, e, hd, _⟩ := h
  rw [hd.len, e, hn]
def rNeedX (ds : List PyData) : Prop := ∃ w : Wi, w.Ok ∧ w.size ≤ 60 ∧ fits w = false ∧ ds = [w.dat]
theorem ok_need_wishX (T : Tx K mg w) (B : BadTxt P K mg C fI cc cda) : ClX P w K mg base 4 "need_wish" (spRaise K C 1 rNeedX) := by
  have cW : Cl P w K mg base 3 "wrong_in" (spL K 1 rWrong) := ok_wrong_in T
  refine clX_of T.f_need_wish sc_need_wish (fun _ _ _ _ _ _ us hl => match us, hl with | [_], _ => rfl) (spRaise_len rfl) (fun f cdv A outer s H vs Q E hr h => ?_)
  obtain ⟨ds, _, hd, ⟨wi, ok, hz, hf, rfl⟩, q⟩ := h
  obtain ⟨v, rfl, hv⟩ := hd.one
  have nd := sc_need_wish.nd
  refine ⟨_, pss_cons (ps_for (passes_of rfl) rfl (pi_list (pe_cl cW hr (Nat.le_refl _) (pa_cons (pv 0) pa_nil))) (pg_name (i := 1) nd rfl (Or.inl rfl))
    (pss_one (ps_raiseBad rfl B hr (takes_of rfl rfl rfl rfl) (by exact (pa_cons (pv 1) pa_nil))))) (pss_one (ps_ret (pv 0))), ?_⟩
  have ec : EvL K (tCall (spL K 1 rWrong) [] E0 (tCons (tVar 0) tNil)) (start ["wish", "path"] [v]) H [pD []] := by
    refine el_call (ea_cons (ed_var rfl hv) ea_nil) rfl ⟨wi, ok, hz, rfl, ?_⟩
    rw [if_neg (by rw [hf]; decide)]
    rfl
  refine ec H (Same.refl _) _ fun p xs H1 s1 np hp hx => ?_
  obtain ⟨y, rfl, hy⟩ := hx.one
  refine ⟨p, rfl, ⟨[y], SqL.of hp⟩, for_list (K := K) (a := p) (xs := [y]) (fun i σ' H' => i = 0 ∧ σ' = start ["wish", "path"] [v] ∧ H' = H1) ⟨rfl, rfl, rfl⟩ (fun i σ' H' _ P => ?_) (fun i x σ' H' hi P => ?_) fun σ' H' P => ?_⟩
  · rw [P.2.2]
    exact SqL.of hp
  · obtain ⟨rfl, rfl, rfl⟩ := P
    have ex : x = y := (Option.some.inj hi).symm
    subst ex
    refine ⟨_, rfl, _, rfl, fun d hd => ?_⟩
    have s2 := same_new hd (HO.xd [(("path" : Str), x)])
    exact q d x _ (s1.trans s2) (s1.free hd) upd_same (Dp.same s2 _ _ hy)
  · exact absurd P.1 (by simp)
def rReplX (ds : List PyData) : Prop := ∃ (w x q : Wi) (p : List Int), w.Ok ∧ fits w = true ∧ w.at p = some x ∧ q.Ok ∧ fits q = true ∧ fits (w.put p q) = false ∧ ds = [w.dat, pD p, q.dat]
theorem ok_replacedX (T : Tx K mg w) (B : BadTxt P K mg C fI cc cda) : ClX P w K mg base 14 "replaced" (spRaise K C 3 rReplX) := by
  have cN : Cl P w K mg base 5 "need_path" (spD K 2 rNeedPath) := ok_need_path T
  have cW : Cl P w K mg base 4 "need_wish" (spD K 1 rNeed) := ok_need_wish T
  have cX : ClX P w K mg base 4 "need_wish" (spRaise K C 1 rNeedX) := ok_need_wishX T B
  have cU : Cl P w K mg base 13 "put_in" (spD K 3 (rPut 12)) := ok_put_in T 12
  refine clX_of T.f_replaced sc_replaced (fun _ _ _ _ _ _ us hl => match us, hl with | [_, _, _], _ => rfl) (spRaise_len rfl) (fun f cdv A outer s H vs Q E hr h => ?_)
  obtain ⟨ds, _, hd, ⟨wi, x, qi, p, ok, hf, hat, okq, hfq, hff, rfl⟩, q⟩ := h
  obtain ⟨v, u, t, rfl, hv, hu, ht⟩ := hd.three
  have hz := (fits_size hf).1
  have hzq := (fits_size hfq).1
  refine ⟨_, pss_cons (ps_expr (pe_cl cN hr (by decide) (pa_cons (pv 0) (pa_cons (pv 1) pa_nil))))
    (pss_cons (ps_expr (pe_cl cW hr (by decide) (pa_cons (pv 2) pa_nil)))
    (pss_one (ps_ret (pe_clX (E := E) cX hr (by decide) (passes_call (takes_of rfl rfl rfl rfl) (fun _ _ _ _ h => h)) (pa_cons (pe_cl cU hr (by decide) (pa_cons (pv 0) (pa_cons (pv 1) (pa_cons (pv 2) pa_nil)))) pa_nil))))), ?_⟩
  refine s_drop (K := K) (ed_needPath ok hf hat (ed_var rfl hv) (ed_var rfl hu)) fun H1 s1 => ?_
  refine s_drop (K := K) (ed_call (E := E0) (R := rNeed) (ea_cons (ed_var rfl (Dp.same s1 _ _ ht)) ea_nil) rfl ⟨qi, okq, hfq, rfl, rfl⟩) fun H2 s2 => ?_
  have s12 := s1.trans s2
  have eu : EvD K (tCall (spD K 3 (rPut 12)) [] E0 (tCons (tVar 0) (tCons (tVar 1) (tCons (tVar 2) tNil)))) (start ["wish", "path", "part"] [v, u, t]) H2 (wi.put p qi).dat :=
    ed_call (ea_cons (ed_var rfl (Dp.same s12 _ _ hv)) (ea_cons (ed_var rfl (Dp.same s12 _ _ hu)) (ea_cons (ed_var rfl (Dp.same s12 _ _ ht)) ea_nil))) rfl ⟨wi, x, qi, p, path_len hz hat, hat, rfl, rfl⟩
  refine q_retV ?_
  refine eu H2 (Same.refl _) _ fun y H3 s3 hy => ?_
  have hps := Wi.size_put wi p qi
  have s13 := s12.trans s3
  refine ⟨[(wi.put p qi).dat], rfl, .cons hy .nil, ⟨wi.put p qi, Wi.Ok.put ok okq, by omega, hff, rfl⟩, fun d z H' s' nd hd' hz' => ?_⟩
  exact q d z H' (s13.trans s') (s13.free nd) hd' hz'
end
end K3
set_option maxRecDepth 100000
set_option maxHeartbeats 4000000
/-! ## try: body, except (A, B) as n: suite; what follows still knows the exception -/
namespace K3
open PySem PySem.Spec PyProof.Rows L2
section
variable {X : Cx} {pins : List (Addr × Obj)} {σ : L2.St} {H : Hp} {s : Shared}
/-- behind the suite, the exception still pinned -/
theorem inv_keep {a : Addr} {q : Addr × Obj} (I : Inv (X.suite a (q :: (X.pn ++ pins))) [] σ H s) (ok : X.Ok) : Inv (X.tr (q :: (X.pn ++ pins)) X.xe) [] σ H s where
  ok := ok.toTry _ _
  os := I.os
  bare := I.bare
  base := I.base
  loc := I.loc
  cell := I.cell
  free := I.free
  freeC := I.freeC
  pin := I.pin
  hok := I.hok
  len := I.len
/-- the pin is let go -/
theorem inv_let {q : Addr × Obj} {xe : Value → Shared → Prop} (I : Inv (X.tr (q :: (X.pn ++ pins)) xe) [] σ H s) (ok : X.Ok) : Inv X pins σ H s where
  ok := ok
  os := I.os
  bare := I.bare
  base := I.base
  loc := I.loc
  cell := I.cell
  free := I.free
  freeC := I.freeC
  pin := fun p hp => I.pin p (List.mem_append_left _ (List.mem_cons_of_mem _ hp))
  hok := I.hok
  len := I.len
theorem sp_let {q : Addr × Obj} {xe : Value → Shared → Prop} {D : Ends} {f : Flow} {s' : Shared} (ok : X.Ok) (h : SP (X.tr (q :: (X.pn ++ pins)) xe) [] D f s') : SP X pins D f s' := by
  cases f with
  | next => obtain ⟨σ1, H1, J, z⟩ := h; exact ⟨σ1, H1, inv_let J ok, z⟩
  | brk => obtain ⟨σ1, H1, J, z⟩ := h; exact ⟨σ1, H1, inv_let J ok, z⟩
  | cont => obtain ⟨σ1, H1, J, z⟩ := h; exact ⟨σ1, H1, inv_let J ok, z⟩
  | ret u => obtain ⟨v, σ1, H1, J, r, z⟩ := h; exact ⟨v, σ1, H1, inv_let J ok, r, z⟩
/-- a new object beside an exception in flight -/
theorem fly_push {B h h' : Heap} {l : List Env} {e : Addr} {Z : Obj → Prop} (f : HandSPX.FlyingZ B l e Z h) (k : ∀ b o, h.get? b = some o → h'.get? b = some o) : HandSPX.FlyingZ B l e Z h' := by
  obtain ⟨f1, f2, f3, oe, vs, T, oT, ts, h1, h2, h3, h4, h5, h6, h7, h8, h9⟩ := f
  exact ⟨fun b o z => k b o (f1 b o z), f2, Heap.FunFrames.of_keeps (fun b o z _ => ⟨o, k b o z, rfl⟩) f3, oe, vs, T, oT, ts, k _ _ h1, h2, h3, h4, h5, h6, k _ _ h7, h8, h9⟩
end
/-- all ways out are shut -/
def noEnds : Ends := { nx := fun _ _ => False, rt := fun _ _ => False, bk := fun _ _ => False, ct := fun _ _ => False }
def wKeep (K : PySem.W.Frag) (c1 c2 : Addr) (m i : Nat) (ts tr : Addr → Value → Option Addr → L2.TS) (D : Ends) : WX := fun cls d σ H =>
  PySem.W.exmAny K cls [.ref c1, .ref c2] = some true ∧ ∀ a, H a = none → σ.length = m → ts a cls d { nx := fun σ1 H1 => tr a cls d D (σ1.set i none) H1, rt := fun _ _ => False, bk := fun _ _ => False, ct := fun _ _ => False } (σ.set i (some (.ref a))) H
section
variable {X : Cx} {x1 x2 n : Str} {c1 c2 : Addr} {i kk : Nat} {body suite rest : List Stmt} {b0 : Stmt} {p1 p2 tp pos pos' : Pos} {tb : WX → L2.TS} {ts tr : Addr → Value → Option Addr → L2.TS}
theorem pss_tryKeep (hs : X.stack = X.env :: X.outer) (hf : X.env.frame = some X.env.locals) (hN : X.N.Nodup) (hi : X.N[i]? = some n) (hln : X.env.kindOf n = some .local)
    (g1 : Gl X x1) (m1 : X.mg x1 = some (.ref c1)) (d1 : (x1 == ("__debug__" : Str)) = false) (g2 : Gl X x2) (m2 : X.mg x2 = some (.ref c2)) (d2 : (x2 == ("__debug__" : Str)) = false)
    (hb : ∀ (W : WX) (pn : List (Addr × Obj)) (xe : Value → Shared → Prop), Takes (X.tr pn xe) W → PassesOwn (model X.prog X.w) X.A X.env xe → PSs (X.tr pn xe) body (tb W))
    (hsu : ∀ (a : Addr) (oe : Obj) (cls : Value) (d : Option Addr) (pn : List (Addr × Obj)), Zc cls d oe → (∃ vs, oe.data = .fields vs) → PSs (X.suite a ((a, oe) :: pn)) (b0 :: suite) (ts a cls d))
    (hr : ∀ (a : Addr) (oe : Obj) (cls : Value) (d : Option Addr) (pn : List (Addr × Obj)), Zc cls d oe → (∃ vs, oe.data = .fields vs) → PSs (X.tr ((a, oe) :: pn) X.xe) rest (tr a cls d)) :
    PSs X (.Try body [.ExceptHandler (some (.Tuple [.Name x1 p1, .Name x2 p2] kk tp)) (some n) (b0 :: suite) pos'] [] [] pos :: rest) (fun D σ H => tb (wKeep X.K c1 c2 X.N.length i ts tr D) noEnds σ H) := by
  constructor
  intro pins s σ H D I h
  have ok := I.ok
  have hfr : X.A.frames = some (X.env :: X.outer) := ok.frames.trans (by rw [hs])
  have hloc : Loc X.env.scope n := Or.inl hln
  refine wpAny_execs_cons (wpAny_Try_except ?_)
  refine wpAny_mono ((hb (wKeep X.K c1 c2 X.N.length i ts tr D) (X.pn ++ pins) _ ?caughtE PassesOwn.looking).run [] s σ H noEnds (I.toTry _) h) ?norm (fun e s1 he => he)
  case norm =>
    rintro (_ | u | _ | _) s1 hsp
    all_goals first
      | (obtain ⟨_, _, _, z⟩ := hsp; exact z.elim)
      | (obtain ⟨_, _, _, _, _, z⟩ := hsp; exact z.elim)
  case caughtE =>
    rintro u s' ⟨a, B, sI, pins', σ', H', cls, d, rfl, J', nb, up, sky, na, os, ag, hex, hyes⟩
    have J : Inv X pins σ' H' sI := J'.ofTry ok
    show wpAny (model X.prog X.w) X.A (noteFrame (.ref a) X.env) _ _ _
    refine Sky.land (outer := X.outer) Zc.steady hfr hf (by rw [← hs]; exact sky) fun h3 fl3 up3 => ?_
    have J3 : Inv X pins σ' H' { s' with heap := h3 } := J.landed nb fl3.1 (up.trans up3) os ag
    obtain ⟨oe3, vs3, he3, hz3, hd3⟩ := fl3.there
    have nfr : a ∉ frs (X.env :: X.outer) := fun hm => by
      obtain ⟨_, o2, e2, hnf⟩ := fl3.2.2.1.mem hm
      cases he3.symm.trans e2
      exact hnf _ hd3
    have nL : a ≠ X.env.locals := fun z => nfr (List.mem_filterMap.mpr ⟨X.env, List.mem_cons_self, hf.trans (by rw [z])⟩)
    have nF : a ∉ X.fs := fun hm => by
      obtain ⟨e, he, q⟩ := List.mem_filterMap.mp hm
      exact nfr (List.mem_filterMap.mpr ⟨e, List.mem_cons_of_mem _ he, q⟩)
    have S3 := J3.suite he3 hd3 na nL nF
    refine wpAny_handleBy_cons (codeAny_handlers_test ?_) (by intro q; cases q)
    have LT : PySem.W.Looks (model X.prog X.w) h3 (typeOf (.ref a)) cls := fun A Q E s k q => wpAny_typeOf_ref (k _ _ he3) (by rw [hz3.1]; exact q)
    refine wpAny_Tuple (wpAny_items_cons (ld_glob (X := X.suite a ((a, oe3) :: (X.pn ++ pins))) S3 g1 m1 ?_ d1))
    refine wpAny_items_cons (ld_glob (X := X.suite a ((a, oe3) :: (X.pn ++ pins))) S3 g2 m2 ?_ d2)
    refine wpAny_items_nil ⟨by show 2 ≤ sizeLine; decide, ?_⟩
    have kp : ∀ q o, h3.get? q = some o → (h3.push { cls := .type "tuple", data := .seq [Value.ref c1, Value.ref c2].toArray }).get? q = some o := fun _ _ z => Heap.get?_push_of_some _ z
    refine (PySem.W.exm_tup2 (M := model X.prog X.w) (J3.kIn.keeps kp) (LT.keeps kp) (Heap.get?_push_size h3 rfl) hex).here ?_
    have fl3' := fly_push fl3 kp
    have upk : h3.UpToSlots (h3.push { cls := .type "tuple", data := .seq [Value.ref c1, Value.ref c2].toArray }) := Heap.UpToSlots.of_keeps kp
    refine codeAny_handlers_suite_as ?_
    refine HandSPX.lands_againZ fl3' fun h4 fl4 up4 => ?_
    have J4 : Inv X pins σ' H' { s' with heap := h4 } := J.landed nb fl4.1 (((up.trans up3).trans upk).trans up4) os ag
    obtain ⟨oe4, vs4, he4, hz4, hd4⟩ := fl4.there
    have S4 := J4.suite he4 hd4 na nL nF
    refine store_ok (X := X.suite a ((a, oe4) :: (X.pn ++ pins))) (v := .ref a) S4 hN hi hloc rfl (fun s5 S5 => ?_) (.inr hln)
    refine wpAny_mono ((hsu a oe4 cls d (X.pn ++ pins) hz4 ⟨_, hd4⟩).run [] s5 _ H' _ S5 (hyes a na J.len)) ?_ (fun _ _ z => z.elim)
    rintro (_ | u | _ | _) s6 hsp
    · obtain ⟨σ6, H6, S6, q6⟩ := hsp
      refine gone_ok (X := X.tr ((a, oe4) :: (X.pn ++ pins)) X.xe) (inv_keep S6 ok) hN hi hln fun s7 J7 => ?_
      exact wpAny_mono ((hr a oe4 cls d (X.pn ++ pins) hz4 ⟨_, hd4⟩).run [] s7 _ H6 D J7 q6) (fun f s8 h8 => sp_let ok h8) fun _ _ z => z
    all_goals first
      | (obtain ⟨_, _, _, z⟩ := hsp; exact z.elim)
      | (obtain ⟨_, _, _, _, _, z⟩ := hsp; exact z.elim)
end
end K3
set_option maxRecDepth 100000
set_option maxHeartbeats 4000000
/-! ## _law_told: the way by an exception -/
namespace K3
open PySem PySem.Spec PyProof.Rows L2
section
variable {X : Cx} {a D : Addr} {cls : Value} {d : Option Addr} {oe : Obj}
/-- isinstance(e, c), e the exception at a -/
def rIsP (K : PySem.W.Frag) (D a : Addr) (cls : Value) (d : Option Addr) : List V → Hp → VK → Prop := fun xs H Q => cls = .ref D ∧ ∃ (dd : Addr) (fs : List (Str × V)) (c : V) (cv : Value) (b : Bool), d = some dd ∧ H dd = some (.xd fs) ∧ xs = [.ref a, c] ∧ (∀ u, RelV c u → u = cv) ∧ PySem.W.kitOne K (.ref D) cv = some b ∧ Q (.bl b) H
theorem inst_pin {K : PySem.W.Frag} {H : Hp} {s : Shared} {P : Program} {w : World} {dd : Addr} {fs : List (Str × V)} (hg : s.heap.get? a = some oe) (hz : Zc (.ref D) (some dd) oe) (hf : ∃ vs, oe.data = .fields vs) (hok : HOk P w H s.heap) (hd : H dd = some (.xd fs)) :
    ∃ od, PySem.W.InstAt s.heap a oe D (some od) ∧ s.heap.get? dd = some od := by
  have hx : ObjOk P w H s.heap dd (.xd fs) := hok dd _ hd
  obtain ⟨mA, hns, hr⟩ := hx
  obtain ⟨od, ho, hl⟩ := lookIn_ns hns
  obtain ⟨vs, hv⟩ := hf
  exact ⟨od, ⟨hg, hz.1, by unfold PySem.W.notCls; rw [hv] <;> rfl, by rw [hz.2]; exact ho⟩, ho⟩
theorem call_isP (hm : (a, oe) ∈ X.pn) (C : ExcC X.K D) (hcl : (PySem.W.clsIn X.K D).isSome = true) (hz : Zc cls d oe) (hf : ∃ vs, oe.data = .fields vs) : CallR X (.builtin "isinstance") (rIsP X.K D a cls d) := by
  intro pins s σ H xs us Q I r h
  obtain ⟨rfl, dd, fs, c, cv, b, rfl, hd, rfl, hcv, e, q⟩ := h
  obtain ⟨u1, u2, rfl, rx, rt⟩ : ∃ u1 u2, us = [u1, u2] ∧ RelV (.ref a) u1 ∧ RelV c u2 := by
    cases r with
    | cons p q => cases q with | cons p2 q2 => cases q2; exact ⟨_, _, rfl, p, p2⟩
  cases rx
  obtain rfl := hcv _ rt
  obtain ⟨hget, _⟩ := I.pin (a, oe) (List.mem_append_left _ hm)
  obtain ⟨od, J, _⟩ := inst_pin (K := X.K) hget hz hf I.hok hd
  exact PySem.W.kia_one (PySem.W.kitx_exc (od := some od) (ox := oe) hcl C.hg C.hk C.hs C.ha C.hn C.ht C.hm) I.kIn J e (fun z => nomatch z) fun tk => ⟨.bl b, H, I.kept (t' := tk) fun _ _ z => z, rfl, q⟩
/-- e.path, e the exception at a, a BadWish -/
def tPathOf (C a : Addr) (cls : Value) (d : Option Addr) (te : TE) : TE := fun σ H Q => te σ H fun x H1 => x = .ref a ∧ cls = .ref C ∧ ∃ (dd : Addr) (v : V), d = some dd ∧ H1 dd = some (.xd [(("path" : Str), v)]) ∧ Q v H1
theorem pe_pathOf {C fI cc cda : Addr} {e : Expr} {te : TE} {pos : Pos} (T : BadTxt X.prog X.K X.mg C fI cc cda) (hm : (a, oe) ∈ X.pn) (hz : Zc cls d oe) (hf : ∃ vs, oe.data = .fields vs) (he : PE X e te)
    (hb : attributeBase e "path" X.env (eval e X.env) = eval e X.env := by rfl) : PE X (.Attribute e "path" pos) (tPathOf C a cls d te) := by
  constructor
  intro pins s σ H Q I h
  refine attr_of hb (thn (he.run pins s σ H _ I h) ?_)
  rintro u s1 ⟨x, H1, I1, rx, rfl, rfl, dd, v, rfl, ea, q⟩
  obtain rfl : u = Value.ref a := rx
  obtain ⟨ha, _⟩ := I1.pin (a, oe) (List.mem_append_left _ hm)
  have hx : ObjOk X.prog X.w H1 s1.heap dd (.xd [(("path" : Str), v)]) := I1.hok dd _ ea
  obtain ⟨mA, hns, hr⟩ := hx
  obtain ⟨od, ho, hl⟩ := lookIn_ns hns
  have l : List.lookup ("path" : Str) [(("path" : Str), v)] = some v := by simp [List.lookup]
  obtain ⟨u, hu, ru⟩ := RelO.some_of (v := v) (o := mA "path") (by rw [← l]; exact hr "path")
  obtain ⟨vs, hv⟩ := hf
  have J : PySem.W.InstAt s1.heap a oe C (some od) := ⟨ha, hz.1, by unfold PySem.W.notCls; rw [hv] <;> rfl, by rw [hz.2]; exact ho⟩
  exact HandSPX.exc_get I1.kIn J T.ga T.gg T.exC (PySem.W.findObj_own T.hdC T.noN rfl (by rw [hl, hu])) (handed_of ru) ⟨v, H1, I1.tok _, ru, q⟩
theorem call_isPK {K : PySem.W.Frag} (hK : X.K = K) (hm : (a, oe) ∈ X.pn) (C : ExcC K D) (hcl : (PySem.W.clsIn K D).isSome = true) (hz : Zc cls d oe) (hf : ∃ vs, oe.data = .fields vs) : CallR X (.builtin "isinstance") (rIsP K D a cls d) := by
  subst hK
  exact call_isP hm C hcl hz hf
theorem pe_pathOfK {P : Program} {K : PySem.W.Frag} {mg : Str → Option Value} {C fI cc cda : Addr} {e : Expr} {te : TE} {pos : Pos} (hP : X.prog = P) (hK : X.K = K) (hg : X.mg = mg) (T : BadTxt P K mg C fI cc cda) (hm : (a, oe) ∈ X.pn) (hz : Zc cls d oe) (hf : ∃ vs, oe.data = .fields vs) (he : PE X e te)
    (hb : attributeBase e "path" X.env (eval e X.env) = eval e X.env := by rfl) : PE X (.Attribute e "path" pos) (tPathOf C a cls d te) := by
  subst hP hK hg
  exact pe_pathOf T hm hz hf he hb
/-- an expression that is never asked for -/
def tNoE : TE := fun _ _ _ => False
theorem pe_noE {e : Expr} : PE X e tNoE := ⟨fun _ _ _ _ _ _ h => h.elim⟩
theorem pe_cls {x : Str} {c : Addr} {pos : Pos} (h : X.mg x = some (.ref c)) (hg : Gl X x := by rfl) (hdb : (x == ("__debug__" : Str)) = false := by decide) : PE X (.Name x pos) (tC (.ref c)) := pe_glob hg h rfl hdb
end
abbrev lenR (K : PySem.W.Frag) : List V → Hp → VK → Prop := fun xs H Q => ∃ p ys, xs = [.ref p] ∧ (SqL K H p ys ∨ SqT K H p ys) ∧ Q (.int (ys.length : Int)) H
section
variable {K : PySem.W.Frag} {H : Hp} {σ : L2.St} {D : Ends} {us : L2.TS} {t : TT} {te : TE}
theorem q_copyN {i j m : Nat} {v : V} {T : L2.TS} {r : VK} {b c : L2.St → Hp → Prop} (hv : σ[i]? = some (some v)) (k : T D ((σ.set j (some v)).set m none) H) : tAsg (tVar i) (gName j) { nx := fun σ1 H1 => T D (σ1.set m none) H1, rt := r, bk := b, ct := c } σ H := ⟨v, hv, k⟩
/-- x = e if t else x, t false -/
theorem s_stay {i : Nat} {v : V} (h : EvT t σ H false) (hv : σ[i]? = some (some v)) (k : ∀ H2, Same H H2 → us D (σ.set i (some v)) H2) : tSeq (tAsg (tIf t te (tVar i)) (gName i)) us D σ H :=
  h H (Same.refl _) _ fun H2 s2 => iteF ⟨v, hv, k H2 s2⟩
theorem et_isP {C a c dd : Addr} {d : Option Addr} {cls : Value} {fs : List (Str × V)} {b : Bool} {i : Nat} (hv : σ[i]? = some (some (.ref a))) (hc : cls = .ref C) (hd : d = some dd) (hx : H dd = some (.xd fs)) (hk : PySem.W.kitOne K (.ref C) (.ref c) = some b) :
    EvT (tB (tCB (rIsP K C a cls d) (tCons (tVar i) (tCons (tC (.ref c)) tNil)))) σ H b := fun H1 s1 Q q =>
  ⟨_, hv, hc, dd, fs, .ref c, .ref c, b, hd, s1 _ _ hx, rfl, fun u r => r, hk, b, rfl, q H1 (Same.refl _)⟩
theorem ed_pathOf {C a dd : Addr} {d : Option Addr} {cls : Value} {y : V} {dy : PyData} {i : Nat} (hv : σ[i]? = some (some (.ref a))) (hc : cls = .ref C) (hd : d = some dd) (hx : H dd = some (.xd [(("path" : Str), y)])) (hy : Dp K H y dy) : EvD K (tPathOf C a cls d (tVar i)) σ H dy := fun H1 s1 Q q =>
  ⟨_, hv, rfl, hc, dd, y, hd, s1 _ _ hx, q y H1 (Same.refl _) (Dp.same s1 _ _ hy)⟩
end
/-- what _law_told asks of the classes -/
structure ToldTxt (K : PySem.W.Frag) (mg : Str → Option Value) (C cW cG cM cP cR cN cA : Addr) : Prop where
  gW : mg "WishError" = some (.ref cW)
  gG : mg "TooGreat" = some (.ref cG)
  gM : mg "BadMachine" = some (.ref cM)
  gP : mg "BadPath" = some (.ref cP)
  gR : mg "BadRun" = some (.ref cR)
  gN : mg "BadNumber" = some (.ref cN)
  gA : mg "BadPaper" = some (.ref cA)
  exm : PySem.W.exmAny K (.ref C) [.ref cW, .ref cG] = some true
  kG : PySem.W.kitOne K (.ref C) (.ref cG) = some false
  kM : PySem.W.kitOne K (.ref C) (.ref cM) = some false
  kC : PySem.W.kitOne K (.ref C) (.ref C) = some true
  kP : PySem.W.kitOne K (.ref C) (.ref cP) = some false
  kR : PySem.W.kitOne K (.ref C) (.ref cR) = some false
  kN : PySem.W.kitOne K (.ref C) (.ref cN) = some false
  kA : PySem.W.kitOne K (.ref C) (.ref cA) = some false
  ec : ExcC K C
  cl : (PySem.W.clsIn K C).isSome = true
/-- what _law_told makes of a call that raises BadWish -/
def TTk (K : PySem.W.Frag) (C : Addr) : (XK → Hp → VK → Prop) → Hp → VK → Prop := fun tl H Q =>
  ∀ H1, Same H H1 → tl (fun cls d H' => cls = .ref C ∧ ∃ (dd : Addr) (y : V) (dy : PyData), d = some dd ∧ H' dd = some (.xd [(("path" : Str), y)]) ∧ Dp K H' y dy ∧ ∀ v H2, Same H' H2 → Dp K H2 v (.tuple [.str "wish", dy]) → Q v H2) H1 (fun _ _ => False)
theorem sc_law_told : FnScope ["call", "found", "caught", "error", "said"] ["call"] (defScope s_law_told) := ⟨rfl, rfl, rfl, by decide +kernel, rfl, by decide +kernel, by decide +kernel⟩
section
variable {X : Cx} {C fI cc cda cW cG cM cP cR cN cA : Addr}
theorem told_k3 (B : BadTxt X.prog X.K X.mg C fI cc cda) (T : ToldTxt X.K X.mg C cW cG cM cP cR cN cA) (ml : X.mg "len" = none) (mi : X.mg "isinstance" = none) {g : Addr} {cdg : Value} {q : Str} :
    LamX.GivesTo X ["call", "found", "caught", "error", "said"] "_law_told" (defScope s_law_told) g cdg (defBody s_law_told) "call" q (TTk X.K C) := by
  intro f c' s H Q tl act hc h
  have nd := sc_law_told.nd
  refine ⟨_, pss_cons (ps_asg (pe_tup (pa_cons pe_non (pa_cons pe_non pa_nil))) (pg_tup rfl (pgs_cons (pg_name (i := 1) nd rfl (Or.inl rfl)) (pgs_cons (pg_name (i := 2) nd rfl (Or.inl rfl)) pgs_nil))))
    (pss_tryKeep (X := (cxOf C8.CX0 X.prog X.w X.K X.mg X.base ["call", "found", "caught", "error", "said"] "_law_told" (defScope s_law_told) g cdg X.A X.stack s H C8.E0).nox) (i := 3) (c1 := cW) (c2 := cG)
      (tb := fun W D σ H => ∃ Ech : XK, (∀ cls d σ' H', Ech cls d H' → W cls d σ' H') ∧ σ[0]? = some (some (.ref f)) ∧ H c' = some (LamX.CodeO c' q) ∧ tl Ech H (fun v H1 => D.nx (σ.set 1 (some v)) H1))
      rfl rfl nd rfl rfl rfl T.gW (by decide) rfl T.gG (by decide) (fun W pn xe tk _ => ?_)
      (fun a oe cls d pn hz hf => pss_one (ps_set (i := 2) nd rfl (Or.inl rfl) (pv 3)))
      (fun a oe cls d pn hz hf => by
        have hm : (a, oe) ∈ ((a, oe) :: pn) := List.mem_cons_self
        exact pss_cons (ps_if (pt_cmpR op_isN (pv 2) pe_non (nomark _)) pss_never pss_nil)
            (pss_cons (ps_set (i := 4) nd rfl (Or.inl rfl) (pe_ifExp (pt_val (pe_callB (call_isPK (K := X.K) rfl hm T.ec T.cl hz hf) rfl mi (by decide +kernel) (pa_cons (pv 2) (pa_cons (pe_cls T.gG) pa_nil)))) pe_noE (pe_lst pa_nil)))
            (pss_cons (ps_set (i := 4) nd rfl (Or.inl rfl) (pe_ifExp (pt_val (pe_callB (call_isPK (K := X.K) rfl hm T.ec T.cl hz hf) rfl mi (by decide +kernel) (pa_cons (pv 2) (pa_cons (pe_cls T.gM) pa_nil)))) pe_noE (pv 4)))
            (pss_cons (ps_set (i := 4) nd rfl (Or.inl rfl) (pe_ifExp (pt_val (pe_callB (call_isPK (K := X.K) rfl hm T.ec T.cl hz hf) rfl mi (by decide +kernel) (pa_cons (pv 2) (pa_cons (pe_cls B.gC) pa_nil)))) (pe_op op_cat (pv 4) (pe_lst (pa_cons (pe_tup (pa_cons pe_str (pa_cons (pe_pathOfK rfl rfl rfl B hm hz hf (pv 2)) pa_nil))) pa_nil))) (pv 4)))
            (pss_cons (ps_set (i := 4) nd rfl (Or.inl rfl) (pe_ifExp (pt_val (pe_callB (call_isPK (K := X.K) rfl hm T.ec T.cl hz hf) rfl mi (by decide +kernel) (pa_cons (pv 2) (pa_cons (pe_cls T.gP) pa_nil)))) pe_noE (pv 4)))
            (pss_cons (ps_set (i := 4) nd rfl (Or.inl rfl) (pe_ifExp (pt_val (pe_callB (call_isPK (K := X.K) rfl hm T.ec T.cl hz hf) rfl mi (by decide +kernel) (pa_cons (pv 2) (pa_cons (pe_cls T.gR) pa_nil)))) pe_noE (pv 4)))
            (pss_cons (ps_set (i := 4) nd rfl (Or.inl rfl) (pe_ifExp (pt_val (pe_callB (call_isPK (K := X.K) rfl hm T.ec T.cl hz hf) rfl mi (by decide +kernel) (pa_cons (pv 2) (pa_cons (pe_cls T.gN) pa_nil)))) pe_noE (pv 4)))
            (pss_cons (ps_set (i := 4) nd rfl (Or.inl rfl) (pe_ifExp (pt_val (pe_callB (call_isPK (K := X.K) rfl hm T.ec T.cl hz hf) rfl mi (by decide +kernel) (pa_cons (pv 2) (pa_cons (pe_cls T.gA) pa_nil)))) pe_noE (pv 4)))
            (pss_one (ps_ret (pe_ifExp (pt_cmpR op_eq (pe_callB (r := lenR X.K) call_len_seq rfl ml PySem.boot_len (pa_cons (pv 4) pa_nil)) pe_int (nomark _)) (pe_ix (r := rIxL X.K) ix_list (pv 4) pe_int (fun _ _ => rfl)) pe_noE)))))))))))), ?_⟩
  · refine ⟨fun pins s' σ H' D I h' => ?_⟩
    obtain ⟨Ech, hW, h1, h2, h3⟩ := h'
    exact (pss_one (ps_set (i := 1) nd rfl (Or.inl rfl) (act W pn xe Ech _ _ tk hW))).run pins s' σ H' D I ⟨h1, h2, h3⟩
  · refine ⟨by show 2 ≤ sizeLine; decide, fun p hp => ?_⟩
    have s1 := same_new hp (HO.tup [V.non, V.non])
    refine ⟨p, _, rfl, SqT.of upd_same, rfl, _, _, rfl, _, _, rfl, rfl, ?_⟩
    refine ⟨fun cls d H' => cls = .ref C ∧ ∃ (dd : Addr) (y : V) (dy : PyData), d = some dd ∧ H' dd = some (.xd [(("path" : Str), y)]) ∧ Dp X.K H' y dy ∧ ∀ v H2, Same H' H2 → Dp X.K H2 v (.tuple [.str "wish", dy]) → Q v H2, ?_, rfl, s1 _ _ hc, h _ s1⟩
    rintro cls d σ' H0 ⟨hcls, dd, y, dy, hd, hx0, hy, q⟩
    subst hcls
    refine ⟨T.exm, fun a na hl => ?_⟩
    match σ', hl with
    | [b0, b1, b2, b3, b4], _ =>
    refine q_copyN (v := .ref a) rfl ?_
    refine s_pass (fun H1 e1 Q1 q1 => ⟨.ref a, rfl, rfl, false, rfl, q1 H1 (Same.refl _)⟩) fun H1 t1 => ?_
    have hx1 := t1 _ _ hx0
    have hy1 := Dp.same t1 _ _ hy
    refine s_setL (K := X.K) (ds := []) (el_if (c := false) (et_isP (C := C) (a := a) (c := cG) rfl rfl hd hx1 T.kG) (fun z => by cases z) fun _ => el_lst ea_nil (by show 0 ≤ 100000; decide)) fun l0 xs0 H2 t2 nl0 hl0 hn0 => ?_
    cases hn0
    have hx2 := t2 _ _ hx1
    have hy2 := Dp.same t2 _ _ hy1
    refine s_stay (et_isP (C := C) (a := a) (c := cM) rfl rfl hd hx2 T.kM) rfl fun H3 t3 => ?_
    have hx3 := t3 _ _ hx2
    have hy3 := Dp.same t3 _ _ hy2
    have ep : EvL X.K (tOp rCat (tVar 4) (tLst (tCons (tTup (tCons (tC (.str "wish")) (tCons (tPathOf C a (.ref C) d (tVar 2)) tNil))) tNil))) [b0, b1, some (.ref a), none, some (.ref l0)] H3 ([] ++ [.tuple [.str "wish", dy]]) :=
      el_catV rfl (t3 _ _ hl0) .nil (el_lst (ea_cons (ed_tup (ea_cons ed_str (ea_cons (ed_pathOf rfl rfl hd hx3 hy3) ea_nil)) (by show 2 ≤ 100000; decide)) ea_nil) (by show 1 ≤ 100000; decide)) (by show 1 ≤ 100000; decide)
    refine s_setL (K := X.K) (el_if (c := true) (et_isP (C := C) (a := a) (c := C) rfl rfl hd hx3 T.kC) (fun _ => ep) fun z => by cases z) fun l1 xs1 H4 t4 nl1 hl1 hn1 => ?_
    have hx4 := t4 _ _ hx3
    refine s_stay (et_isP (C := C) (a := a) (c := cP) rfl rfl hd hx4 T.kP) rfl fun H5 t5 => ?_
    have hx5 := t5 _ _ hx4
    refine s_stay (et_isP (C := C) (a := a) (c := cR) rfl rfl hd hx5 T.kR) rfl fun H6 t6 => ?_
    have hx6 := t6 _ _ hx5
    refine s_stay (et_isP (C := C) (a := a) (c := cN) rfl rfl hd hx6 T.kN) rfl fun H7 t7 => ?_
    have hx7 := t7 _ _ hx6
    refine s_stay (et_isP (C := C) (a := a) (c := cA) rfl rfl hd hx7 T.kA) rfl fun H8 t8 => ?_
    have t48 := ((t5.trans t6).trans t7).trans t8
    have t08 := (((t1.trans t2).trans t3).trans t4).trans t48
    have ev : EvD X.K (tVar 4) [b0, b1, some (.ref a), none, some (.ref l1)] H8 (.list [.tuple [.str "wish", dy]]) := ed_var rfl (.lst (SqL.of (t48 _ _ hl1)) (DpAll.same t48 _ _ hn1))
    refine q_ret (K := X.K) (d := .tuple [.str "wish", dy]) (ed_if (c := true) (et_test (ed_eqI (ed_lenL ev) (ed_int (i := 1)))) (fun _ => ed_ixL (i := 0) ev ed_int rfl) fun z => by cases z) fun v H9 t9 h9 => ?_
    exact q v H9 (t08.trans t9) h9
end
end K3
set_option maxRecDepth 100000
set_option maxHeartbeats 4000000
/-! ## _law_right -/
namespace K3
open PySem PySem.Spec PyProof.Rows L2
abbrev lamQ : Str := (envOfC "_law_right" (defScope s_law_right) 0 0 .none).qual ++ "<lambda>"
abbrev tabT (Pt : Addr) : List (Addr × Str) := [(Pt, lamQ)]
abbrev Nr : List Str := ["hope", "path", "part", "is_so", "constants", "here", "said", "due", "far", "words", "timed", "way", "own", "word"]
section
variable {P : Program} {w : World} {K : PySem.W.Frag} {mg : Str → Option Value} {base : Heap} {H H1 H2 : Hp}
theorem ExtN_ts (e : LamX.ExtN H H1) : TStay K H H1 := fun a xs q => by
  rcases q with (q | ⟨o, q⟩) | q
  · exact .inl (.inl (e _ _ q fun ps z => by cases z))
  · exact .inl (.inr ⟨o, e _ _ q fun ps z => by cases z⟩)
  · exact .inr q
theorem ExtN_same (e : Same H H1) : LamX.ExtN H H1 := fun b o h _ => e b o h
theorem clG_ofC {x : Str} {st : Stmt} {N ps : List Str} {k : Nat} {sp : Sp} {c : Addr} (D : ∃ f fd, Dn K mg x st f fd) (S : FnScope N ps (defScope st)) (hb : BindsN x st ps) (len : ∀ vs H Q E, sp vs H Q E → vs.length = ps.length)
    (hC : ∀ (f : Addr) (cdv oc dV kV doc pm ct : Value) (an od : Option Addr) (osl : Array (Option Value)), mg x = some (.ref f) → K.lookup f = some ⟨oc, od, .func (PySem.W.fnOf x x (defArgs st) (defBody st) (defScope st) dV kV doc pm an cdv ct), osl⟩ → PySem.W.codeIn K cdv x = true → cdv = .ref c)
    (hbody : ∀ (f : Addr) (A : Around) (outer : List Env) (s : Shared) (H : Hp) (vs : List V) (Q : VK) (E : XK), A.guards = some [] → Room k (A.deeper (envOfC x (defScope st) s.heap.objs.size f (.ref c))) → sp vs H Q E →
      ∃ t, PSs (cxOf CX0 P w K mg base N x (defScope st) f (.ref c) A outer s H E).nox (defBody st) t ∧ t { nx := fun _ H' => Q .non H', rt := Q } (start N vs) H) : ClG P w K mg base (k + 1) x sp := by
  obtain ⟨f, fd, D⟩ := D
  refine ⟨f, fd, ps, ?_, D.at_, D.fn.kp, D.fn.bindsN hb⟩
  obtain ⟨oc, od, dV, kV, doc, pm, an, cdv, ct, osl, rfl, lk, hcd, _, _⟩ := D.fn.ex
  obtain rfl := hC f cdv oc dV kV doc pm ct an od osl D.at_ lk hcd
  refine ⟨len, fun A outer s H args us vs Q E hg hr e0 hb r h => ?_⟩
  refine LamX.run_ofS lk hcd S hr e0 hb r (len _ _ _ _ h) fun hr' => ?_
  obtain ⟨t, h1, h2⟩ := hbody f A outer s H vs Q E hg hr' h
  exact ⟨t, h1.nox, h2⟩
theorem lam_ok0 : LamX.lamSB (defScope s_law_right) { kind := .function, names := [("hope", .free), ("part", .free), ("path", .free), ("replaced", .globalImplicit)], isGenerator := false, isCoroutine := false, more := [] } = true := by decide +kernel
theorem lam_ok (sc : Scope) (h : sc = defScope s_law_right) : LamX.lamSB sc { kind := .function, names := [("hope", .free), ("part", .free), ("path", .free), ("replaced", .globalImplicit)], isGenerator := false, isCoroutine := false, more := [] } = true := by
  subst h
  exact lam_ok0
/-! ### plain: what the comprehensions give -/
def hereF (p : List Int) : PyData → Option PyData
  | .tuple [a, b] => if PyData.eqv a (pD p) = true then some b else none
  | _ => none
theorem here_all {x : Wi} {p : List Int} : ∀ l : List (List Int × Wi), (∀ y, (p, y) ∈ l → y = x) → ∀ d ∈ (stD l).filterMap (hereF p), d = x.dat
  | [], _, d, h => by cases h
  | z :: l, hl, d, h => by
    have h' : d ∈ (prD z :: stD l).filterMap (hereF p) := h
    rw [List.filterMap_cons] at h'
    have e : hereF p (prD z) = if PyData.eqv (pD z.1) (pD p) = true then some z.2.dat else none := rfl
    rw [e, pD_eqv] at h'
    by_cases q : z.1 = p
    · rw [decide_eq_true q, if_pos rfl] at h'
      rcases List.mem_cons.mp h' with rfl | h2
      · rw [hl z.2 (by rw [← q]; exact List.mem_cons_self)]
      · exact here_all l (fun y hy => hl y (List.mem_cons_of_mem _ hy)) d h2
    · rw [decide_eq_false q, if_neg (by decide)] at h'
      exact here_all l (fun y hy => hl y (List.mem_cons_of_mem _ hy)) d h'
theorem here_some {x : Wi} {p : List Int} : ∀ l : List (List Int × Wi), (p, x) ∈ l → (stD l).filterMap (hereF p) ≠ []
  | z :: l, h => by
    show (prD z :: stD l).filterMap (hereF p) ≠ []
    rw [List.filterMap_cons]
    have e : hereF p (prD z) = if PyData.eqv (pD z.1) (pD p) = true then some z.2.dat else none := rfl
    rw [e, pD_eqv]
    by_cases q : z.1 = p
    · rw [decide_eq_true q, if_pos rfl]
      exact List.cons_ne_nil _ _
    · rw [decide_eq_false q, if_neg (by decide)]
      rcases List.mem_cons.mp h with h2 | h2
      · exact absurd (by rw [← h2]) q
      · exact here_some l h2
theorem here_get {w x : Wi} {p : List Int} (h : w.at p = some x) : ((stD w.pieces).filterMap (hereF p))[0]? = some x.dat := by
  have h1 := here_some w.pieces ((Wi.mem_pieces w p x).mpr h)
  have h2 := here_all (x := x) (p := p) w.pieces fun y hy => by
    have := (Wi.mem_pieces w p y).mp hy
    rw [h] at this
    exact (Option.some.inj this).symm
  cases e : (stD w.pieces).filterMap (hereF p) with
  | nil => exact absurd e h1
  | cons d ds =>
    rw [e] at h2
    rw [h2 d List.mem_cons_self]
    rfl
def wordF : PyData → Option PyData
  | .tuple [_, .tuple (c :: _)] => some c
  | _ => none
theorem word_of (l : List (List Int × Wi)) : (stD l).filterMap wordF = (l.map fun x => x.2.word).map PyData.str := by
  induction l with
  | nil => rfl
  | cons x l ih =>
    show (prD x :: stD l).filterMap wordF = _
    rw [List.filterMap_cons]
    have e : wordF (prD x) = some (.str x.2.word) := by
      show wordF (.tuple [pD x.1, x.2.dat]) = _
      rw [Wi.dat_eq]
      rfl
    rw [e, ih]
    rfl
def timF : PyData → Option PyData
  | .str c => if timedB c = true then some (.str c) else none
  | _ => none
theorem tim_of (l : List Str) : (l.map PyData.str).filterMap timF = (l.filter timedB).map PyData.str := by
  induction l with
  | nil => rfl
  | cons c l ih =>
    rw [List.map_cons, List.filterMap_cons, List.filter_cons]
    have e : timF (.str c) = if timedB c = true then some (.str c) else none := rfl
    rw [e]
    by_cases h : timedB c = true
    · rw [if_pos h, if_pos h, List.map_cons, ih]
    · rw [if_neg h, if_neg h, ih]
theorem timedB_w {w : Wi} (h : w.Ok) : (if timedB w.word = true then 1 else 0) = tmW w.word := timed_in _ (word_cases h)
theorem filt_one {w : Wi} (h : w.Ok) (l : List Str) : ((w.word :: l).filter timedB).length = tmW w.word + (l.filter timedB).length := by
  rw [← timedB_w h, List.filter_cons]
  by_cases q : timedB w.word = true
  · rw [if_pos q, if_pos q, List.length_cons]
    omega
  · rw [if_neg q, if_neg q]
    omega
theorem words_under (n : Int) (w : Wi) : ((w.pieces.map fun p => (n :: p.1, p.2)).map fun x : List Int × Wi => x.2.word) = w.pieces.map fun x => x.2.word := by
  rw [List.map_map]
  rfl
theorem tim_count : ∀ {w : Wi}, w.Ok → ((w.pieces.map fun x => x.2.word).filter timedB).length = w.tm
  | .mark n, h => filt_one (w := .mark n) h []
  | .nul c, h => filt_one (w := .nul c) h []
  | .un c f, h => by
    have ih := tim_count h.2
    show (((Wi.un c f).word :: ((f.pieces.map fun p => (1 :: p.1, p.2)).map fun x : List Int × Wi => x.2.word)).filter timedB).length = _
    rw [filt_one h, words_under, ih]
    show tmW c + f.tm = f.tm + tmW c
    omega
  | .bi c f g, h => by
    have i1 := tim_count h.2.1
    have i2 := tim_count h.2.2
    show (((Wi.bi c f g).word :: (((f.pieces.map fun p => (1 :: p.1, p.2)) ++ g.pieces.map fun p => (2 :: p.1, p.2)).map fun x : List Int × Wi => x.2.word)).filter timedB).length = _
    rw [filt_one h, List.map_append, words_under, words_under, List.filter_append, List.length_append, i1, i2]
    show tmW c + (f.tm + g.tm) = f.tm + g.tm + tmW c
    omega
theorem wish_shaped : SeqAt.shaped (.tuple [.str "wish", pD []]) = true := by decide +kernel
/-- asked with a wish, one of its paths, another part -/
def spRight (K : PySem.W.Frag) (Pt : Addr) : Sp := fun vs H Q _ => ∃ (hope x part : Wi) (p : List Int), hope.Ok ∧ fits hope = true ∧ hope.at p = some x ∧ part.Ok ∧ fits part = true ∧ DpAll K H vs [hope.dat, pD p, part.dat] ∧ LamX.Tabs (tabT Pt) H ∧
  ∀ H', LamX.ExtN H H' → LamX.Tabs (tabT Pt) H' → Q (.bl true) H'
theorem sc_law_right : FnScope Nr ["hope", "path", "part"] (defScope s_law_right) := ⟨rfl, rfl, rfl, by decide +kernel, rfl, by decide +kernel, by decide +kernel⟩
theorem ok_law_right {C fI cc cda cW cG cM cP cR cN cA c Pt : Addr} (T : Tx K mg w) (B : BadTxt P K mg C fI cc cda) (TT : ToldTxt K mg C cW cG cM cP cR cN cA) (TB : LamX.TabB base mg c Pt)
    (hC : ∀ (f : Addr) (cdv oc dV kV doc pm ct : Value) (an od : Option Addr) (osl : Array (Option Value)), mg "_law_right" = some (.ref f) → K.lookup f = some ⟨oc, od, .func (PySem.W.fnOf "_law_right" "_law_right" (defArgs s_law_right) (defBody s_law_right) (defScope s_law_right) dV kV doc pm an cdv ct), osl⟩ → PySem.W.codeIn K cdv "_law_right" = true → cdv = .ref c) :
    ClG P w K mg base 62 "_law_right" (spRight K Pt) := by
  have cE : Cl P w K mg base 1 "_law_is_even" (spD K 2 rPlainIn) := ok_law_is_even T
  have cPc : Cl P w K mg base 61 "_law_pieces" (spL K 1 (rPieces 60)) := ok_law_pieces T 60 (Nat.le_refl _)
  have cWi : Cl P w K mg base 13 "_law_with" (spD K 3 (rPut 12)) := ok_law_with T 12
  have c1 : Cl P w K mg base 6 "part_at" (spD K 2 (rAt atD)) := ok_part_at T
  have c2 : Cl P w K mg base 6 "is_plain" (spD K 2 (rAt evenD)) := ok_is_plain T
  have c3 : Cl P w K mg base 6 "worst" (spD K 2 (rAt worstD)) := ok_worst T
  have c4 : Cl P w K mg base 15 "hardened" (spD K 2 (rAt hardD)) := ok_hardened T
  have c5 : Cl P w K mg base 15 "softened" (spD K 2 (rAt softD)) := ok_softened T
  have cR1 : Cl P w K mg base 14 "replaced" (spD K 3 rRepl) := ok_replaced T
  have cRX : ClX P w K mg base 14 "replaced" (spRaise K C 3 rReplX) := ok_replacedX T B
  have cL : ClG P w K mg base 1 "_law_like" (spD K 2 rLike) := ok_law_like T
  obtain ⟨fT, fdT, DT⟩ := T.f_law_told
  obtain ⟨ocT, odT, dVT, kVT, docT, pmT, anT, cdvT, ctT, oslT, rfl, lkT, hcdT, _, _⟩ := DT.fn.ex
  have bT := DT.fn.bindsN (ps := ["call"]) (fun _ _ _ _ _ _ us hl => match us, hl with | [_], _ => rfl)
  refine clG_ofC T.f_law_right sc_law_right (fun _ _ _ _ _ _ us hl => match us, hl with | [_, _, _], _ => rfl) (fun vs H Q E h => by obtain ⟨_, _, _, _, _, _, _, _, _, hd, _⟩ := h; exact hd.len) hC (fun f A outer s H vs Q E hgd hr h => ?_)
  obtain ⟨hope, x, part, p, ok, hf, hat, okp, hfp, hd, hT, q⟩ := h
  obtain ⟨v, u, t, rfl, hv, hu, ht⟩ := hd.three
  have nd := sc_law_right.nd
  have hu0 := hr.units
  have hgd' : (cxOf CX0 P w K mg base Nr "_law_right" (defScope s_law_right) f (.ref c) A outer s H E).nox.A.guards = some [] := hgd
  refine ⟨_, pss_cons (ps_set (i := 3) nd rfl (Or.inl rfl) (pe_cl cE hr (by decide) (pa_cons (pv 0) (pa_cons (pv 1) pa_nil))))
    (pss_cons (ps_set (i := 4) nd rfl (Or.inl rfl) (pe_ifExp (pt_val (pv 3)) (pe_lst (pa_cons (pe_tup (pa_cons pe_str pa_nil)) (pa_cons (pe_tup (pa_cons pe_str pa_nil)) pa_nil))) (pe_lst (pa_cons (pe_tup (pa_cons pe_str pa_nil)) (pa_cons (pe_tup (pa_cons pe_str pa_nil)) pa_nil)))))
    (pss_cons (ps_set (i := 5) nd rfl (Or.inl rfl) (pe_ix ix_list (pe_lc (own := [("way", 11), ("own", 12)]) (g := gTup K 2 (gCons (gName 11) (gCons (gName 12) gNil))) (tt := tTest (tOp (rEqD K) (tVar 11) (tVar 1))) rfl nd (pi_list (pe_cl cPc hr (by decide) (pa_cons (pv 0) pa_nil)))
        (blkOk_by (N := Nr) (sc := defScope s_law_right) (by decide +kernel)) (fun _ _ _ _ _ => pg_tup rfl (pgs_cons (pg_name (i := 11) nd rfl (Or.inl rfl)) (pgs_cons (pg_name (i := 12) nd rfl (Or.inl rfl)) pgs_nil)))
        (fun _ _ _ _ _ => pts_one (pt_cmpR (op_eqD hu0) (pv 11) (pv 1) (nomark _))) (fun _ _ _ _ _ => pv 12)) pe_int (fun _ _ => rfl)))
    (pss_cons (ps_set (i := 6) nd rfl (Or.inl rfl) (pe_lst (pa_cons (pe_cl c1 hr (by decide) (pa_cons (pv 0) (pa_cons (pv 1) pa_nil))) (pa_cons (pe_cl c2 hr (by decide) (pa_cons (pv 0) (pa_cons (pv 1) pa_nil))) (pa_cons (pe_cl c3 hr (by decide) (pa_cons (pv 0) (pa_cons (pv 1) pa_nil)))
        (pa_cons (pe_cl c4 hr (by decide) (pa_cons (pv 0) (pa_cons (pv 1) pa_nil))) (pa_cons (pe_cl c5 hr (by decide) (pa_cons (pv 0) (pa_cons (pv 1) pa_nil))) pa_nil)))))))
    (pss_cons (ps_set (i := 7) nd rfl (Or.inl rfl) (pe_lst (pa_cons (pv 5) (pa_cons (pv 3) (pa_cons (pe_ix ix_list (pv 4) pe_int (fun _ _ => rfl)) (pa_cons (pe_cl cWi hr (by decide) (pa_cons (pv 0) (pa_cons (pv 1) (pa_cons (pe_ix ix_list (pv 4) pe_int (fun _ _ => rfl)) pa_nil))))
        (pa_cons (pe_cl cWi hr (by decide) (pa_cons (pv 0) (pa_cons (pv 1) (pa_cons (pe_ix ix_list (pv 4) pe_int (fun _ _ => rfl)) pa_nil)))) pa_nil)))))))
    (pss_cons (ps_if (pt_not (pt_val (pe_clG cL hgd' hr (by decide) (pa_cons (pv 6) (pa_cons (pv 7) pa_nil))))) (pss_one (ps_ret pe_bl)) pss_nil)
    (pss_cons (ps_set (i := 8) nd rfl (Or.inl rfl) (pe_cl cWi hr (by decide) (pa_cons (pv 0) (pa_cons (pv 1) (pa_cons (pv 2) pa_nil)))))
    (pss_cons (ps_setLc (i := 9) (own := [("way", 11), ("own", 12)]) (g := gTup K 2 (gCons (gName 11) (gCons (gName 12) gNil))) (tt := tYes) rfl nd rfl rfl (sw_true rfl rfl rfl (by decide +kernel)) (pi_list (pe_cl cPc hr (by decide) (pa_cons (pv 8) pa_nil)))
        (blkOk_by (N := Nr) (sc := defScope s_law_right) (by decide +kernel)) (fun _ _ _ _ _ => pg_tup rfl (pgs_cons (pg_name (i := 11) nd rfl (Or.inl rfl)) (pgs_cons (pg_name (i := 12) nd rfl (Or.inl rfl)) pgs_nil)))
        (fun _ _ _ _ _ => pts_nil) (fun _ _ _ _ _ => pe_ix (r := rIxT K) ix_tup (pv 12) pe_int (fun _ _ => rfl)))
    (pss_cons (ps_setLc (i := 10) (own := [("word", 13)]) (g := gName 13) (tt := tTest (tOp (rIn K false) (tVar 13) (tTup (tCons (tC (.str "next")) (tCons (tC (.str "till")) (tCons (tC (.str "ever")) (tCons (tC (.str "always")) tNil))))))) rfl nd rfl rfl (sw_true rfl rfl rfl (by decide +kernel)) (pi_list (pv 9))
        (blkOk_by (N := Nr) (sc := defScope s_law_right) (by decide +kernel)) (fun _ _ _ _ _ => pg_name (i := 13) nd rfl (Or.inl rfl))
        (fun _ _ _ _ _ => pts_one (pt_cmpR op_in_seq (pv 13) (pe_tup (pa_cons pe_str (pa_cons pe_str (pa_cons pe_str (pa_cons pe_str pa_nil))))) (by rfl))) (fun _ _ _ _ _ => pv 13))
    (pss_cons (ps_if (PW.pt (pw_or (pt_cmpR op_gt (pe_callB call_len_seq rfl T.b_len PySem.boot_len (pa_cons (pv 9) pa_nil)) pe_int (nomark _)) (pw_or1 (pt_cmpR op_gt (pe_callB call_len_seq rfl T.b_len PySem.boot_len (pa_cons (pv 10) pa_nil)) pe_int (nomark _)))))
        (pss_one (ps_ret (pe_cmpR (op_eqD hu0) (LamX.pe_lamcall (T := tabT Pt) (k := 14) (t := fun E' => tCall (spRaise K C 3 rReplX) [] E' (tCons (tVar 0) (tCons (tVar 1) (tCons (tVar 2) tNil)))) rfl DT.at_ DT.fn.kp lkT hcdT bT sc_law_told rfl (Or.inl rfl) (told_k3 B TT T.b_len T.b_isinstance) TB rfl List.mem_cons_self
            (fun p hp _ => by obtain rfl := List.mem_singleton.mp hp; rfl) (hr.mono (by decide)) (LamX.lamS_by (lam_ok _ rfl)) rfl (fun _ _ _ _ _ => rfl)
            (fun A' outer' s' H' E' f' c' hr' => pe_clX (E := E') cRX hr' (Nat.le_refl _) (passes_call (takes_of rfl rfl rfl rfl) (fun _ _ _ _ h => h)) (pa_cons (pv 0) (pa_cons (pv 1) (pa_cons (pv 2) pa_nil)))))
          (pe_tup (pa_cons pe_str (pa_cons (pe_tup pa_nil) pa_nil))) (nomark _)))) pss_nil)
    (pss_one (ps_ret (pe_clG cL hgd' hr (by decide) (pa_cons (pe_lst (pa_cons (pe_cl cR1 hr (by decide) (pa_cons (pv 0) (pa_cons (pv 1) (pa_cons (pv 2) pa_nil)))) (pa_cons (pe_cl cR1 hr (by decide) (pa_cons (pv 0) (pa_cons (pv 1) (pa_cons (pv 2) pa_nil)))) pa_nil))) (pa_cons (pe_lst (pa_cons (pv 8) (pa_cons (pv 8) pa_nil))) pa_nil)))))))))))))), ?_⟩
  have hz := (fits_size hf).1
  have hzp := (fits_size hfp).1
  have hsp := Wi.size_put hope p part
  have okf : (hope.put p part).Ok := Wi.Ok.put ok okp
  -- is_so
  refine s_set (K := K) (d := .bool (hope.even p)) (ed_call (ea_cons (ed_var rfl hv) (ea_cons (ed_var rfl hu) ea_nil)) rfl ⟨hope, x, p, hat, rfl, rfl⟩) fun b3 H1 s1 h3 => ?_
  -- constants
  refine s_set (K := K) (d := .list [(hope.worst p).dat, (hope.best p).dat]) (ed_if (c := hope.even p) (et_B (ed_var rfl h3)) (fun z => ?_) fun z => ?_) fun b4 H2 s2 h4 => ?_
  · have e : [(hope.worst p).dat, (hope.best p).dat] = [.tuple [.str "false"], .tuple [.str "true"]] := by
      unfold Wi.worst Wi.best
      rw [if_pos z, if_pos z]
      rfl
    rw [e]
    exact ed_lst (ea_cons (ed_tup (ea_cons ed_str ea_nil) (by show 1 ≤ 100000; decide)) (ea_cons (ed_tup (ea_cons ed_str ea_nil) (by show 1 ≤ 100000; decide)) ea_nil)) (by show 2 ≤ 100000; decide)
  · have e : [(hope.worst p).dat, (hope.best p).dat] = [.tuple [.str "true"], .tuple [.str "false"]] := by
      unfold Wi.worst Wi.best
      rw [if_neg (by rw [z]; decide), if_neg (by rw [z]; decide)]
      rfl
    rw [e]
    exact ed_lst (ea_cons (ed_tup (ea_cons ed_str ea_nil) (by show 1 ≤ 100000; decide)) (ea_cons (ed_tup (ea_cons ed_str ea_nil) (by show 1 ≤ 100000; decide)) ea_nil)) (by show 2 ≤ 100000; decide)
  have s02 := s1.trans s2
  -- here
  have e0 : ∀ {σ : L2.St} {H' : Hp}, Same H H' → σ[0]? = some (some v) → EvD K (tVar 0) σ H' hope.dat := fun s' h => ed_var h (Dp.same s' _ _ hv)
  have e1 : ∀ {σ : L2.St} {H' : Hp}, Same H H' → σ[1]? = some (some u) → EvD K (tVar 1) σ H' (pD p) := fun s' h => ed_var h (Dp.same s' _ _ hu)
  have e2 : ∀ {σ : L2.St} {H' : Hp}, Same H H' → σ[2]? = some (some t) → EvD K (tVar 2) σ H' part.dat := fun s' h => ed_var h (Dp.same s' _ _ ht)
  refine s_set (K := K) (d := x.dat) (ed_ixL (i := 0) (ds := (stD hope.pieces).filterMap (hereF p)) (EvL.toD ?_) ed_int (here_get hat)) fun b5 H3 s3 h5 => ?_
  · have ec : EvL K (tCall (spL K 1 (rPieces 60)) [] E0 (tCons (tVar 0) tNil)) [some v, some u, some t, some b3, some b4, none, none, none, none, none, none, none, none, none] H2 (stD hope.pieces) := el_call (ea_cons (e0 s02 rfl) ea_nil) rfl ⟨hope, ok, by omega, rfl, rfl⟩
    refine el_lc ec.toD (by rw [stD, List.length_map, Wi.pieces_len]; omega) fun d hd => ?_
    obtain ⟨z, hzm, rfl⟩ := List.mem_map.mp hd
    intro y H' s' hy
    obtain ⟨a, b, ha, hb, g⟩ := g_pair (i := 11) (j := 12) hy
    have hzs : z.2.size ≤ 64 := by
      have := (pieces_ok ok (by omega) z hzm).2
      omega
    refine ⟨_, PyData.eqv (pD z.1) (pD p), fun Q q => g _ Q q, wipe2 (by decide) (by simp [L2.start]) (by simp [L2.start]), et_test (ed_eqD (ed_var (at_i (by decide) (by simp [L2.start])) ha) (ed_var (d := pD p) (i := 1) (v := u) rfl (Dp.same (s02.trans s') _ _ hu)) (pD_shaped _) (pD_shaped _)), ?_⟩
    have eF : hereF p (prD z) = if PyData.eqv (pD z.1) (pD p) = true then some z.2.dat else none := rfl
    by_cases hq : PyData.eqv (pD z.1) (pD p) = true
    · rw [if_pos hq]
      exact ⟨z.2.dat, by rw [eF, if_pos hq], dat_tup _, ed_var (at_j (by simp [L2.start])) hb⟩
    · rw [if_neg hq, eF, if_neg hq]
  have s03 := s02.trans s3
  -- said
  refine s_set (K := K) (d := .list [atD hope p, evenD hope p, worstD hope p, hardD hope p, softD hope p]) ?_ fun b6 H4 s4 h6 => ?_
  · have ea : EvDA K (tCons (tVar 0) (tCons (tVar 1) tNil)) [some v, some u, some t, some b3, some b4, some b5, none, none, none, none, none, none, none, none] H3 [hope.dat, pD p] := ea_cons (e0 s03 rfl) (ea_cons (e1 s03 rfl) ea_nil)
    have ok1 : ∀ F : Wi → List Int → PyData, rAt F [hope.dat, pD p] (F hope p) := fun F => ⟨hope, x, p, ok, hf, hat, rfl, rfl⟩
    exact ed_lst (ea_cons (ed_call ea rfl (ok1 _)) (ea_cons (ed_call ea rfl (ok1 _)) (ea_cons (ed_call ea rfl (ok1 _)) (ea_cons (ed_call ea rfl (ok1 _)) (ea_cons (ed_call ea rfl (ok1 _)) ea_nil))))) (by show 5 ≤ 100000; decide)
  have s04 := s03.trans s4
  -- due
  have eAt : atD hope p = x.dat := by
    unfold atD
    rw [hat]
    rfl
  have plen := path_len hz hat
  refine s_set (K := K) (d := .list [atD hope p, evenD hope p, worstD hope p, hardD hope p, softD hope p]) ?_ fun b7 H5 s5 h7 => ?_
  · rw [eAt]
    have m3 : EvD K (tVar 3) [some v, some u, some t, some b3, some b4, some b5, some b6, none, none, none, none, none, none, none] H4 (evenD hope p) := ed_var rfl (Dp.same (s2.trans (s3.trans s4)) _ _ h3)
    have m4 : EvD K (tVar 4) [some v, some u, some t, some b3, some b4, some b5, some b6, none, none, none, none, none, none, none] H4 (.list [(hope.worst p).dat, (hope.best p).dat]) := ed_var rfl (Dp.same (s3.trans s4) _ _ h4)
    have m5 : EvD K (tVar 5) [some v, some u, some t, some b3, some b4, some b5, some b6, none, none, none, none, none, none, none] H4 x.dat := ed_var rfl (Dp.same s4 _ _ h5)
    have w0 := ed_ixL (i := 0) m4 (ed_int (K := K)) rfl
    have w1 := ed_ixL (i := 1) m4 (ed_int (K := K)) rfl
    exact ed_lst (ea_cons m5 (ea_cons m3 (ea_cons w0 (ea_cons (ed_call (R := rPut 12) (ea_cons (e0 s04 rfl) (ea_cons (e1 s04 rfl) (ea_cons w0 ea_nil))) rfl ⟨hope, x, _, p, plen, hat, rfl, rfl⟩)
      (ea_cons (ed_call (R := rPut 12) (ea_cons (e0 s04 rfl) (ea_cons (e1 s04 rfl) (ea_cons w1 ea_nil))) rfl ⟨hope, x, _, p, plen, hat, rfl, rfl⟩) ea_nil))))) (by show 5 ≤ 100000; decide)
  have s05 := s04.trans s5
  have okx := Wi.Ok.at ok hat
  have szx := Wi.size_at hat
  have hsw := Wi.size_put hope p (hope.worst p)
  have hsb := Wi.size_put hope p (hope.best p)
  rw [worst_size] at hsw
  rw [best_size] at hsb
  have nice5 : canShow (.list [atD hope p, evenD hope p, worstD hope p, hardD hope p, softD hope p]) := by
    rw [eAt]
    refine show_of (m := 13) (NiceAll.cons ((nice_dat x okx).mono (by omega) (show 12 * x.size ≤ 200 by omega)) (NiceAll.cons ((nice_bool _).mono (by decide) (Nat.le_refl _)) (NiceAll.cons ((nice_dat _ (worst_ok hope p)).mono (by rw [worst_size]; decide) (show _ ≤ 200 by rw [worst_size]; decide))
      (NiceAll.cons ((nice_dat _ (Wi.Ok.put ok (worst_ok hope p))).mono (by omega) (show 12 * _ ≤ 200 by omega)) (NiceAll.cons ((nice_dat _ (Wi.Ok.put ok (best_ok hope p))).mono (by omega) (show 12 * _ ≤ 200 by omega)) NiceAll.nil))))) (by decide) (by decide)
  refine s_pass (et_not (b := true) (et_B (ed_call (R := rLike) (ea_cons (ed_var rfl (Dp.same s5 _ _ h6)) (ea_cons (ed_var rfl h7) ea_nil)) rfl ⟨_, nice5, rfl, rfl⟩))) fun H6 s6 => ?_
  have s06 := s05.trans s6
  -- far
  refine s_set (K := K) (d := (hope.put p part).dat) (ed_call (R := rPut 12) (ea_cons (e0 s06 rfl) (ea_cons (e1 s06 rfl) (ea_cons (e2 s06 rfl) ea_nil))) rfl ⟨hope, x, part, p, plen, hat, rfl, rfl⟩) fun b8 H7 s7 h8 => ?_
  have s07 := s06.trans s7
  have dF := nice_dat _ okf
  -- words
  refine s_setL (K := K) (ds := ((hope.put p part).pieces.map fun x => x.2.word).map PyData.str) ?_ fun l9 xs9 H8 s8 nl9 hl9 hx9 => ?_
  · rw [← word_of]
    have ec : EvL K (tCall (spL K 1 (rPieces 60)) [] E0 (tCons (tVar 8) tNil)) [some v, some u, some t, some b3, some b4, some b5, some b6, some b7, some b8, none, none, none, none, none] H7 (stD (hope.put p part).pieces) := el_call (ea_cons (ed_var rfl h8) ea_nil) rfl ⟨_, okf, by omega, rfl, rfl⟩
    refine el_lc ec.toD (by rw [stD, List.length_map, Wi.pieces_len]; omega) fun d hd => ?_
    obtain ⟨z, hzm, rfl⟩ := List.mem_map.mp hd
    intro y H' s' hy
    obtain ⟨a, b, ha, hb, g⟩ := g_pair (i := 11) (j := 12) hy
    refine ⟨_, true, fun Q q => g _ Q q, wipe2 (by decide) (by simp [L2.start]) (by simp [L2.start]), et_yes, ?_⟩
    rw [if_pos rfl]
    refine ⟨.str z.2.word, ?_, rfl, ?_⟩
    · show wordF (.tuple [pD z.1, z.2.dat]) = _
      rw [Wi.dat_eq]
      rfl
    · exact ed_ixT (i := 0) (ds := z.2.items) (ed_dat (at_j (by simp [L2.start])) hb) ed_int rfl
  have s08 := s07.trans s8
  -- timed
  refine s_setL (K := K) (ds := (((hope.put p part).pieces.map fun x => x.2.word).filter timedB).map PyData.str) ?_ fun l10 xs10 H9 s9 nl10 hl10 hx10 => ?_
  · rw [← tim_of]
    refine el_lc (ed_var rfl (.lst (SqL.of hl9) hx9)) (by rw [List.length_map, List.length_map, Wi.pieces_len]; omega) fun d hd => ?_
    obtain ⟨cw, hcw, rfl⟩ := List.mem_map.mp hd
    intro y H' s' hy
    cases hy.strOf
    refine ⟨_, timedB cw, fun Q q => q, rfl, ?_, ?_⟩
    · refine et_test (K := K) ?_
      intro Hq sq Qq qq
      refine ⟨_, rfl, ?_⟩
      refine ⟨by show 4 ≤ sizeLine; decide, fun pp hpp => ⟨pp, timedW.map V.str, rfl, .inr (SqT.of upd_same), rfl, rfl, qq _ _ (same_new hpp _) (.bl _)⟩⟩
    · by_cases hq : timedB cw = true
      · rw [if_pos hq]
        exact ⟨.str cw, by show (if timedB cw = true then some (PyData.str cw) else none) = _; rw [if_pos hq], rfl, ed_var rfl (.str _)⟩
      · rw [if_neg hq]
        show (if timedB cw = true then some (PyData.str cw) else none) = none
        rw [if_neg hq]
  have s09 := s08.trans s9
  have q9 : EvD K (tVar 9) [some v, some u, some t, some b3, some b4, some b5, some b6, some b7, some b8, some (.ref l9), some (.ref l10), none, none, none] H9 (.list (((hope.put p part).pieces.map fun x => x.2.word).map PyData.str)) := ed_var rfl (.lst (SqL.of (s9 _ _ hl9)) (DpAll.same s9 _ _ hx9))
  have q10 : EvD K (tVar 10) [some v, some u, some t, some b3, some b4, some b5, some b6, some b7, some b8, some (.ref l9), some (.ref l10), none, none, none] H9 (.list ((((hope.put p part).pieces.map fun x => x.2.word).filter timedB).map PyData.str)) := ed_var rfl (.lst (SqL.of hl10) hx10)
  have n9 := ed_lenL q9
  have n10 := ed_lenL q10
  rw [List.length_map, List.length_map, Wi.pieces_len] at n9
  rw [List.length_map, tim_count okf] at n10
  refine s_if (et_or (et_test (ed_I0 (g := fun i j => .bl (decide (j < i))) n9 (ed_int (i := 12)) fun _ => .bl _)) fun _ => et_test (ed_I0 (g := fun i j => .bl (decide (j < i))) n10 (ed_int (i := 5)) fun _ => .bl _)) (fun z H10 s10 => ?_) fun z H10 s10 => ?_
  · -- too great a wish: the lambda's way
    have z2 : 12 < ((hope.put p part).size : Int) ∨ 5 < ((hope.put p part).tm : Int) := by simpa using z
    have hff : fits (hope.put p part) = false := by
      cases e : fits (hope.put p part) with
      | false => rfl
      | true =>
        have := fits_size e
        omega
    have s010 := s09.trans s10
    refine q_retV (q_op ?_)
    refine ⟨fun r hr => (hT r hr).ext s010, fun H11 eN T11 H12 s12 => ?_⟩
    have t12 : TStay K H H12 := (TStay.same s010).trans ((ExtN_ts eN).trans (TStay.same s12))
    have hv12 := Dp.ts t12 _ _ (dat_tup hope) hv
    have hu12 := Dp.ts t12 _ _ (pD_tup p) hu
    have ht12 := Dp.ts t12 _ _ (dat_tup part) ht
    refine ⟨_, rfl, _, rfl, _, rfl, [hope.dat, pD p, part.dat], rfl, .cons hv12 (.cons hu12 (.cons ht12 .nil)), ⟨hope, x, part, p, ok, hf, hat, okp, hfp, hff, rfl⟩, fun dd y H13 s13 nd13 hd13 hy13 => ?_⟩
    refine ⟨rfl, dd, y, pD [], rfl, hd13, hy13, fun vv H14 s14 hvv => ?_⟩
    refine ⟨by show 0 ≤ sizeLine; decide, fun p1 hp1 => ?_⟩
    have s15 := same_new hp1 (HO.tup [])
    refine ⟨by show 2 ≤ sizeLine; decide, fun p2 hp2 => ?_⟩
    have s16 := same_new hp2 (HO.tup [.str "wish", .ref p1])
    have d1 : Dp K (upd (upd H14 p1 (.tup [])) p2 (.tup [.str "wish", .ref p1])) vv (.tuple [.str "wish", pD []]) := Dp.same (s15.trans s16) _ _ hvv
    have d2 : Dp K (upd (upd H14 p1 (.tup [])) p2 (.tup [.str "wish", .ref p1])) (.ref p2) (.tuple [.str "wish", pD []]) :=
      .tup (SqT.of upd_same) (.cons (.str _) (.cons (Dp.same s16 _ _ (show Dp K _ (.ref p1) (pD []) from .tup (SqT.of upd_same) .nil)) .nil))
    refine ⟨_, _, d1, d2, wish_shaped, wish_shaped, ?_⟩
    rw [show PyData.eqv (.tuple [.str "wish", pD []]) (.tuple [.str "wish", pD []]) = true by decide +kernel]
    have sEnd := s12.trans (s13.trans (s14.trans (s15.trans s16)))
    exact q _ ((ExtN_same s010).trans (eN.trans (ExtN_same sEnd))) (T11.ext sEnd)
  · have z2 : ((hope.put p part).size : Int) ≤ 12 ∧ ((hope.put p part).tm : Int) ≤ 5 := by simpa using z
    have hff : fits (hope.put p part) = true := by
      unfold fits
      rw [Bool.and_eq_true, decide_eq_true_eq, decide_eq_true_eq]
      omega
    have s010 := s09.trans s10
    have nice2 : canShow (.list [(hope.put p part).dat, (hope.put p part).dat]) :=
      show_of (m := 13) (NiceAll.cons (dF.mono (by omega) (show 12 * _ ≤ 300 by omega)) (NiceAll.cons (dF.mono (by omega) (show 12 * _ ≤ 300 by omega)) NiceAll.nil)) (by decide) (by decide)
    have er : EvD K (tCall (spD K 3 rRepl) [] E0 (tCons (tVar 0) (tCons (tVar 1) (tCons (tVar 2) tNil)))) [some v, some u, some t, some b3, some b4, some b5, some b6, some b7, some b8, some (.ref l9), some (.ref l10), none, none, none] H10 (hope.put p part).dat :=
      ed_call (ea_cons (e0 s010 rfl) (ea_cons (e1 s010 rfl) (ea_cons (e2 s010 rfl) ea_nil))) rfl ⟨hope, x, part, p, ok, hf, hat, okp, hfp, hff, rfl, rfl⟩
    have e8 : EvD K (tVar 8) [some v, some u, some t, some b3, some b4, some b5, some b6, some b7, some b8, some (.ref l9), some (.ref l10), none, none, none] H10 (hope.put p part).dat := ed_var rfl (Dp.same (s8.trans (s9.trans s10)) _ _ h8)
    refine n_next (q_ret (K := K) (d := .bool true) (ed_call (R := rLike) (ea_cons (ed_lst (ea_cons er (ea_cons er ea_nil)) (by show 2 ≤ 100000; decide)) (ea_cons (ed_lst (ea_cons e8 (ea_cons e8 ea_nil)) (by show 2 ≤ 100000; decide)) ea_nil)) rfl ⟨_, nice2, rfl, rfl⟩) fun vv H11 s11 hvv => ?_)
    cases hvv.blOf
    have sEnd := s010.trans s11
    exact q _ (ExtN_same sEnd) (fun r hr => (hT r hr).ext sEnd)
end
end K3
set_option maxRecDepth 100000
set_option maxHeartbeats 4000000
/-! ## law -/
namespace K3
open PySem PySem.Spec PyProof.Rows L2
abbrev Nl : List Str := ["script", "m", "turn", "hope", "part", "kept_so", "some", "said", "ways", "timed", "far", "path", "own"]
theorem sc_law : FnScope Nl ["script"] (defScope s_law) := ⟨rfl, rfl, rfl, by decide +kernel, rfl, by decide +kernel, by decide +kernel⟩
section
variable {P : Program} {w : World} {K : PySem.W.Frag} {mg : Str → Option Value} {base : Heap} {H H1 H2 : Hp}
/-! ### the written wish -/
def W0 : Wi := .un "no" (.bi "and" (.un "no" (.mark 1)) (.un "ever" (.un "no" (.mark 1))))
theorem W0_ok : W0.Ok := by simp [W0, Wi.Ok, unW, biW]
theorem W0_fits : fits W0 = true := by decide +kernel
theorem W0_ways : waysD W0 = [pD [], pD [1], pD [1, 1], pD [1, 1, 1], pD [1, 2], pD [1, 2, 1], pD [1, 2, 1, 1]] := rfl
theorem W0_sh1 : SeqAt.shaped (.list ([.tuple (waysD W0), evenD W0 [1, 1], evenD W0 [1, 1, 1], evenD W0 [1, 2, 1, 1]] ++ [evenD W0 []])) = true := by decide +kernel
theorem W0_sh2 : SeqAt.shaped (.list [.tuple (waysD W0), .bool false, .bool true, .bool true, .bool true]) = true := by decide +kernel
theorem W0_eqv : (!PyData.eqv (.list ([.tuple (waysD W0), evenD W0 [1, 1], evenD W0 [1, 1, 1], evenD W0 [1, 2, 1, 1]] ++ [evenD W0 []])) (.list [.tuple (waysD W0), .bool false, .bool true, .bool true, .bool true])) = false := by decide +kernel
def farD : PyData := .tuple [.str "no", .tuple [.str "and", .tuple [.str "no", .tuple [.str "mark", .int 1]], .tuple [.str "true"]]]
theorem W0_hard : hardD W0 [1, 2] = farD := by
  have e : W0.worst [1, 2] = .nul "true" := by
    unfold Wi.worst
    rw [if_neg (by decide +kernel)]
  unfold hardD
  rw [e]
  rfl
theorem W0_sh3 : SeqAt.shaped (hardD W0 [1, 2]) = true := by rw [W0_hard]; decide +kernel
theorem W0_eq1 : PyData.eqv (hardD W0 [1, 2]) (hardD W0 [1, 2]) = true := by rw [W0_hard]; decide +kernel
theorem W0_hard0 : hardD W0 [] = .tuple [.str "false"] := by
  have e : W0.worst [] = .nul "false" := by
    unfold Wi.worst
    rw [if_pos (by decide +kernel)]
  unfold hardD
  rw [e]
  rfl
theorem W0_sh4 : SeqAt.shaped (hardD W0 []) = true := by rw [W0_hard0]; decide +kernel
theorem W0_eq2 : PyData.eqv (hardD W0 []) (.tuple [.str "false"]) = true := by rw [W0_hard0]; decide +kernel
theorem ed_nom {σ : L2.St} : EvD K (tTup (tCons (tC (.str "no")) (tCons (tTup (tCons (tC (.str "mark")) (tCons (tC (.int 1)) tNil))) tNil))) σ H (.tuple [.str "no", .tuple [.str "mark", .int 1]]) :=
  ed_tup (ea_cons ed_str (ea_cons (ed_tup (ea_cons ed_str (ea_cons ed_int ea_nil)) (by show 2 ≤ 100000; decide)) ea_nil)) (by show 2 ≤ 100000; decide)
theorem ed_W0 {σ : L2.St} : EvD K (tTup (tCons (tC (.str "no")) (tCons (tTup (tCons (tC (.str "and")) (tCons (tTup (tCons (tC (.str "no")) (tCons (tTup (tCons (tC (.str "mark")) (tCons (tC (.int 1)) tNil))) tNil)))
    (tCons (tTup (tCons (tC (.str "ever")) (tCons (tTup (tCons (tC (.str "no")) (tCons (tTup (tCons (tC (.str "mark")) (tCons (tC (.int 1)) tNil))) tNil))) tNil))) tNil)))) tNil))) σ H W0.dat :=
  ed_tup (ds := [.str "no", .tuple [.str "and", .tuple [.str "no", .tuple [.str "mark", .int 1]], .tuple [.str "ever", .tuple [.str "no", .tuple [.str "mark", .int 1]]]]]) (ea_cons ed_str (ea_cons (ed_tup (ea_cons ed_str (ea_cons ed_nom (ea_cons (ed_tup (ea_cons ed_str (ea_cons ed_nom ea_nil)) (by show 2 ≤ 100000; decide)) ea_nil))) (by show 3 ≤ 100000; decide)) ea_nil)) (by show 2 ≤ 100000; decide)
theorem ed_far {σ : L2.St} : EvD K (tTup (tCons (tC (.str "no")) (tCons (tTup (tCons (tC (.str "and")) (tCons (tTup (tCons (tC (.str "no")) (tCons (tTup (tCons (tC (.str "mark")) (tCons (tC (.int 1)) tNil))) tNil)))
    (tCons (tTup (tCons (tC (.str "true")) tNil)) tNil)))) tNil))) σ H farD :=
  ed_tup (ds := [.str "no", .tuple [.str "and", .tuple [.str "no", .tuple [.str "mark", .int 1]], .tuple [.str "true"]]]) (ea_cons ed_str (ea_cons (ed_tup (ea_cons ed_str (ea_cons ed_nom (ea_cons (ed_tup (ea_cons ed_str ea_nil) (by show 1 ≤ 100000; decide)) ea_nil))) (by show 3 ≤ 100000; decide)) ea_nil)) (by show 2 ≤ 100000; decide)
theorem Tabs_frx {Pt m g : Addr} {n : Nat} (t : LamX.Tabs (tabT Pt) H) (d : Dr H m g n) (f : FrX m g H H1) : LamX.Tabs (tabT Pt) H1 := fun p hp => by
  obtain ⟨c, ns, gs, h1, h2, h3, h4, h5, h6⟩ := d.ex
  obtain ⟨ps, a1, a2, a3⟩ := t p hp
  refine ⟨ps, f _ _ a1 (ne_of a1 h1 (by simp)) (ne_of a1 h4 (by simp)), a2, fun pos cv hcv => ?_⟩
  obtain ⟨c', e1, e2⟩ := a3 pos cv hcv
  exact ⟨c', e1, f _ _ e2 (ne_of e2 h1 fun z => by have z' : HO.ext _ = HO.dK _ := z; cases z') (ne_of e2 h4 fun z => by have z' : HO.ext _ = HO.lst _ := z; cases z')⟩
theorem Dr_ext {m g : Addr} {n : Nat} (d : Dr H m g n) (e : LamX.ExtN H H1) : Dr H1 m g n := by
  obtain ⟨c, ns, gs, h1, h2, h3, h4, h5, h6⟩ := d.ex
  exact ⟨c, ns, gs, e _ _ h1 (fun ps z => by cases z), e _ _ h2 (fun ps z => by cases z), h3, e _ _ h4 (fun ps z => by cases z), h5, h6⟩
section
variable {σ : L2.St} {ta te tl tt : TE} {c t u : TT} {D : Ends} {as us : L2.TS} {g : TG} {Q : VK} {QB : Bool → Hp → Prop} {taa : TA}
theorem s_asgV (h : te σ H fun x H1 => g x σ H1 fun σ2 H2 => us D σ2 H2) : tSeq (tAsg te g) us D σ H := h
theorem q_ifP (h : c σ H fun b H1 => if b = true then as D σ H1 else us D σ H1) : tIfS c as us D σ H := h
theorem q_orP (h : t σ H fun b H1 => if b = true then QB true H1 else u σ H1 QB) : tOr t u σ H QB := h
theorem q_testP (h : te σ H fun v H1 => ∃ b, v = .bl b ∧ QB b H1) : tTest te σ H QB := h
theorem s_par {i j : Nat} {d e : PyData} (h : EvDA K taa σ H [d, e]) (k : ∀ v w H2, Same H H2 → Dp K H2 v d → Dp K H2 w e → us D ((σ.set i (some v)).set j (some w)) H2) : tSeq (tPar i j taa) us D σ H :=
  h H (Same.refl _) _ fun vs H2 s2 hv => by
    obtain ⟨v, w, rfl, h1, h2⟩ := hv.two
    exact ⟨v, w, rfl, k v w H2 s2 h1 h2⟩
/-- a wish drawn, its size out of a list -/
theorem ev_hope2 {E E2 : XK} {N i : Nat} {m g : Addr} {ls : List Int} {timed : Int} {n : Nat} (hl : EvL K te σ H (ls.map PyData.int)) (hv : σ[i]? = some (some (.ref m))) (hL : EvD K tl σ H (.int (ls.length : Int))) (L0 : 0 < ls.length) (L1 : ls.length < 1000)
    (hT : ∀ H', EvD K tt σ H' (.int timed)) (lb : ∀ l ∈ ls, 1 ≤ l ∧ l ≤ N ∧ l ≤ 100) (t0 : 0 ≤ timed) (hn : (n : Int) < 2 ^ 40) (d : Dr H m g n)
    (k : ∀ (l : Int) (x : Wi) (v : V) (n' : Nat) (H' : Hp), l ∈ ls → x.Ok → (x.size : Int) ≤ l → (x.tm : Int) ≤ timed → FrX m g H H' → Dr H' m g n' → (n' : Int) ≤ n + 1 + 3 * l → Dp K H' v x.dat → Q v H') :
    tCall (spHope K N) [] E (tCons (tVar i) (tCons (tOp (rIxL K) te (tCall spDraw [] E2 (tCons (tVar i) (tCons tl tNil)))) (tCons tt tNil))) σ H Q :=
  ⟨_, hv, hl H (Same.refl _) _ fun p xs H1 s1 np hp hx => ev_draw hv (hL.mono s1) (by omega) (by omega) (by omega) (d.same s1) fun r H2 r0 r1 f d2 => by
    obtain ⟨n1, n2⟩ := d.ne np
    have hp2 := f _ _ hp n1 n2
    have hr : r.toNat < ls.length := by omega
    obtain ⟨l, hlr, hlm⟩ : ∃ l, ls[r.toNat]? = some l ∧ l ∈ ls := ⟨_, List.getElem?_eq_getElem hr, List.getElem_mem hr⟩
    have e1 : (ls.map PyData.int)[r.toNat]? = some (.int l) := by rw [List.getElem?_map, hlr]; rfl
    obtain ⟨y, hy1, hy2⟩ := hx.get e1
    cases hy2.intOf
    have e2 : r = ((r.toNat : Nat) : Int) := by omega
    obtain ⟨b1, b2, b3⟩ := lb l hlm
    refine ⟨p, xs, r, _, rfl, rfl, SqL.of hp2, by rw [e2]; exact atI_nat hy1, ?_⟩
    refine hT H2 H2 (Same.refl _) _ fun z H3 s3 hz => ?_
    cases hz.intOf
    exact ⟨m, g, l, timed, n + 1, rfl, b1, b2, t0, by omega, d2.same s3, fun x v n' H' ok hs ht f' d' hn' hv' => k l x v n' H' hlm ok hs ht ((FrX.of s1).trans (f.trans ((FrX.of s3).trans f'))) d' (by omega) hv'⟩⟩
/-- no path where _law_right says no -/
theorem rights_read {Pt : Addr} {hope part : Wi} {v3 v4 v8 : V} (h3 : σ[3]? = some (some v3)) (h4 : σ[4]? = some (some v4)) (h8 : σ[8]? = some (some v8)) (l11 : 11 < σ.length) (ok : hope.Ok) (hf : fits hope = true) (okp : part.Ok) (hfp : fits part = true)
    (d3 : Dp K H v3 hope.dat) (d4 : Dp K H v4 part.dat) (d8 : Dp K H v8 (.tuple (waysD hope))) (hT : LamX.Tabs (tabT Pt) H)
    (k : ∀ Dl H', LamX.ExtN H H' → LamX.Tabs (tabT Pt) H' → H' Dl = some (.lst []) → Q (.ref Dl) H') :
    tLc (iTup K (tVar 8)) (gName 11) (tNot (tB (tCall (spRight K Pt) [] E0 (tCons (tVar 3) (tCons (tVar 11) (tCons (tVar 4) tNil)))))) (tVar 11) [11] σ H Q := by
  obtain ⟨a8, xs, rfl, hs, hx⟩ := d8.tupOf
  refine ⟨_, h8, a8, rfl, ⟨xs, hs⟩, fun Dl hD => lc_tup (K := K) (a := a8) (xs := xs) (fun i H' => LamX.ExtN H H' ∧ LamX.Tabs (tabT Pt) H' ∧ H' Dl = some (.lst [])) ⟨ExtN_same (same_new hD _), fun r hr => (hT r hr).ext (same_new hD _), upd_same⟩ (fun i H' _ p => ExtN_ts p.1 _ _ hs) (fun i x H' hxi p => ?_) fun H' p => k Dl H' p.1 p.2.1 p.2.2⟩
  obtain ⟨pE, pT, pD'⟩ := p
  obtain ⟨d, hd1, hd2⟩ := hx.getV hxi
  obtain ⟨z, hz, rfl⟩ := List.mem_map.mp (List.mem_of_getElem? hd1)
  have ts := ExtN_ts (K := K) pE
  have hat := (Wi.mem_pieces hope z.1 z.2).mp hz
  have n3 : (((wipe σ [11]).set 11 (some x)) : L2.St)[3]? = some (some v3) := by
    simp only [wipe]
    rw [List.getElem?_set_ne (by decide), List.getElem?_set_ne (by decide)]
    exact h3
  have n4 : (((wipe σ [11]).set 11 (some x)) : L2.St)[4]? = some (some v4) := by
    simp only [wipe]
    rw [List.getElem?_set_ne (by decide), List.getElem?_set_ne (by decide)]
    exact h4
  have n11 : (((wipe σ [11]).set 11 (some x)) : L2.St)[11]? = some (some x) := List.getElem?_set_self (by simp [wipe, l11])
  refine ⟨by simp [wipe, List.set_set], _, n3, _, n11, _, n4, ?_⟩
  refine ⟨hope, z.2, part, z.1, ok, hf, hat, okp, hfp, .cons (Dp.ts ts _ _ (dat_tup hope) d3) (.cons (Dp.ts ts _ _ (pD_tup _) hd2) (.cons (Dp.ts ts _ _ (dat_tup part) d4) .nil)), pT, fun H2 e2 t2 => ?_⟩
  exact ⟨true, rfl, iteF ⟨pE.trans e2, t2, e2 _ _ pD' fun ps z => by cases z⟩⟩
end
def spLaw (K : PySem.W.Frag) (Pt : Addr) : Sp := fun vs H Q _ => ∃ (a : Addr) (zs : List Int), vs = [.ref a] ∧ SqL K H a (zs.map V.int) ∧ zs.length ≤ 64 ∧ LamX.Tabs (tabT Pt) H ∧ ∀ H', Q (.bl true) H'
theorem ok_law {C fI cc cda cW cG cM cP cR cN cA c Pt : Addr} (T : Tx K mg w) (B : BadTxt P K mg C fI cc cda) (TT : ToldTxt K mg C cW cG cM cP cR cN cA) (TB : LamX.TabB base mg c Pt)
    (hC : ∀ (f : Addr) (cdv oc dV kV doc pm ct : Value) (an od : Option Addr) (osl : Array (Option Value)), mg "_law_right" = some (.ref f) → K.lookup f = some ⟨oc, od, .func (PySem.W.fnOf "_law_right" "_law_right" (defArgs s_law_right) (defBody s_law_right) (defScope s_law_right) dV kV doc pm an cdv ct), osl⟩ → PySem.W.codeIn K cdv "_law_right" = true → cdv = .ref c)
    {f : Addr} {fd : FuncData} (DL : Dn K mg "law" s_law f fd) : FnG P w K mg base 63 f fd ["script"] (spLaw K Pt) := by
  have cB : Cl P w K mg base 2 "_law_begun" (spBegun K) := ok_law_begun T
  have cD : Cl P w K mg base 2 "_law_draw" spDraw := ok_law_draw T
  have cH : Cl P w K mg base 15 "_law_hope" (spHope K 12) := ok_law_hope T 12 (by decide)
  have cPc : Cl P w K mg base 61 "_law_pieces" (spL K 1 (rPieces 60)) := ok_law_pieces T 60 (Nat.le_refl _)
  have cPa : Cl P w K mg base 5 "paths" (spD K 1 rPaths) := ok_paths T
  have cTp : Cl P w K mg base 5 "timed_parts" (spD K 1 rTimedParts) := ok_timed_parts T
  have cTi : Cl P w K mg base 62 "_law_timed" (spL K 1 rTimed) := ok_law_timed T
  have cIs : Cl P w K mg base 6 "is_plain" (spD K 2 (rAt evenD)) := ok_is_plain T
  have cHa : Cl P w K mg base 15 "hardened" (spD K 2 (rAt hardD)) := ok_hardened T
  have cL : ClG P w K mg base 1 "_law_like" (spD K 2 rLike) := ok_law_like T
  have cR : ClG P w K mg base 62 "_law_right" (spRight K Pt) := ok_law_right T B TT TB hC
  refine fnG_of DL sc_law (fun vs H Q E h => by obtain ⟨a, zs, rfl, _⟩ := h; rfl) (fun cdv A outer s H vs Q E hgd hr h => ?_)
  obtain ⟨a, zs, rfl, ha, hzl, hT, q⟩ := h
  have nd := sc_law.nd
  have hu0 := hr.units
  have hun : (A.deeper (envOfC "law" (defScope s_law) s.heap.objs.size f cdv)).units + 100 < cLine := by
    have := hr.un
    omega
  have hgd' : (cxOf CX0 P w K mg base Nl "law" (defScope s_law) f cdv A outer s H E).nox.A.guards = some [] := hgd
  refine ⟨_, pss_cons (ps_set (i := 1) nd rfl (Or.inl rfl) (pe_cl cB hr (by decide) (pa_cons (pv 0) pa_nil)))
    (pss_cons (ps_for PassesOwn.never rfl (pi_range1 rfl T.b_range (pa_cons pe_int pa_nil)) (pg_name (i := 2) nd rfl (Or.inl rfl))
      (pss_cons (ps_asg (pe_tup (pa_cons (pe_cl cH hr (by decide) (pa_cons (pv 1) (pa_cons (pe_ix ix_list (pe_lst (pa_cons pe_int (pa_cons pe_int pa_nil))) (pe_cl cD hr (by decide) (pa_cons (pv 1) (pa_cons pe_int pa_nil))) (fun _ _ => rfl)) (pa_cons pe_int pa_nil))))
          (pa_cons (pe_cl cH hr (by decide) (pa_cons (pv 1) (pa_cons (pe_ix ix_list (pe_lst (pa_cons pe_int (pa_cons pe_int pa_nil))) (pe_cl cD hr (by decide) (pa_cons (pv 1) (pa_cons pe_int pa_nil))) (fun _ _ => rfl)) (pa_cons pe_int pa_nil)))) pa_nil)))
          (pg_tup rfl (pgs_cons (pg_name (i := 3) nd rfl (Or.inr rfl)) (pgs_cons (pg_name (i := 4) nd rfl (Or.inr rfl)) pgs_nil))))
      (pss_cons (ps_par rfl nd (i := 5) (j := 6) rfl rfl (by decide) rfl rfl (pa_cons (pe_callB (call_show hgd' hun) rfl T.b_repr (by decide +kernel) (pa_cons (pe_lst (pa_cons (pv 3) (pa_cons (pv 4) pa_nil))) pa_nil)) (pa_cons (pe_cl cPc hr (by decide) (pa_cons (pv 3) pa_nil)) pa_nil)) rfl)
      (pss_cons (ps_set (i := 7) nd rfl (Or.inl rfl) (pe_lst (pa_cons (pe_cl cPa hr (by decide) (pa_cons (pv 3) pa_nil)) (pa_cons (pe_cl cPa hr (by decide) (pa_cons (pv 3) pa_nil)) (pa_cons (pe_cl cTp hr (by decide) (pa_cons (pv 3) pa_nil)) (pa_cons (pe_cl cTp hr (by decide) (pa_cons (pv 3) pa_nil)) pa_nil))))))
      (pss_cons (ps_par rfl nd (i := 8) (j := 9) rfl rfl (by decide) rfl rfl (pa_cons (pe_callTy call_tuple_of rfl T.b_tuple (by decide +kernel) (pa_cons (pe_lc (own := [("path", 11), ("own", 12)]) (g := gTup K 2 (gCons (gName 11) (gCons (gName 12) gNil))) (tt := tYes) rfl nd (pi_list (pv 6))
            (blkOk_by (N := Nl) (sc := defScope s_law) (by decide +kernel)) (fun _ _ _ _ _ => pg_tup rfl (pgs_cons (pg_name (i := 11) nd rfl (Or.inl rfl)) (pgs_cons (pg_name (i := 12) nd rfl (Or.inl rfl)) pgs_nil))) (fun _ _ _ _ _ => pts_nil) (fun _ _ _ _ _ => pv 11)) pa_nil))
          (pa_cons (pe_callTy call_tuple_of rfl T.b_tuple (by decide +kernel) (pa_cons (pe_cl cTi hr (by decide) (pa_cons (pv 3) pa_nil)) pa_nil)) pa_nil)) rfl)
      (pss_cons (ps_if (pt_not (pt_val (pe_clG cL hgd' hr (by decide) (pa_cons (pv 7) (pa_cons (pe_lst (pa_cons (pv 8) (pa_cons (pv 8) (pa_cons (pv 9) (pa_cons (pv 9) pa_nil))))) pa_nil))))) (pss_one (ps_ret pe_bl)) pss_nil)
      (pss_one (ps_if (PW.pt (pw_or (pt_cmpR (op_neD hu0) (pe_lc (own := [("path", 11)]) (g := gName 11) (tt := tNot (tB (tCall (spRight K Pt) [] E0 (tCons (tVar 3) (tCons (tVar 11) (tCons (tVar 4) tNil)))))) rfl nd (pi_tup (pv 8))
            (blkOk_by (N := Nl) (sc := defScope s_law) (by decide +kernel)) (fun _ _ _ _ _ => pg_name (i := 11) nd rfl (Or.inl rfl))
            (fun _ _ _ _ _ => pts_one (pt_not (pt_val (pe_clG cR hgd (show Room 62 _ from hr) (Nat.le_refl _) (pa_cons (pv 3) (pa_cons (pv 11) (pa_cons (pv 4) pa_nil))))))) (fun _ _ _ _ _ => pv 11)) (pe_lst pa_nil) (nomark _))
          (pw_or1 (pt_cmpR op_ne (pe_callB (call_show hgd' hun) rfl T.b_repr (by decide +kernel) (pa_cons (pe_lst (pa_cons (pv 3) (pa_cons (pv 4) pa_nil))) pa_nil)) (pv 5) (nomark _))))) (pss_one (ps_ret pe_bl)) pss_nil))))))))
    (pss_cons (ps_set (i := 3) nd rfl (Or.inr rfl) (pe_tup (pa_cons pe_str (pa_cons (pe_tup (pa_cons pe_str (pa_cons (pe_tup (pa_cons pe_str (pa_cons (pe_tup (pa_cons pe_str (pa_cons pe_int pa_nil))) pa_nil)))
        (pa_cons (pe_tup (pa_cons pe_str (pa_cons (pe_tup (pa_cons pe_str (pa_cons (pe_tup (pa_cons pe_str (pa_cons pe_int pa_nil))) pa_nil))) pa_nil))) pa_nil)))) pa_nil))))
    (pss_cons (ps_set (i := 7) nd rfl (Or.inl rfl) (pe_lst (pa_cons (pe_cl cPa hr (by decide) (pa_cons (pv 3) pa_nil)) (pa_cons (pe_cl cIs hr (by decide) (pa_cons (pv 3) (pa_cons (pe_tup (pa_cons pe_int (pa_cons pe_int pa_nil))) pa_nil)))
        (pa_cons (pe_cl cIs hr (by decide) (pa_cons (pv 3) (pa_cons (pe_tup (pa_cons pe_int (pa_cons pe_int (pa_cons pe_int pa_nil)))) pa_nil))) (pa_cons (pe_cl cIs hr (by decide) (pa_cons (pv 3) (pa_cons (pe_tup (pa_cons pe_int (pa_cons pe_int (pa_cons pe_int (pa_cons pe_int pa_nil))))) pa_nil))) pa_nil))))))
    (pss_cons (ps_set (i := 8) nd rfl (Or.inl rfl) (pe_tup (pa_cons (pe_tup pa_nil) (pa_cons (pe_tup (pa_cons pe_int pa_nil)) (pa_cons (pe_tup (pa_cons pe_int (pa_cons pe_int pa_nil))) (pa_cons (pe_tup (pa_cons pe_int (pa_cons pe_int (pa_cons pe_int pa_nil))))
        (pa_cons (pe_tup (pa_cons pe_int (pa_cons pe_int pa_nil))) (pa_cons (pe_tup (pa_cons pe_int (pa_cons pe_int (pa_cons pe_int pa_nil)))) (pa_cons (pe_tup (pa_cons pe_int (pa_cons pe_int (pa_cons pe_int (pa_cons pe_int pa_nil))))) pa_nil)))))))))
    (pss_cons (ps_if (pt_cmpR (op_neD hu0) (pe_op op_cat (pv 7) (pe_lst (pa_cons (pe_cl cIs hr (by decide) (pa_cons (pv 3) (pa_cons (pe_tup pa_nil) pa_nil))) pa_nil))) (pe_lst (pa_cons (pv 8) (pa_cons pe_bl (pa_cons pe_bl (pa_cons pe_bl (pa_cons pe_bl pa_nil)))))) (nomark _)) (pss_one (ps_ret pe_bl)) pss_nil)
    (pss_cons (ps_set (i := 10) nd rfl (Or.inl rfl) (pe_tup (pa_cons pe_str (pa_cons (pe_tup (pa_cons pe_str (pa_cons (pe_tup (pa_cons pe_str (pa_cons (pe_tup (pa_cons pe_str (pa_cons pe_int pa_nil))) pa_nil))) (pa_cons (pe_tup (pa_cons pe_str pa_nil)) pa_nil)))) pa_nil))))
    (pss_one (ps_ret (pe_and (pe_cmpR (op_eqD hu0) (pe_cl cHa hr (by decide) (pa_cons (pv 3) (pa_cons (pe_tup (pa_cons pe_int (pa_cons pe_int pa_nil))) pa_nil))) (pv 10) (nomark _))
      (pe_one (pe_cmpR (op_eqD hu0) (pe_cl cHa hr (by decide) (pa_cons (pv 3) (pa_cons (pe_tup pa_nil) pa_nil))) (pe_tup (pa_cons pe_str pa_nil)) (nomark _)))))))))))), ?_⟩
  refine s_setV ⟨_, rfl, a, zs, rfl, ha, hzl, fun m g H1 s1 dr1 => ?_⟩
  have T1 : LamX.Tabs (tabT Pt) H1 := fun r hr => (hT r hr).ext s1
  refine ⟨_, rfl, by decide, by decide, for_range (lo := 0) (n := 7) (fun i σ' H' => ∃ n b2 b3 b4 b5 b6 b7 b8 b9 b10 b11 b12, σ' = [some (.ref a), some (.ref m), b2, b3, b4, b5, b6, b7, b8, b9, b10, b11, b12] ∧ Dr H' m g n ∧ n ≤ 200 * i ∧ LamX.Tabs (tabT Pt) H')
    ⟨0, none, none, none, none, none, none, none, none, none, none, none, rfl, dr1, Nat.le_refl _, T1⟩ ?_ ?_⟩
  · rintro i σ' H2 hi ⟨n, b2, b3, b4, b5, b6, b7, b8, b9, b10, b11, b12, rfl, dr2, hn, T2⟩
    have hnb : (n : Int) < 2 ^ 40 - 1000 := by omega
    refine s_asgV (q_tup2 ?_)
    refine ev_hope2 (ls := [12, 6]) (timed := 5) (n := n) (el_lst (ds := ([12, 6] : List Int).map PyData.int) (ea_cons ed_int (ea_cons ed_int ea_nil)) (by show 2 ≤ 100000; decide)) rfl (ed_int (i := 2)) (by decide) (by decide) (fun _ => ed_int) (by decide) (by decide) (by omega) dr2
      fun lf hope v3 n3 H3 hlf ok hsz htm f3 dr3 hn3 hv3 => ?_
    have hlf2 : lf ≤ 12 ∧ 0 ≤ lf := by
      simp only [List.mem_cons, List.not_mem_nil, or_false] at hlf
      omega
    refine ev_hope2 (ls := [2, 8]) (timed := 3) (n := n3) (el_lst (ds := ([2, 8] : List Int).map PyData.int) (ea_cons ed_int (ea_cons ed_int ea_nil)) (by show 2 ≤ 100000; decide)) rfl (ed_int (i := 2)) (by decide) (by decide) (fun _ => ed_int) (by decide) (by decide) (by omega) dr3
      fun lg part v4 n4 H4 hlg okp hszp htmp f4 dr4 hn4 hv4 => ?_
    have hlg2 : lg ≤ 8 ∧ 0 ≤ lg := by
      simp only [List.mem_cons, List.not_mem_nil, or_false] at hlg
      omega
    have hf : fits hope = true := by
      unfold fits
      rw [Bool.and_eq_true, decide_eq_true_eq, decide_eq_true_eq]
      omega
    have hfp : fits part = true := by
      unfold fits
      rw [Bool.and_eq_true, decide_eq_true_eq, decide_eq_true_eq]
      omega
    have hz := (fits_size hf).1
    have hzp := (fits_size hfp).1
    refine ⟨by show 2 ≤ sizeLine; decide, fun p hp => ?_⟩
    have s5 := same_new hp (HO.tup [v3, v4])
    have T4 : LamX.Tabs (tabT Pt) H4 := Tabs_frx (Tabs_frx T2 dr2 f3) dr3 f4
    have hv3' : Dp K (upd H4 p (.tup [v3, v4])) v3 hope.dat := Dp.same s5 _ _ (Dp.ts (FrX.tstay dr3 f4) _ _ (dat_tup hope) hv3)
    have hv4' : Dp K (upd H4 p (.tup [v3, v4])) v4 part.dat := Dp.same s5 _ _ hv4
    have T5 : LamX.Tabs (tabT Pt) (upd H4 p (.tup [v3, v4])) := fun r hr => (T4 r hr).ext s5
    have dr5 : Dr (upd H4 p (.tup [v3, v4])) m g n4 := dr4.same s5
    refine ⟨p, _, rfl, SqT.of upd_same, rfl, _, _, rfl, _, _, rfl, rfl, ?_⟩
    generalize upd H4 p (.tup [v3, v4]) = H5 at hv3' hv4' T5 dr5 ⊢
    have x3 : ∀ {σ : L2.St} {H' : Hp}, Same H5 H' → σ[3]? = some (some v3) → EvD K (tVar 3) σ H' hope.dat := fun s' h => ed_var h (Dp.same s' _ _ hv3')
    have x4 : ∀ {σ : L2.St} {H' : Hp}, Same H5 H' → σ[4]? = some (some v4) → EvD K (tVar 4) σ H' part.dat := fun s' h => ed_var h (Dp.same s' _ _ hv4')
    have niceK : canShow (.list [hope.dat, part.dat]) :=
      show_of (m := 13) (NiceAll.cons ((nice_dat _ ok).mono (by omega) (show 12 * _ ≤ 300 by omega)) (NiceAll.cons ((nice_dat _ okp).mono (by omega) (show 12 * _ ≤ 300 by omega)) NiceAll.nil)) (by decide) (by decide)
    -- kept_so, some
    refine s_par (K := K) (d := .str (PyData.shown (.list [hope.dat, part.dat]))) (e := .list (stD hope.pieces)) (ea_cons (ed_show (ed_lst (ea_cons (x3 (Same.refl _) rfl) (ea_cons (x4 (Same.refl _) rfl) ea_nil)) (by show 2 ≤ 100000; decide)) niceK)
      (ea_cons (EvL.toD (el_call (R := rPieces 60) (ea_cons (x3 (Same.refl _) rfl) ea_nil) rfl ⟨hope, ok, by omega, rfl, rfl⟩)) ea_nil)) fun w5 w6 H6 s6 d5 d6 => ?_
    -- said
    refine s_set (K := K) (d := .list [.tuple (waysD hope), .tuple (waysD hope), .tuple (timedD hope), .tuple (timedD hope)]) ?_ fun w7 H7 s7 d7 => ?_
    · have eh := ea_cons (K := K) (x3 (σ := [some (.ref a), some (.ref m), some (.int (0 + (i : Int))), some v3, some v4, some w5, some w6, b7, b8, b9, b10, b11, b12]) s6 rfl) ea_nil
      exact ed_lst (ea_cons (ed_call (R := rPaths) eh rfl ⟨hope, ok, hf, rfl, rfl⟩) (ea_cons (ed_call (R := rPaths) eh rfl ⟨hope, ok, hf, rfl, rfl⟩) (ea_cons (ed_call (R := rTimedParts) eh rfl ⟨hope, ok, hf, rfl, rfl⟩) (ea_cons (ed_call (R := rTimedParts) eh rfl ⟨hope, ok, hf, rfl, rfl⟩) ea_nil)))) (by show 4 ≤ 100000; decide)
    have s57 := s6.trans s7
    -- ways, timed
    refine s_par (K := K) (d := .tuple (waysD hope)) (e := .tuple (timedD hope)) (ea_cons (ed_tupOf (el_fst (l := hope.pieces) (ed_var rfl (Dp.same s7 _ _ d6)) (size60 (by omega)) (by decide) (by simp [L2.start]) (by simp [L2.start])))
      (ea_cons (ed_tupOf (el_call (R := rTimed) (ea_cons (x3 s57 rfl) ea_nil) rfl ⟨hope, ok, by omega, rfl, rfl⟩)) ea_nil)) fun w8 w9 H8 s8 d8 d9 => ?_
    have s58 := s57.trans s8
    have nw := nice_ways (w := hope) (by omega)
    have nt := nice_timed ok (show hope.size ≤ 60 by omega)
    have niceS : canShow (.list [.tuple (waysD hope), .tuple (waysD hope), .tuple (timedD hope), .tuple (timedD hope)]) :=
      show_of (m := 61) (NiceAll.cons (nw.mono (by decide) (Nat.le_refl _)) (NiceAll.cons (nw.mono (by decide) (Nat.le_refl _)) (NiceAll.cons nt (NiceAll.cons nt NiceAll.nil)))) (by decide) (by decide)
    have y8 : EvD K (tVar 8) [some (.ref a), some (.ref m), some (.int (0 + (i : Int))), some v3, some v4, some w5, some w6, some w7, some w8, some w9, b10, b11, b12] H8 (.tuple (waysD hope)) := ed_var rfl d8
    have y9 : EvD K (tVar 9) [some (.ref a), some (.ref m), some (.int (0 + (i : Int))), some v3, some v4, some w5, some w6, some w7, some w8, some w9, b10, b11, b12] H8 (.tuple (timedD hope)) := ed_var rfl d9
    refine s_pass (et_not (b := true) (et_B (ed_call (K := K) (R := rLike) (ea_cons (ed_var rfl (Dp.same s8 _ _ d7)) (ea_cons (ed_lst (ea_cons y8 (ea_cons y8 (ea_cons y9 (ea_cons y9 ea_nil)))) (by show 4 ≤ 100000; decide)) ea_nil)) rfl ⟨_, niceS, rfl, rfl⟩))) fun H9 s9 => ?_
    have s59 := s58.trans s9
    refine q_ifP (q_orP (q_testP (q_op (rights_read (hope := hope) (part := part) (v3 := v3) (v4 := v4) (v8 := w8) rfl rfl rfl (by simp) ok hf okp hfp (Dp.same s59 _ _ hv3') (Dp.same s59 _ _ hv4') (Dp.same s9 _ _ d8) (fun r hr => (T5 r hr).ext s59) fun Dl H10 e10 T10 hD10 => ?_))))
    refine ⟨by show 0 ≤ sizeLine; decide, fun pz hpz => ?_⟩
    have s11 := same_new hpz (HO.lst [])
    refine ⟨.list [], .list [], .lst (SqL.of (s11 _ _ hD10)) .nil, .lst (SqL.of upd_same) .nil, lnil_shaped, lnil_shaped, false, by rw [eqv_lnil]; rfl, iteF ?_⟩
    have e11 : LamX.ExtN H5 (upd H10 pz (.lst [])) := (ExtN_same s59).trans (e10.trans (ExtN_same s11))
    have T11 : LamX.Tabs (tabT Pt) (upd H10 pz (.lst [])) := fun r hr => (T10 r hr).ext s11
    generalize upd H10 pz (.lst []) = H11 at e11 T11 ⊢
    have z3 : EvD K (tVar 3) [some (.ref a), some (.ref m), some (.int (0 + (i : Int))), some v3, some v4, some w5, some w6, some w7, some w8, some w9, b10, b11, b12] H11 hope.dat := ed_var rfl (Dp.ts (ExtN_ts e11) _ _ (dat_tup hope) hv3')
    have z4 : EvD K (tVar 4) [some (.ref a), some (.ref m), some (.int (0 + (i : Int))), some v3, some v4, some w5, some w6, some w7, some w8, some w9, b10, b11, b12] H11 part.dat := ed_var rfl (Dp.ts (ExtN_ts e11) _ _ (dat_tup part) hv4')
    have z5 : EvD K (tVar 5) [some (.ref a), some (.ref m), some (.int (0 + (i : Int))), some v3, some v4, some w5, some w6, some w7, some w8, some w9, b10, b11, b12] H11 (.str (PyData.shown (.list [hope.dat, part.dat]))) := by
      cases d5.strOf
      exact ed_var rfl (.str _)
    have en := et_test (ed_neS (ed_show (ed_lst (ea_cons z3 (ea_cons z4 ea_nil)) (by show 2 ≤ 100000; decide)) niceK) z5)
    rw [decide_eq_true rfl] at en
    refine en H11 (Same.refl _) _ fun H12 s12 => iteF ?_
    have e12 := e11.trans (ExtN_same s12)
    exact ⟨n4, _, _, _, _, _, _, _, _, _, _, _, rfl, Dr_ext dr5 e12, by omega, fun r hr => (T11 r hr).ext s12⟩
  · rintro σ' H2 ⟨n, b2, b3, b4, b5, b6, b7, b8, b9, b10, b11, b12, rfl, dr2, hn, T2⟩
    show tSeq _ _ _ [some (.ref a), some (.ref m), b2, b3, b4, b5, b6, b7, b8, b9, b10, b11, b12] H2
    refine s_set (K := K) (d := W0.dat) ed_W0 fun w3 H3 s3 d3 => ?_
    have x3 : ∀ {σ : L2.St} {H' : Hp}, Same H3 H' → σ[3]? = some (some w3) → EvD K (tVar 3) σ H' W0.dat := fun s' h => ed_var h (Dp.same s' _ _ d3)
    have i1 : ∀ {σ : L2.St} {H' : Hp}, EvD K (tTup (tCons (tC (.int 1)) tNil)) σ H' (pD [1]) := ed_tup (ea_cons ed_int ea_nil) (by show 1 ≤ 100000; decide)
    have i11 : ∀ {σ : L2.St} {H' : Hp}, EvD K (tTup (tCons (tC (.int 1)) (tCons (tC (.int 1)) tNil))) σ H' (pD [1, 1]) := ed_tup (ea_cons ed_int (ea_cons ed_int ea_nil)) (by show 2 ≤ 100000; decide)
    have i111 : ∀ {σ : L2.St} {H' : Hp}, EvD K (tTup (tCons (tC (.int 1)) (tCons (tC (.int 1)) (tCons (tC (.int 1)) tNil)))) σ H' (pD [1, 1, 1]) := ed_tup (ea_cons ed_int (ea_cons ed_int (ea_cons ed_int ea_nil))) (by show 3 ≤ 100000; decide)
    have i12 : ∀ {σ : L2.St} {H' : Hp}, EvD K (tTup (tCons (tC (.int 1)) (tCons (tC (.int 2)) tNil))) σ H' (pD [1, 2]) := ed_tup (ea_cons ed_int (ea_cons ed_int ea_nil)) (by show 2 ≤ 100000; decide)
    have i121 : ∀ {σ : L2.St} {H' : Hp}, EvD K (tTup (tCons (tC (.int 1)) (tCons (tC (.int 2)) (tCons (tC (.int 1)) tNil)))) σ H' (pD [1, 2, 1]) := ed_tup (ea_cons ed_int (ea_cons ed_int (ea_cons ed_int ea_nil))) (by show 3 ≤ 100000; decide)
    have i1211 : ∀ {σ : L2.St} {H' : Hp}, EvD K (tTup (tCons (tC (.int 1)) (tCons (tC (.int 2)) (tCons (tC (.int 1)) (tCons (tC (.int 1)) tNil))))) σ H' (pD [1, 2, 1, 1]) := ed_tup (ea_cons ed_int (ea_cons ed_int (ea_cons ed_int (ea_cons ed_int ea_nil)))) (by show 4 ≤ 100000; decide)
    have i0 : ∀ {σ : L2.St} {H' : Hp}, EvD K (tTup tNil) σ H' (pD []) := ed_tup ea_nil (by show 0 ≤ 100000; decide)
    have at0 : ∀ (F : Wi → List Int → PyData) (p : List Int) (x : Wi), W0.at p = some x → rAt F [W0.dat, pD p] (F W0 p) := fun F p x h => ⟨W0, x, p, W0_ok, W0_fits, h, rfl, rfl⟩
    -- said
    refine s_setL (K := K) (ds := [.tuple (waysD W0), evenD W0 [1, 1], evenD W0 [1, 1, 1], evenD W0 [1, 2, 1, 1]]) ?_ fun l7 xs7 H4 s4 nl7 hl7 hx7 => ?_
    · exact el_lst (ea_cons (ed_call (R := rPaths) (ea_cons (x3 (Same.refl _) rfl) ea_nil) rfl ⟨W0, W0_ok, W0_fits, rfl, rfl⟩) (ea_cons (ed_call (ea_cons (x3 (Same.refl _) rfl) (ea_cons i11 ea_nil)) rfl (at0 evenD _ _ rfl))
        (ea_cons (ed_call (ea_cons (x3 (Same.refl _) rfl) (ea_cons i111 ea_nil)) rfl (at0 evenD _ _ rfl)) (ea_cons (ed_call (ea_cons (x3 (Same.refl _) rfl) (ea_cons i1211 ea_nil)) rfl (at0 evenD _ _ rfl)) ea_nil)))) (by show 4 ≤ 100000; decide)
    -- ways
    refine s_set (K := K) (d := .tuple (waysD W0)) ?_ fun w8 H5 s5 d8 => ?_
    · rw [W0_ways]
      exact ed_tup (ea_cons i0 (ea_cons i1 (ea_cons i11 (ea_cons i111 (ea_cons i12 (ea_cons i121 (ea_cons i1211 ea_nil))))))) (by show 7 ≤ 100000; decide)
    have s35 := s4.trans s5
    have ec : EvL K (tOp rCat (tVar 7) (tLst (tCons (tCall (spD K 2 (rAt evenD)) [] E0 (tCons (tVar 3) (tCons (tTup tNil) tNil))) tNil))) [some (.ref a), some (.ref m), b2, some w3, b4, b5, b6, some (.ref l7), some w8, b9, b10, b11, b12] H5
        ([.tuple (waysD W0), evenD W0 [1, 1], evenD W0 [1, 1, 1], evenD W0 [1, 2, 1, 1]] ++ [evenD W0 []]) :=
      el_catV rfl (s5 _ _ hl7) (DpAll.same s5 _ _ hx7) (el_lst (ea_cons (ed_call (ea_cons (x3 s35 rfl) (ea_cons i0 ea_nil)) rfl (at0 evenD _ _ rfl)) ea_nil) (by show 1 ≤ 100000; decide)) (by show 5 ≤ 100000; decide)
    have ed8 : EvD K (tVar 8) [some (.ref a), some (.ref m), b2, some w3, b4, b5, b6, some (.ref l7), some w8, b9, b10, b11, b12] H5 (.tuple (waysD W0)) := ed_var rfl d8
    have er := ed_lst (K := K) (ea_cons ed8 (ea_cons (ed_bl (b := false)) (ea_cons (ed_bl (b := true)) (ea_cons (ed_bl (b := true)) (ea_cons (ed_bl (b := true)) ea_nil))))) (by show 5 ≤ 100000; decide)
    have et := et_test (ed_neD ec.toD er W0_sh1 W0_sh2)
    rw [W0_eqv] at et
    refine s_pass et fun H6 s6 => ?_
    have s36 := s35.trans s6
    -- far
    refine s_set (K := K) (d := hardD W0 [1, 2]) (by rw [W0_hard]; exact ed_far) fun w10 H7 s7 d10 => ?_
    have s37 := s36.trans s7
    have e10 : EvD K (tVar 10) [some (.ref a), some (.ref m), b2, some w3, b4, b5, b6, some (.ref l7), some w8, b9, some w10, b11, b12] H7 (hardD W0 [1, 2]) := ed_var rfl d10
    have h1 := ed_eqD (ed_call (K := K) (E := E0) (ea_cons (x3 (σ := [some (.ref a), some (.ref m), b2, some w3, b4, b5, b6, some (.ref l7), some w8, b9, some w10, b11, b12]) s37 rfl) (ea_cons i12 ea_nil)) rfl (at0 hardD _ _ rfl)) e10 W0_sh3 W0_sh3
    have h2 := ed_eqD (ed_call (K := K) (E := E0) (ea_cons (x3 (σ := [some (.ref a), some (.ref m), b2, some w3, b4, b5, b6, some (.ref l7), some w8, b9, some w10, b11, b12]) s37 rfl) (ea_cons i0 ea_nil)) rfl (at0 hardD _ _ rfl)) (ed_tup (ea_cons (ed_str (x := "false")) ea_nil) (by show 1 ≤ 100000; decide)) W0_sh4 false_shaped
    rw [W0_eq1] at h1
    rw [W0_eq2] at h2
    refine q_ret (K := K) (d := .bool (true && true)) (ed_andV h1 fun _ => h2) fun vv H8 s8 h8 => ?_
    cases h8.blOf
    exact q H8
end
end K3
set_option maxRecDepth 100000
set_option maxHeartbeats 4000000
/-! ## the law's call from the outside, where no guard stands -/
namespace K3
open PySem PySem.Spec PyProof.Rows L2
/-- what is tracked at the law's entry: the code table, the script (if the written part does not hold it) -/
def entryH (K : PySem.W.Frag) (a Pt : Addr) (o : Obj) (xs : List V) : Hp := fun b => if b = Pt then some (.tbl #[]) else if b = a ∧ (K.lookup a).isNone = true then some (.frz o (.lst xs)) else none
theorem entry_cases {K : PySem.W.Frag} {a Pt b : Addr} {o : Obj} {xs : List V} {u : HO} (h : entryH K a Pt o xs b = some u) : (b = Pt ∧ u = .tbl #[]) ∨ (b = a ∧ K.lookup a = none ∧ u = .frz o (.lst xs)) := by
  unfold entryH at h
  by_cases q : b = Pt
  · rw [if_pos q] at h
    exact .inl ⟨q, (Option.some.inj h).symm⟩
  · rw [if_neg q] at h
    by_cases r : b = a ∧ (K.lookup a).isNone = true
    · rw [if_pos r] at h
      exact .inr ⟨r.1, by simpa using r.2, (Option.some.inj h).symm⟩
    · rw [if_neg r] at h
      cases h
theorem entry_none {K : PySem.W.Frag} {a Pt b : Addr} {o : Obj} {xs : List V} (h1 : b ≠ Pt) (h2 : b ≠ a) : entryH K a Pt o xs b = none := by
  unfold entryH
  rw [if_neg h1, if_neg fun r => h2 r.1]
theorem callerA_guards : callerA.guards = some [] := by rfl
theorem law_callG {P : Program} {w : World} {K : PySem.W.Frag} {mg mb : Str → Option Value} {k : Nat} {fa a c Pt : Addr} {fd : FuncData} {x : Str} {sp : Sp} {s1 : Shared} {vs : List Value} {ns : List Int}
    (KX : K.In s1.heap) (hns : s1.heap.Ns mainGlobals mg) (hb : s1.heap.Ns builtinsNs mb) (hbb : ∀ x : Str, x ≠ "__name__" → mb x = bootBuiltins x) (hlim : s1.heap.NoLimit) (hg : s1.gens = #[])
    (hT : s1.heap.get? Pt = some { cls := .none, data := .fields #[] }) (nT : K.lookup Pt = none) (C : PySem.W.CodeHd s1.heap c Pt)
    (hbm : ∃ (bm : Addr) (ob : Obj), mg "__builtins__" = some (.ref bm) ∧ bm ≠ builtinsNs ∧ s1.heap.get? bm = some ob ∧ ob.cls = .type "module" ∧ ob.dict = some builtinsNs ∧ ob.data = .plain)
    (ha : s1.heap.get? a = some { cls := .type "list", data := .seq vs.toArray }) (hi : IntsAre vs ns) (hl : ns.length ≤ sizeLine) (hr : Room k callerA)
    (F : ∀ base : Heap, K.In base → base.Ns mainGlobals mg → LamX.TabB base mg c Pt → FnG P w K mg base k fa fd [x] sp) (hbind : ∀ (s : Shared) (u : Value), BindsTo s fd ⟨[u], []⟩ [(x, u)])
    (hsp : ∀ H : Hp, H Pt = some (.tbl #[]) → SqL K H a (ns.map V.int) → sp [.ref a] H (fun v _ => v = .bl true) fun _ _ _ => False) :
    codeAny (model P w) callerA (.call (.ref fa) ⟨[.ref a], []⟩) (fun r s' => r = .ok (.ret (.bool true)) ∧ OldK s1.heap s'.heap ∧ s'.os = s1.os ∧ AllBare s'.gens) s1 := by
  have rv := vals_ints hi
  have lenV := hi.length
  -- what is neither a list's data nor an empty table is not tracked
  have out : ∀ {b : Addr} {o : Obj}, s1.heap.get? b = some o → (∀ us n, o.data ≠ .seq us n) → o.data ≠ .fields #[] → entryH K a Pt { cls := .type "list", data := .seq vs.toArray } (ns.map V.int) b = none := by
    intro b o e z1 z2
    refine entry_none (fun q => ?_) fun q => ?_
    · rw [q, hT] at e
      cases e
      exact z2 rfl
    · rw [q, ha] at e
      cases e
      exact z1 _ _ rfl
  have aPt : a ≠ Pt := by
    intro q
    rw [q, hT] at ha
    cases ha
  have hP : entryH K a Pt { cls := .type "list", data := .seq vs.toArray } (ns.map V.int) Pt = some (.tbl #[]) := if_pos rfl
  have cases_ := fun {b : Addr} {u : HO} (h : entryH K a Pt { cls := .type "list", data := .seq vs.toArray } (ns.map V.int) b = some u) => entry_cases h
  have hS : SqL K (entryH K a Pt { cls := .type "list", data := .seq vs.toArray } (ns.map V.int)) a (ns.map V.int) := by
    cases q : K.lookup a with
    | none =>
      refine .inl (.inr ⟨{ cls := .type "list", data := .seq vs.toArray }, ?_⟩)
      unfold entryH
      rw [if_neg aPt, if_pos ⟨rfl, by rw [q]; rfl⟩]
    | some o =>
      have e := KX a o q
      rw [ha] at e
      cases e
      exact .inr ⟨_, vs.toArray, _, q, rfl, rfl, rfl, by rw [List.size_toArray, lenV]; exact hl, by simpa using rv⟩
  have hok : HOk P w (entryH K a Pt { cls := .type "list", data := .seq vs.toArray } (ns.map V.int)) s1.heap := by
    intro b u h
    rcases cases_ h with ⟨rfl, rfl⟩ | ⟨rfl, _, rfl⟩
    · exact hT
    · exact ⟨ha, by rw [List.length_map]; exact hl, vs, _, rv, ha⟩
  generalize hH : entryH K a Pt { cls := .type "list", data := .seq vs.toArray } (ns.map V.int) = H at out hP cases_ hS hok
  have low : ∀ {b : Addr} {m : Str → Option Value}, s1.heap.Ns b m → (hidT s1.heap H).Ns b m := by
    rintro b m ⟨o, es, ep, e, d, r⟩
    exact ⟨o, es, ep, hidT_get e (out e (fun us n z => by rw [d] at z; cases z) fun z => by rw [d] at z; cases z), d, r⟩
  have KB : K.In (hidT s1.heap H) := by
    intro b o e
    refine hidT_get (KX b o e) ?_
    cases q : H b with
    | none => rfl
    | some u =>
      rcases cases_ q with ⟨rfl, _⟩ | ⟨rfl, z, _⟩
      · rw [nT] at e
        cases e
      · rw [z] at e
        cases e
  have MB : L2.Mod K mg (hidT s1.heap H) := ⟨KB, low hns, ⟨mb, low hb, hbb⟩, by obtain ⟨mc, z1, z2⟩ := hlim; exact ⟨mc, low z1, z2⟩⟩
  have TBB : LamX.TabB (hidT s1.heap H) mg c Pt := by
    refine ⟨?_, ?_, ?_⟩
    · obtain ⟨o, us, file, tf, flags, tg, inF, text, tt, e1, r1, r2, r3, rest⟩ := C
      refine ⟨o, us, file, tf, flags, tg, inF, text, tt, hidT_get e1 (out e1 (fun xs n z => ?_) fun z => ?_), r1, r2, r3, rest⟩
      · rw [r2] at z
        cases z
      · rw [r2] at z
        cases z
        simp at r3
    · obtain ⟨bm, ob, b1, b2, b3, b4, b5, b6⟩ := hbm
      refine ⟨bm, ob, b1, b2, fun q => ?_, fun q => ?_, hidT_get b3 (out b3 (fun xs n z => ?_) fun z => ?_), b4, b5, b6⟩
      · obtain ⟨o, es, ep, e, d, _⟩ := hns
        rw [q, e] at b3
        cases b3
        rw [d] at b6
        cases b6
      · rw [q, hT] at b3
        cases b3
        cases b6
      · rw [b6] at z
        cases z
      · rw [b6] at z
        cases z
    · intro z
      obtain ⟨o, es, ep, e, d, _⟩ := hns
      rw [z, hT] at e
      cases e
      cases d
  have E0' : Env0 P w K mg (hidT s1.heap H) callerA [] s1 H := ⟨rfl, MB, fun b o e => of_hidT e, Nat.le_of_eq (hidT_size _ _), trivial, fun b z => absurd (show b ∈ ([] : List Addr) from z) (by simp), hok, .of_eq hg⟩
  have run := (F _ KB (low hns) TBB).go callerA [] s1 H ⟨[.ref a], []⟩ [.ref a] [.ref a] _ _ callerA_guards hr E0' (hbind s1 (.ref a)) (.cons rfl .nil) (hsp H hP hS)
  refine codeAny_mono run ?_
  rintro (er | fl) s2 h
  · exact (show False from h).elim
  cases fl with
  | next => exact (show False from h).elim
  | brk => exact (show False from h).elim
  | cont => exact (show False from h).elim
  | ret u =>
    obtain ⟨v, H2, os, bare, un, hok2, ru, rfl⟩ := h
    obtain rfl : u = Value.bool true := ru
    have still : ∀ b o, b ≠ Pt → s1.heap.get? b = some o → s2.heap.get? b = some o := by
      intro b o nb e
      cases q : H b with
      | none => exact un.keep b o e q (fun z => absurd (show b ∈ ([] : List Addr) from z) (by simp)) (by simp)
      | some u =>
        rcases cases_ q with ⟨rfl, _⟩ | ⟨rfl, _, rfl⟩
        · exact absurd rfl nb
        · have z2 := un.frzs _ _ _ q
          obtain ⟨z3, _⟩ := hok2 _ _ z2
          rw [ha] at e
          cases e
          exact z3
    obtain ⟨more, zt⟩ := un.tbls Pt #[] hP
    have zt2 : s2.heap.get? Pt = some { cls := .none, data := .fields (#[] ++ more) } := hok2 Pt _ zt
    refine ⟨rfl, ⟨fun b o e => ?_, fun b o e => ?_⟩, os, bare⟩
    · by_cases nb : b = Pt
      · subst nb
        rw [hT] at e
        cases e
        exact .inr (.inl ⟨(C.tab hT).isCodeTable, rfl, #[], more, rfl, zt2⟩)
      · exact .inl (still b o nb e)
    · by_cases nb : b = Pt
      · subst nb
        exact ⟨_, zt2⟩
      · exact ⟨o, still b o nb e⟩
end K3
set_option maxRecDepth 100000
set_option maxHeartbeats 0
/-! ## the head: what is told of the written part, the run -/
namespace K3
open PySem PySem.Spec PyProof.Rows L2
def d_is_whole : He.DefD := ⟨("is_whole", none), "is_whole", "is_whole", defArgs s_is_whole, defBody s_is_whole, defScope s_is_whole, [], []⟩
def d_has_form : He.DefD := ⟨("has_form", none), "has_form", "has_form", defArgs s_has_form, defBody s_has_form, defScope s_has_form, [], []⟩
def d_inner_of : He.DefD := ⟨("inner_of", none), "inner_of", "inner_of", defArgs s_inner_of, defBody s_inner_of, defScope s_inner_of, [], []⟩
def d_wrong_in : He.DefD := ⟨("wrong_in", none), "wrong_in", "wrong_in", defArgs s_wrong_in, defBody s_wrong_in, defScope s_wrong_in, [], []⟩
def d_need_wish : He.DefD := ⟨("need_wish", none), "need_wish", "need_wish", defArgs s_need_wish, defBody s_need_wish, defScope s_need_wish, [], []⟩
def d_parts_of : He.DefD := ⟨("parts_of", none), "parts_of", "parts_of", defArgs s_parts_of, defBody s_parts_of, defScope s_parts_of, [], []⟩
def d_paths : He.DefD := ⟨("paths", none), "paths", "paths", defArgs s_paths, defBody s_paths, defScope s_paths, [], []⟩
def d_need_path : He.DefD := ⟨("need_path", none), "need_path", "need_path", defArgs s_need_path, defBody s_need_path, defScope s_need_path, [], []⟩
def d_part_in : He.DefD := ⟨("part_in", none), "part_in", "part_in", defArgs s_part_in, defBody s_part_in, defScope s_part_in, [], []⟩
def d_part_at : He.DefD := ⟨("part_at", none), "part_at", "part_at", defArgs s_part_at, defBody s_part_at, defScope s_part_at, [], []⟩
def d_put_in : He.DefD := ⟨("put_in", none), "put_in", "put_in", defArgs s_put_in, defBody s_put_in, defScope s_put_in, [], []⟩
def d_replaced : He.DefD := ⟨("replaced", none), "replaced", "replaced", defArgs s_replaced, defBody s_replaced, defScope s_replaced, [], []⟩
def d_is_plain_in : He.DefD := ⟨("is_plain_in", none), "is_plain_in", "is_plain_in", defArgs s_is_plain_in, defBody s_is_plain_in, defScope s_is_plain_in, [], []⟩
def d_is_plain : He.DefD := ⟨("is_plain", none), "is_plain", "is_plain", defArgs s_is_plain, defBody s_is_plain, defScope s_is_plain, [], []⟩
def d_worst_in : He.DefD := ⟨("worst_in", none), "worst_in", "worst_in", defArgs s_worst_in, defBody s_worst_in, defScope s_worst_in, [], []⟩
def d_worst : He.DefD := ⟨("worst", none), "worst", "worst", defArgs s_worst, defBody s_worst, defScope s_worst, [], []⟩
def d_hardened_of : He.DefD := ⟨("hardened_of", none), "hardened_of", "hardened_of", defArgs s_hardened_of, defBody s_hardened_of, defScope s_hardened_of, [], []⟩
def d_hardened : He.DefD := ⟨("hardened", none), "hardened", "hardened", defArgs s_hardened, defBody s_hardened, defScope s_hardened, [], []⟩
def d_timed_of : He.DefD := ⟨("timed_of", none), "timed_of", "timed_of", defArgs s_timed_of, defBody s_timed_of, defScope s_timed_of, [], []⟩
def d_timed_parts : He.DefD := ⟨("timed_parts", none), "timed_parts", "timed_parts", defArgs s_timed_parts, defBody s_timed_parts, defScope s_timed_parts, [], []⟩
def d_softened : He.DefD := ⟨("softened", none), "softened", "softened", defArgs s_softened, defBody s_softened, defScope s_softened, [], []⟩
def d_law_mixed : He.DefD := ⟨("_law_mixed", none), "_law_mixed", "_law_mixed", defArgs s_law_mixed, defBody s_law_mixed, defScope s_law_mixed, [], []⟩
def d_law_folded : He.DefD := ⟨("_law_folded", none), "_law_folded", "_law_folded", defArgs s_law_folded, defBody s_law_folded, defScope s_law_folded, [], []⟩
def d_law_draw : He.DefD := ⟨("_law_draw", none), "_law_draw", "_law_draw", defArgs s_law_draw, defBody s_law_draw, defScope s_law_draw, [], []⟩
def d_law_begun : He.DefD := ⟨("_law_begun", none), "_law_begun", "_law_begun", defArgs s_law_begun, defBody s_law_begun, defScope s_law_begun, [], []⟩
def d_law_like : He.DefD := ⟨("_law_like", none), "_law_like", "_law_like", defArgs s_law_like, defBody s_law_like, defScope s_law_like, [], []⟩
def d_law_hope : He.DefD := ⟨("_law_hope", none), "_law_hope", "_law_hope", defArgs s_law_hope, defBody s_law_hope, defScope s_law_hope, [], []⟩
def d_law_pieces : He.DefD := ⟨("_law_pieces", none), "_law_pieces", "_law_pieces", defArgs s_law_pieces, defBody s_law_pieces, defScope s_law_pieces, [], []⟩
def d_law_with : He.DefD := ⟨("_law_with", none), "_law_with", "_law_with", defArgs s_law_with, defBody s_law_with, defScope s_law_with, [], []⟩
def d_law_is_even : He.DefD := ⟨("_law_is_even", none), "_law_is_even", "_law_is_even", defArgs s_law_is_even, defBody s_law_is_even, defScope s_law_is_even, [], []⟩
def d_law_timed : He.DefD := ⟨("_law_timed", none), "_law_timed", "_law_timed", defArgs s_law_timed, defBody s_law_timed, defScope s_law_timed, [], []⟩
def d_law_told : He.DefD := ⟨("_law_told", none), "_law_told", "_law_told", defArgs s_law_told, defBody s_law_told, defScope s_law_told, [], []⟩
def d_law_right : He.DefD := ⟨("_law_right", none), "_law_right", "_law_right", defArgs s_law_right, defBody s_law_right, defScope s_law_right, [], []⟩
def d_law : He.DefD := ⟨("law", none), "law", "law", defArgs s_law, defBody s_law, defScope s_law, [], []⟩
def fnL : List He.DefD := [d_is_whole, d_has_form, d_inner_of, d_wrong_in, d_need_wish, d_parts_of, d_paths, d_need_path, d_part_in, d_part_at, d_put_in, d_replaced, d_is_plain_in, d_is_plain, d_worst_in, d_worst, d_hardened_of, d_hardened, d_timed_of, d_timed_parts, d_softened, d_law_mixed, d_law_folded, d_law_draw, d_law_begun, d_law_like, d_law_hope, d_law_pieces, d_law_with, d_law_is_even, d_law_timed, d_law_told, d_law_right, d_law]
def faL : List He.Fa := [.glo "is_whole", .glo "has_form", .glo "inner_of", .glo "wrong_in", .glo "need_wish", .glo "parts_of", .glo "paths", .glo "need_path", .glo "part_in", .glo "part_at", .glo "put_in", .glo "replaced", .glo "is_plain_in", .glo "is_plain", .glo "worst_in", .glo "worst", .glo "hardened_of", .glo "hardened", .glo "timed_of", .glo "timed_parts", .glo "softened", .glo "_law_mixed", .glo "_law_folded", .glo "_law_draw", .glo "_law_begun", .glo "_law_like", .glo "_law_hope", .glo "_law_pieces", .glo "_law_with", .glo "_law_is_even", .glo "_law_timed", .glo "_law_told", .glo "_law_right", .glo "law", .glo "WishError", .glo "BadMachine", .glo "BadWish", .glo "BadPath", .glo "BadRun", .glo "BadNumber", .glo "BadPaper", .glo "TooGreat", .str "TRUE" "true", .str "FALSE" "false", .str "MARK" "mark", .str "NO" "no", .str "AND" "and", .str "OR" "or", .str "NEXT" "next", .str "TILL" "till", .str "EVER" "ever", .str "ALWAYS" "always", .int "LAST_MARK" 3, .int "MOST_PARTS" 12, .int "MOST_TIMED" 5, .free "isinstance", .free "tuple", .free "str", .free "len", .free "int", .free "bool", .free "range", .free "all", .free "repr", .free "enumerate", .free "super", .glo "WIDE", .glo "TIMED"]
def tsL : List He.Tab := [(fun K => He.ga K "WIDE", ["true", "false", "mark", "no", "and", "or", "next", "till", "ever", "always"])]
def tfL : List He.Defn := [("_law_right", none)]
def names0 : List PySem.Str := [("WishError" : PySem.Str), ("BadMachine" : PySem.Str), ("BadWish" : PySem.Str), ("BadPath" : PySem.Str), ("BadRun" : PySem.Str), ("BadNumber" : PySem.Str), ("BadPaper" : PySem.Str), ("TooGreat" : PySem.Str), ("LAST_MARK" : PySem.Str), ("MOST_PARTS" : PySem.Str), ("MOST_TIMED" : PySem.Str), ("TRUE" : PySem.Str), ("FALSE" : PySem.Str), ("MARK" : PySem.Str)]
def names1 : List PySem.Str := [("NO" : PySem.Str), ("AND" : PySem.Str), ("OR" : PySem.Str), ("NEXT" : PySem.Str), ("TILL" : PySem.Str), ("EVER" : PySem.Str), ("ALWAYS" : PySem.Str), ("WIDE" : PySem.Str), ("TIMED" : PySem.Str), ("is_whole" : PySem.Str), ("has_form" : PySem.Str), ("inner_of" : PySem.Str), ("wrong_in" : PySem.Str), ("need_wish" : PySem.Str)]
def names2 : List PySem.Str := [("parts_of" : PySem.Str), ("paths" : PySem.Str), ("need_path" : PySem.Str), ("part_in" : PySem.Str), ("part_at" : PySem.Str), ("put_in" : PySem.Str), ("replaced" : PySem.Str), ("is_plain_in" : PySem.Str), ("is_plain" : PySem.Str), ("worst_in" : PySem.Str), ("worst" : PySem.Str), ("hardened_of" : PySem.Str), ("hardened" : PySem.Str), ("timed_of" : PySem.Str)]
def names3 : List PySem.Str := [("timed_parts" : PySem.Str), ("softened" : PySem.Str), ("_law_mixed" : PySem.Str), ("_law_folded" : PySem.Str), ("_law_draw" : PySem.Str), ("_law_begun" : PySem.Str), ("_law_like" : PySem.Str), ("_law_hope" : PySem.Str), ("_law_pieces" : PySem.Str), ("_law_with" : PySem.Str), ("_law_is_even" : PySem.Str), ("_law_timed" : PySem.Str), ("_law_told" : PySem.Str), ("_law_right" : PySem.Str)]
def namesL : List PySem.Str := names0 ++ names1 ++ names2 ++ names3
/-! ### the class BadWish -/
abbrev aC (K : PySem.W.Frag) : Addr := He.ga K "BadWish"
abbrev aI (K : PySem.W.Frag) : Addr := He.ma K (aC K) "__init__"
def ccOf (K : PySem.W.Frag) : Addr := match K.lookup (aI K) with
  | some ⟨_, _, .func fd, _⟩ => (match fd.closure with
    | [(_, c)] => c
    | _ => 0)
  | _ => 0
def cdOf (K : PySem.W.Frag) : Addr := match K.lookup (aI K) with
  | some ⟨_, _, .func fd, _⟩ => (match fd.code with
    | .ref c => c
    | _ => 0)
  | _ => 0
def clsB (K : PySem.W.Frag) (C : Addr) : Bool := match K.lookup C with
  | some ⟨.type "type", _, .cls cd, sl⟩ => (match cd.mro, sl.toList with
    | .ref C' :: bm, [_, _, _, _, some (.builtin n), _] => decide (C' = C) && decide (n = "ValueError.__new__") && !cd.hasDel && cd.hasDict && PySem.HandSPX.refsVE bm
    | _, _ => false)
  | _ => false
theorem clsB_ok {K : PySem.W.Frag} {C : Addr} (h : clsB K C = true) : ∃ nm q N bs bm sn sub ab col dd k0 k1 k2 k3 k5, K.lookup C = some (excClassObj nm q C N bs bm true sn sub ab col dd k0 k1 k2 k3 k5 "ValueError.__new__") ∧ PySem.HandSPX.refsVE bm = true := by
  unfold clsB at h
  split at h
  · rename_i dd cd sl lk
    split at h
    · rename_i C' bm k0 k1 k2 k3 n k5 e1 e2
      simp only [Bool.and_eq_true, decide_eq_true_eq, Bool.not_eq_true'] at h
      obtain ⟨⟨⟨⟨rfl, rfl⟩, hdel⟩, hdict⟩, hve⟩ := h
      obtain ⟨nm, bs, mro, ns, qn, hd, sn, sub, ab, col, del⟩ := cd
      dsimp only at e1 hdel hdict
      subst e1 hdel hdict
      obtain ⟨l⟩ := sl
      dsimp only at e2
      subst e2
      exact ⟨nm, qn, ns, bs, bm, sn, sub, ab, col, dd, k0, k1, k2, k3, k5, lk, hve⟩
    · cases h
  · cases h
def iniB2 (K : PySem.W.Frag) : Bool := match K.lookup (aI K) with
  | some ⟨_, _, .func fd, _⟩ => decide (fd.defaults = .none) && decide (fd.kwdefaults = .none) && decide (fd.code = .ref (cdOf K)) && decide (fd.closure = [(("__class__" : Str), ccOf K)]) && PySem.W.codeIn K (.ref (cdOf K)) "BadWish.__init__"
  | _ => false
abbrev IniV : Type := Option (Str × Str × Arguments × FuncBody × Scope × Addr × Addr)
def iniObs (K : PySem.W.Frag) : IniV := match K.lookup (aI K) with
  | some ⟨_, _, .func fd, _⟩ => some (fd.name, fd.qualname, fd.params, fd.body, fd.scope, fd.globals, fd.builtins)
  | _ => none
def iniVal : IniV := some ("__init__", "BadWish.__init__", defArgs s_BadWish_init, .stmts (defBody s_BadWish_init), defScope s_BadWish_init, mainGlobals, builtinsNs)
theorem ini_ok {K : PySem.W.Frag} (e : iniObs K = iniVal) (b : iniB2 K = true) : ∃ (oc : Value) (od : Option Addr) (doc pm : Value) (an : Option Addr) (ct : Value) (osl : Array (Option Value)), K.lookup (aI K) = some ⟨oc, od, .func (iniFn doc pm (.ref (cdOf K)) ct an (ccOf K)), osl⟩ ∧ PySem.W.codeIn K (.ref (cdOf K)) "BadWish.__init__" = true := by
  unfold iniObs at e
  unfold iniB2 at b
  split at b
  · rename_i oc od fd osl lk
    rw [lk] at e
    simp only [Bool.and_eq_true, decide_eq_true_eq] at b
    obtain ⟨⟨⟨⟨b1, b2⟩, b3⟩, b4⟩, b5⟩ := b
    obtain ⟨f1, f2, f3, f4, f5, f6, f7, f8, f9, f10, f11, f12, f13, f14, f15⟩ := fd
    dsimp only at b1 b2 b3 b4
    have e' := Option.some.inj e
    simp only [Prod.mk.injEq] at e'
    obtain ⟨rfl, rfl, rfl, rfl, rfl, rfl, rfl⟩ := e'
    subst b1 b2
    rw [b3, b4] at lk
    exact ⟨oc, od, f10, f11, f12, f14, osl, lk, b5⟩
  · cases b
def codB (K : PySem.W.Frag) (file : Str) : Bool := match K.lookup (cdOf K) with
  | some ⟨_, _, .fields vs, _⟩ => (match (vs[2]? : Option Value) with
    | some (Value.str f _) => file == f
    | _ => false)
  | _ => false
theorem codB_ok {K : PySem.W.Frag} {fl : Str} (h : codB K fl = true) : ∃ (oc : Value) (od : Option Addr) (vs : Array Value) (osl : Array (Option Value)) (f : Str) (tf : Tok), K.lookup (cdOf K) = some ⟨oc, od, .fields vs, osl⟩ ∧ vs[2]? = some (.str f tf) ∧ (fl == f) = true := by
  unfold codB at h
  split at h
  · rename_i oc od vs osl lk
    split at h
    · rename_i f tf e
      exact ⟨oc, od, vs, osl, f, tf, lk, e, h⟩
    · cases h
  · cases h
def celB (K : PySem.W.Frag) : Bool := match K.lookup (ccOf K) with
  | some ⟨_, _, .cell (some (.ref D)), _⟩ => decide (D = aC K)
  | _ => false
theorem celB_ok {K : PySem.W.Frag} (h : celB K = true) : ∃ (oc : Value) (od : Option Addr) (osl : Array (Option Value)), K.lookup (ccOf K) = some ⟨oc, od, .cell (some (.ref (aC K))), osl⟩ := by
  unfold celB at h
  split at h
  · rename_i oc od D osl lk
    have e := of_decide_eq_true h
    rw [e] at lk
    exact ⟨oc, od, osl, lk⟩
  · cases h
abbrev RR : PySem.W.OpenRow := PySem.W.OpenLaw.row PySem.Challenge.rw_idlewishes_k03_whole_wishes
def mainFile : Str := (RR.prog.main.file : Str)
def oB (a b : Option Bool) : Bool := decide (a = b)
def badL (K : PySem.W.Frag) : List Bool := [clsB K (aC K), He.eqO (PySem.W.findIn K (.ref (aC K)) "__setattr__") (some (some (.builtin "object.__setattr__"))), He.eqO (PySem.W.findIn K (.ref (aC K)) "__getattribute__") (some (some (.builtin "BaseException.__getattribute__"))),
  He.eqO (PySem.W.findIn K (.ref (aC K)) "__getattr__") (some none), He.eqO (PySem.W.findIn K (.ref (aC K)) "path") (some none), He.eqO (PySem.W.findIn K (.ref (aC K)) "__init__") (some (some (.ref (aI K)))),
  decide (PySem.W.typeIn K (.ref (aI K)) = some (.type "function")), PySem.W.keepIn K (.ref (aC K)), oB (PySem.W.subIn K (.ref (aC K)) (.type "BaseException")) (some true), decide (PySem.W.typeIn K (.ref (aC K)) = some (.type "type")),
  PySem.W.hasDictIn K (aC K), iniB2 K, codB K mainFile, celB K, He.eqO (PySem.W.ks_superIn K (aC K) (aC K) "__init__") (some (some (.builtin "ValueError.__init__"))), oB (PySem.W.subIn K (.ref (aC K)) (.type "ValueError")) (some true),
  oB (PySem.W.mroIn K (aC K) (.ref (aC K))) (some true), He.eqO (PySem.W.nsIn K cStatics "thirdparty.any") (some none),
  oB (PySem.W.exmAny K (.ref (aC K)) [.ref (He.ga K "WishError"), .ref (He.ga K "TooGreat")]) (some true), oB (PySem.W.kitOne K (.ref (aC K)) (.ref (He.ga K "TooGreat"))) (some false), oB (PySem.W.kitOne K (.ref (aC K)) (.ref (He.ga K "BadMachine"))) (some false),
  oB (PySem.W.kitOne K (.ref (aC K)) (.ref (aC K))) (some true), oB (PySem.W.kitOne K (.ref (aC K)) (.ref (He.ga K "BadPath"))) (some false), oB (PySem.W.kitOne K (.ref (aC K)) (.ref (He.ga K "BadRun"))) (some false),
  oB (PySem.W.kitOne K (.ref (aC K)) (.ref (He.ga K "BadNumber"))) (some false), oB (PySem.W.kitOne K (.ref (aC K)) (.ref (He.ga K "BadPaper"))) (some false),
  He.eqO (PySem.W.findIn K (.ref (aC K)) "__class__") (some (some (.builtin "object.__class__"))), He.eqO (PySem.W.specialIn K (.builtin "object.__class__") "__get__") (some (some (.builtin "getset_descriptor.__get__"))),
  oB (PySem.W.takesIn K (.builtin "object.__class__")) (some true), oB (PySem.W.mroIn K (aC K) (.type "object")) (some true), (PySem.W.clsIn K (aC K)).isSome]
def exB (K : PySem.W.Frag) : Bool := He.valsB K (He.ga K "WIDE") [("true", .int 1), ("false", .int 1), ("mark", .int 2), ("no", .int 2), ("and", .int 3), ("or", .int 3), ("next", .int 2), ("till", .int 3), ("ever", .int 2), ("always", .int 2)] &&
  (He.tupB K "TIMED" [.str "next", .str "till", .str "ever", .str "always"] && (badL K).all id)
/-! ### the hook -/
def frK (g : Addr → Option Obj) : PySem.W.Frag := He.frT g (cStatics :: He.asD g 7)
structure SaysK (w : World) (h : Heap) (K : PySem.W.Frag) : Prop where
  t : He.SaysT faL fnL tsL w K
  more : exB K = true
  hd : ∀ p ∈ tfL, PySem.W.codeHdIn K (He.cT K p).1 (He.cT K p).2 = true
  out : ∀ p ∈ tfL, K.lookup (He.cT K p).2 = none
  empty : ∀ p ∈ tfL, h.get? (He.cT K p).2 = some { cls := .none, data := .fields #[] }
  ini : iniObs K = iniVal
abbrev AlK : Type := He.AlT × Bool × IniV
def obsK (g : Addr → Option Obj) : AlK := (He.obsT faL fnL tsL (frK g), exB (frK g) && He.tabsB g tfL (frK g), iniObs (frK g))
def valK (w : World) : AlK := (He.valT fnL tsL w, true, iniVal)
theorem saysK_of {w : World} {h : Heap} (e : obsK h.get? = valK w) : SaysK w h (frK h.get?) := by
  have e1 : He.obsT faL fnL tsL (frK h.get?) = He.valT fnL tsL w := congrArg (fun z : AlK => z.1) e
  have e2 : (exB (frK h.get?) && He.tabsB h.get? tfL (frK h.get?)) = true := congrArg (fun z : AlK => z.2.1) e
  have e3 : iniObs (frK h.get?) = iniVal := congrArg (fun z : AlK => z.2.2) e
  obtain ⟨m1, m2⟩ := He.ba e2
  have each : ∀ p ∈ tfL, PySem.W.codeHdIn (frK h.get?) (He.cT (frK h.get?) p).1 (He.cT (frK h.get?) p).2 = true ∧ ∃ o, h.get? (He.cT (frK h.get?) p).2 = some o ∧ He.emptyTab o = true := by
    intro p hp
    obtain ⟨m3, m4⟩ := He.ba (List.all_eq_true.mp m2 p hp)
    refine ⟨m3, ?_⟩
    cases q : h.get? (He.cT (frK h.get?) p).2 with
    | none => rw [q] at m4; cases m4
    | some o => rw [q] at m4; exact ⟨o, rfl, m4⟩
  refine ⟨e1, m1, fun p hp => (each p hp).1, fun p hp => ?_, fun p hp => ?_, e3⟩
  · obtain ⟨_, o, q, z⟩ := each p hp
    exact He.frT_none q z
  · obtain ⟨_, o, q, z⟩ := each p hp
    rw [q, He.emptyTab_eq z]
def hkk : PySem.W.Hook where
  α := AlK
  obs := fun s => obsK s.heap.get?
  val := fun w => valK w
  says := fun w h => ∃ K : PySem.W.Frag, K.In h ∧ SaysK w h K
  of := fun _ _ e => ⟨_, He.frT_in, saysK_of e⟩
  keeps := fun _ _ _ ⟨K, hK, c⟩ k => ⟨K, PySem.W.Frag.In.keeps hK k, ⟨c.t, c.more, c.hd, c.out, fun p hp => k _ _ (c.empty p hp), c.ini⟩⟩
noncomputable def obb (s : PySem.W.SharedT) : AlK := obsK (HandSHeadRun.getT s)
theorem obb_eq (s : PySem.W.SharedT) : obb s = hkk.obs s.abs := by
  have e : HandSHeadRun.getT s = s.abs.heap.get? := funext (HandSHeadRun.getT_eq s)
  show obsK (HandSHeadRun.getT s) = obsK s.abs.heap.get?
  rw [e]
theorem run (w : World) : HandSHeadRun.RunEq RR (PySem.W.view RR.prog [61]) hkk obb 4000 namesL w := by
  refine PySem.W.byRow2 "special-get-raises" (P := fun w => HandSHeadRun.RunEq RR (PySem.W.view RR.prog [61]) hkk obb 4000 namesL w) (fun w => ?_) (fun w => ?_) w
  · intro os
    kernel_rfl
  · intro os
    kernel_rfl
end K3
set_option maxRecDepth 100000
set_option maxHeartbeats 0
/-! ## the facts by names, the end -/
namespace K3
open PySem PySem.Spec PyProof.Rows L2
theorem top_super : (RR.prog.main.scope.names.lookup ("super" : Str)).isSome = false := by decide +kernel
theorem badAt {K : PySem.W.Frag} (h : (badL K).all id = true) (i : Nat) {b : Bool} (e : (badL K)[i]? = some b := by rfl) : b = true := List.all_eq_true.mp h b (List.mem_of_getElem? e)
theorem oB_ok {a b : Option Bool} (h : oB a b = true) : a = b := of_decide_eq_true h
section
variable {P : Program} {w : World} {K : PySem.W.Frag} {h : Heap} {mg : Str → Option Value}
theorem dn_at (X : K.In h) (G : h.Ns mainGlobals mg) (c : SaysK w h K) {x : Str} {st : Stmt} (i j : Nat) (hd : fnL[i]? = some ⟨(x, none), x, x, defArgs st, defBody st, defScope st, [], []⟩ := by rfl) (hf : faL[j]? = some (.glo x) := by rfl) : ∃ f fd, Dn K mg x st f fd := by
  obtain ⟨fd, F⟩ := c.t.d.def_ i hd
  exact ⟨_, fd, F, He.glo_ok X G (c.t.d.fact j hf)⟩
theorem str_at (X : K.In h) (G : h.Ns mainGlobals mg) (c : SaysK w h K) {x z : Str} (j : Nat) (hf : faL[j]? = some (.str x z) := by rfl) : ∃ u, mg x = some u ∧ RelV (.str z) u := by
  obtain ⟨t, e⟩ := He.str_ok X G (c.t.d.fact j hf)
  exact ⟨_, e, t, rfl⟩
theorem int_at (X : K.In h) (G : h.Ns mainGlobals mg) (c : SaysK w h K) {x : Str} {z : Int} (j : Nat) (hf : faL[j]? = some (.int x z) := by rfl) : ∃ u, mg x = some u ∧ RelV (.int z) u := by
  obtain ⟨t, e⟩ := He.int_ok X G (c.t.d.fact j hf)
  exact ⟨_, e, t, rfl⟩
theorem tx_of (X : K.In h) (G : h.Ns mainGlobals mg) (c : SaysK w h K) : Tx K mg w := by
  obtain ⟨m1, m2⟩ := He.ba c.more
  obtain ⟨m2, m3⟩ := He.ba m2
  exact {
    f_is_whole := dn_at X G c 0 0
    f_has_form := dn_at X G c 1 1
    f_inner_of := dn_at X G c 2 2
    f_wrong_in := dn_at X G c 3 3
    f_need_wish := dn_at X G c 4 4
    f_parts_of := dn_at X G c 5 5
    f_paths := dn_at X G c 6 6
    f_need_path := dn_at X G c 7 7
    f_part_in := dn_at X G c 8 8
    f_part_at := dn_at X G c 9 9
    f_put_in := dn_at X G c 10 10
    f_replaced := dn_at X G c 11 11
    f_is_plain_in := dn_at X G c 12 12
    f_is_plain := dn_at X G c 13 13
    f_worst_in := dn_at X G c 14 14
    f_worst := dn_at X G c 15 15
    f_hardened_of := dn_at X G c 16 16
    f_hardened := dn_at X G c 17 17
    f_timed_of := dn_at X G c 18 18
    f_timed_parts := dn_at X G c 19 19
    f_softened := dn_at X G c 20 20
    f_law_mixed := dn_at X G c 21 21
    f_law_folded := dn_at X G c 22 22
    f_law_draw := dn_at X G c 23 23
    f_law_begun := dn_at X G c 24 24
    f_law_like := dn_at X G c 25 25
    f_law_hope := dn_at X G c 26 26
    f_law_pieces := dn_at X G c 27 27
    f_law_with := dn_at X G c 28 28
    f_law_is_even := dn_at X G c 29 29
    f_law_timed := dn_at X G c 30 30
    f_law_told := dn_at X G c 31 31
    f_law_right := dn_at X G c 32 32
    f_law := dn_at X G c 33 33
    b_isinstance := He.free_ok X G (c.t.d.fact 55 rfl)
    b_tuple := He.free_ok X G (c.t.d.fact 56 rfl)
    b_str := He.free_ok X G (c.t.d.fact 57 rfl)
    b_len := He.free_ok X G (c.t.d.fact 58 rfl)
    b_int := He.free_ok X G (c.t.d.fact 59 rfl)
    b_bool := He.free_ok X G (c.t.d.fact 60 rfl)
    b_range := He.free_ok X G (c.t.d.fact 61 rfl)
    b_all := He.free_ok X G (c.t.d.fact 62 rfl)
    b_repr := He.free_ok X G (c.t.d.fact 63 rfl)
    b_enumerate := He.free_ok X G (c.t.d.fact 64 rfl)
    b_super := He.free_ok X G (c.t.d.fact 65 rfl)
    c_TRUE := str_at X G c 42
    c_FALSE := str_at X G c 43
    c_MARK := str_at X G c 44
    c_NO := str_at X G c 45
    c_AND := str_at X G c 46
    c_OR := str_at X G c 47
    c_NEXT := str_at X G c 48
    c_TILL := str_at X G c 49
    c_EVER := str_at X G c 50
    c_ALWAYS := str_at X G c 51
    c_LAST_MARK := int_at X G c 52
    c_MOST_PARTS := int_at X G c 53
    c_MOST_TIMED := int_at X G c 54
    wide := by
      obtain ⟨es, n, D⟩ := c.t.tab 0 rfl
      refine ⟨_, es, n, He.glo_ok X G (c.t.d.fact 66 rfl), D, fun q hq => ?_⟩
      have hq2 : (q.1, He.Dv.int q.2) ∈ wideL.map fun q : Str × Int => (q.1, He.Dv.int q.2) := List.mem_map.mpr ⟨q, hq, rfl⟩
      exact He.valsB_ok m1 hq2
    timed := ⟨_, He.glo_ok X G (c.t.d.fact 67 rfl), fun H => He.tupB_ok m2 H⟩ }
theorem bad_of (X : K.In h) (G : h.Ns mainGlobals mg) (c : SaysK w h K) : BadTxt RR.prog K mg (aC K) (aI K) (ccOf K) (cdOf K) := by
  obtain ⟨m1, m2⟩ := He.ba c.more
  obtain ⟨m2, m3⟩ := He.ba m2
  exact {
    gC := He.glo_ok X G (c.t.d.fact 36 rfl)
    cls := clsB_ok (badAt m3 0)
    sa := He.eqO_ok (badAt m3 1)
    ga := He.eqO_ok (badAt m3 2)
    gg := He.eqO_ok (badAt m3 3)
    noN := He.eqO_ok (badAt m3 4)
    iC := He.eqO_ok (badAt m3 5)
    tC := of_decide_eq_true (badAt m3 6)
    kC := badAt m3 7
    exC := oB_ok (badAt m3 8)
    tyC := of_decide_eq_true (badAt m3 9)
    hdC := badAt m3 10
    fn := ini_ok c.ini (badAt m3 11)
    code := codB_ok (fl := mainFile) (badAt m3 12)
    cell := celB_ok (badAt m3 13)
    sup := He.eqO_ok (badAt m3 14)
    sVE := oB_ok (badAt m3 15)
    sCC := oB_ok (badAt m3 16)
    opq := He.eqO_ok (badAt m3 17)
    msup := He.free_ok X G (c.t.d.fact 65 rfl)
    top := top_super }
theorem told_of (X : K.In h) (G : h.Ns mainGlobals mg) (c : SaysK w h K) : ToldTxt K mg (aC K) (He.ga K "WishError") (He.ga K "TooGreat") (He.ga K "BadMachine") (He.ga K "BadPath") (He.ga K "BadRun") (He.ga K "BadNumber") (He.ga K "BadPaper") := by
  obtain ⟨m1, m2⟩ := He.ba c.more
  obtain ⟨m2, m3⟩ := He.ba m2
  exact {
    gW := He.glo_ok X G (c.t.d.fact 34 rfl)
    gG := He.glo_ok X G (c.t.d.fact 41 rfl)
    gM := He.glo_ok X G (c.t.d.fact 35 rfl)
    gP := He.glo_ok X G (c.t.d.fact 37 rfl)
    gR := He.glo_ok X G (c.t.d.fact 38 rfl)
    gN := He.glo_ok X G (c.t.d.fact 39 rfl)
    gA := He.glo_ok X G (c.t.d.fact 40 rfl)
    exm := oB_ok (badAt m3 18)
    kG := oB_ok (badAt m3 19)
    kM := oB_ok (badAt m3 20)
    kC := oB_ok (badAt m3 21)
    kP := oB_ok (badAt m3 22)
    kR := oB_ok (badAt m3 23)
    kN := oB_ok (badAt m3 24)
    kA := oB_ok (badAt m3 25)
    ec := ⟨He.eqO_ok (badAt m3 2), He.eqO_ok (badAt m3 3), oB_ok (badAt m3 8), badAt m3 10, He.eqO_ok (badAt m3 26), He.eqO_ok (badAt m3 27), oB_ok (badAt m3 28), oB_ok (badAt m3 29)⟩
    cl := badAt m3 30 }
theorem code_of (X : K.In h) (G : h.Ns mainGlobals mg) (c : SaysK w h K) (f : Addr) (cdv oc dV kV doc pm ct : Value) (an od : Option Addr) (osl : Array (Option Value)) (e : mg "_law_right" = some (.ref f))
    (lk : K.lookup f = some ⟨oc, od, .func (PySem.W.fnOf "_law_right" "_law_right" (defArgs s_law_right) (defBody s_law_right) (defScope s_law_right) dV kV doc pm an cdv ct), osl⟩) (hc : PySem.W.codeIn K cdv "_law_right" = true) : cdv = .ref (He.cT K ("_law_right", none)).1 := by
  have e2 := e.symm.trans (He.glo_ok X G (c.t.d.fact 32 rfl))
  cases e2
  obtain ⟨c', rfl⟩ := He.codeIn_ref hc
  have z := He.codeOf_eq (p := ("_law_right", none)) lk rfl
  exact congrArg Value.ref z.symm
end
/-- what is known of the law's promise at the head's heap -/
theorem walkG {l : PySem.W.OpenLaw} {n k : Nat} {q : Program} {loose : List Str} {XP : (Str → Option Value) → Heap → Prop} {YP : World → Heap → Prop} {d : DefRec} {x : Str}
    (hn : l.most = some n) (hn2 : n ≤ sizeLine) (hdf : d.params.defaults = []) (hr : Room k callerA)
    (F : ∀ (w : World) (mg : Str → Option Value) (fa : Addr) (h : Heap), YP w h → h.Ns mainGlobals mg → mg d.name = some (.ref fa) → ∃ (K : PySem.W.Frag) (fd : FuncData) (c Pt : Addr) (sp : Sp), K.In h ∧ h.get? Pt = some { cls := .none, data := .fields #[] } ∧ K.lookup Pt = none ∧ PySem.W.CodeHd h c Pt ∧
      (∀ (s : Shared) (u : Value), BindsTo s fd ⟨[u], []⟩ [(x, u)]) ∧ (∀ (H : Hp) (a : Addr) (ns : List Int), ns.length ≤ n → H Pt = some (.tbl #[]) → SqL K H a (ns.map V.int) → sp [.ref a] H (fun v _ => v = .bl true) fun _ _ _ => False) ∧
      ∀ base : Heap, K.In base → base.Ns mainGlobals mg → LamX.TabB base mg c Pt → FnG l.prog w K mg base k fa fd [x] sp) :
    PySem.W.WalkO q loose XP YP l.row.toRowW d [] (fun f vs => PySem.call f vs) := by
  refine Att.attach_callB hn hdf ?_
  intro w s0 s1 mg mb fa o pm cd doc a vs ns G Y ho hd hcd hmg hobj hints hlen hbits hg
  obtain ⟨K, fd, c, Pt, sp, KX, hT, nT, C, hb, hsp, hF⟩ := F w mg fa _ Y G.T.g hmg
  exact law_callG KX G.T.g G.T.b G.T.builtins G.T.nolimit hg hT nT C G.T.bmain hobj hints (Nat.le_trans hlen hn2) hr hF hb fun H hH hS => hsp H a ns hlen hH hS
end K3
open PySem PySem.W PySem.Calls PyProof.Rows
theorem PySem.Challenge.cw_idlewishes_k03_whole_wishes_holds : PySem.Challenge.rw_idlewishes_k03_whole_wishes.Holds := by
  w_on; o_law
  refine HandSHeadRun.head_any (r := OpenLaw.row PySem.Challenge.rw_idlewishes_k03_whole_wishes) (q := view (OpenLaw.row PySem.Challenge.rw_idlewishes_k03_whole_wishes).prog [61]) (H := K3.hkk) (ob := K3.obb) (M := 4000) (loose := K3.namesL) (d := HandSHeadRun.topDef (OpenLaw.row PySem.Challenge.rw_idlewishes_k03_whole_wishes).prog 61) (kwd := []) K3.obb_eq
    (by kernel_rfl) (fun s => by kernel_rfl) K3.run (by kernel_rfl) (by kernel_rfl) (by kernel_rfl) (by rfl) (by first | assumption | decide +kernel) (by decide +kernel) ⟨rfl, rfl, rfl, rfl, rfl, by decide +kernel⟩ ?hw ?hc
  case hw => w_witness2
  case hc =>
    refine K3.walkG (l := PySem.Challenge.rw_idlewishes_k03_whole_wishes) (n := 63) (k := 63) (x := "script") rfl (by decide) (by kernel_rfl) ⟨rfl, by decide, by decide⟩ ?_
    intro w mg fa h Y G hmg0
    obtain ⟨K, KX, c⟩ := Y
    have hmg : mg ("law" : PySem.Str) = some (.ref fa) := by
      have e : (HandSHeadRun.topDef (OpenLaw.row PySem.Challenge.rw_idlewishes_k03_whole_wishes).prog 61).name = ("law" : PySem.Str) := by kernel_rfl
      rw [← e]
      exact hmg0
    obtain ⟨fd, FL⟩ := c.t.d.def_ 33 (d := K3.d_law) rfl
    have gl := He.glo_ok KX G (c.t.d.fact 33 (f := .glo "law") rfl)
    have el := hmg.symm.trans gl
    cases el
    have DL : K3.Dn K mg "law" K3.s_law (He.ga K "law") fd := ⟨FL, gl⟩
    have b := L2.FunD.bindsA (ps := ["script"]) FL fun _ _ _ _ _ _ us hl => match us, hl with | [_], _ => rfl
    have hp : (("_law_right", none) : He.Defn) ∈ K3.tfL := List.mem_cons_self
    refine ⟨K, fd, (He.cT K ("_law_right", none)).1, (He.cT K ("_law_right", none)).2, K3.spLaw K (He.cT K ("_law_right", none)).2, KX, c.empty _ hp, c.out _ hp, codeHd_of_K KX (c.hd _ hp), fun s u => b s [u] rfl, fun H a ns hl hH hS => ⟨a, ns, rfl, hS, by omega, fun p hp => ?_, fun _ => rfl⟩, fun base _ _ TB => ?_⟩
    · obtain rfl := List.mem_singleton.mp hp
      exact LamX.TabS.nil hH
    · exact K3.ok_law (K3.tx_of KX G c) (K3.bad_of KX G c) (K3.told_of KX G c) TB (K3.code_of KX G c) DL
