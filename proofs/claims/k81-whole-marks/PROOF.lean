import PyProof.Rows.All
import Wide.All
import OpenK.AllK
import Wide.FinOn
import HandS.ForMost
import HandS.Codes
import HandS.Deep
import HandS.TupSets
import HandS.DictTup
import HandS.DictComp
import HandS.IsInst
import HandS.Flow
import HandS.Style
import HandS.Conv
import HandS.More
import PySem.Challenge.RW_markgaps_k81_whole_marks_as_nested_pairs
import HandS.Strs
import KE.KDictPairs
set_option linter.all false
namespace Mk
/-- a NODE: its start and its end -/
abbrev Nd := Int × Int
/-- the least power of two that is not less, up to 32 -/
def pw (n : Int) : Int := if n ≤ 1 then 1 else if n ≤ 2 then 2 else if n ≤ 4 then 4 else if n ≤ 8 then 8 else if n ≤ 16 then 16 else 32
/-- the greatest power of two that is less -/
def hf (n : Int) : Int := if n ≤ 2 then 1 else if n ≤ 4 then 2 else if n ≤ 8 then 4 else if n ≤ 16 then 8 else 16
theorem hf_pw {n : Int} (h : 2 ≤ n) : pw n / 2 = hf n := by
  unfold pw hf
  repeat' split
  all_goals omega
theorem hf_pos (n : Int) : 1 ≤ hf n := by
  unfold hf
  repeat' split
  all_goals omega
theorem hf_lt {n : Int} (h : 2 ≤ n) : hf n < n := by
  unfold hf
  repeat' split
  all_goals omega
theorem hf_up {n : Int} (h : n ≤ 32) : n ≤ 2 * hf n := by
  unfold hf
  repeat' split
  all_goals omega
abbrev wd (x : Nd) : Int := x.2 - x.1
def md (x : Nd) : Int := x.1 + hf (x.2 - x.1)
def lo (x : Nd) : Nd := (x.1, md x)
def hi (x : Nd) : Nd := (md x, x.2)
theorem lo1 (x : Nd) : (lo x).1 = x.1 := rfl
theorem lo2 (x : Nd) : (lo x).2 = md x := rfl
theorem hi1 (x : Nd) : (hi x).1 = md x := rfl
theorem hi2 (x : Nd) : (hi x).2 = x.2 := rfl
theorem md_gt (x : Nd) : x.1 < md x := by have := hf_pos (x.2 - x.1); unfold md; omega
theorem md_lt {x : Nd} (h : 2 ≤ x.2 - x.1) : md x < x.2 := by have := hf_lt h; unfold md; omega
/-- a NODE of a log of up to 18 entries -/
structure Ok (x : Nd) : Prop where
  z : 0 ≤ x.1
  l : x.1 < x.2
  u : x.2 ≤ 18
/-- .. that stands where a NODE may stand -/
structure Al (x : Nd) : Prop extends Ok x where
  a : x.1 % pw (x.2 - x.1) = 0
theorem Ok.lo {x : Nd} (o : Ok x) (h : 2 ≤ x.2 - x.1) : Ok (Mk.lo x) := ⟨o.z, md_gt x, by have := md_lt h; have := o.u; show md x ≤ 18; omega⟩
theorem Ok.hi {x : Nd} (o : Ok x) (h : 2 ≤ x.2 - x.1) : Ok (Mk.hi x) := ⟨by have := md_gt x; have := o.z; show 0 ≤ md x; omega, md_lt h, o.u⟩
theorem Al.lo {x : Nd} (o : Al x) (h : 2 ≤ x.2 - x.1) : Al (Mk.lo x) := by
  refine ⟨o.toOk.lo h, ?_⟩
  have h1 := o.a; have h2 := o.z; have h3 := o.u
  show x.1 % pw (md x - x.1) = 0
  have e : md x - x.1 = hf (x.2 - x.1) := by unfold md; omega
  rw [e]
  generalize x.2 - x.1 = n at h h1
  have h4 : x.1 < 18 := by have := o.l; omega
  generalize x.1 = s at h1 h2 h4
  unfold hf
  unfold pw at h1 ⊢
  repeat' split at h1
  all_goals repeat' split
  all_goals omega
theorem Al.hi {x : Nd} (o : Al x) (h : 2 ≤ x.2 - x.1) : Al (Mk.hi x) := by
  refine ⟨o.toOk.hi h, ?_⟩
  have h1 := o.a; have h2 := o.z; have h3 := o.u; have h4 := o.l
  show md x % pw (x.2 - md x) = 0
  have e : x.2 = x.1 + (x.2 - x.1) := by omega
  have e2 : x.2 - md x = (x.2 - x.1) - hf (x.2 - x.1) := by unfold md; omega
  have e3 : md x = x.1 + hf (x.2 - x.1) := rfl
  rw [e2, e3]
  have h5 : x.1 + (x.2 - x.1) ≤ 18 := by omega
  generalize x.2 - x.1 = n at h h1 h5
  generalize x.1 = s at h1 h2 h5
  unfold pw at h1
  unfold hf
  repeat' split at h1
  all_goals repeat' split
  all_goals first | omega | skip
  all_goals unfold pw
  all_goals repeat' split
  all_goals omega
/-- the two parts are not greater than half a power of two -/
theorem half_le {x : Nd} {k : Nat} (h : 2 ≤ x.2 - x.1) (hx : x.2 - x.1 ≤ 2 ^ (k + 1)) (hu : x.2 - x.1 ≤ 18) : md x - x.1 ≤ 2 ^ k ∧ x.2 - md x ≤ 2 ^ k := by
  have e : md x - x.1 = hf (x.2 - x.1) := by unfold md; omega
  have e2 : x.2 - md x = (x.2 - x.1) - hf (x.2 - x.1) := by unfold md; omega
  rw [e, e2]
  generalize x.2 - x.1 = n at h hx hu
  match k, hx with
  | 0, hx => unfold hf; simp at hx ⊢; repeat' split
             all_goals omega
  | 1, hx => unfold hf; simp at hx ⊢; repeat' split
             all_goals omega
  | 2, hx => unfold hf; simp at hx ⊢; repeat' split
             all_goals omega
  | 3, hx => unfold hf; simp at hx ⊢; repeat' split
             all_goals omega
  | k + 4, hx =>
    have p : (16 : Int) ≤ 2 ^ (k + 4) := by
      have q : (1 : Int) ≤ 2 ^ k := Int.pow_pos (by decide : (0 : Int) < 2)
      rw [Int.pow_add]
      have : (2 : Int) ^ 4 = 16 := by decide
      omega
    unfold hf
    repeat' split
    all_goals omega
/-- what is below a NODE -/
inductive Below : Nd → Nd → Prop where
  | here (x : Nd) : Below x x
  | lo {y x : Nd} : 2 ≤ x.2 - x.1 → Below y (lo x) → Below y x
  | hi {y x : Nd} : 2 ≤ x.2 - x.1 → Below y (hi x) → Below y x
theorem Below.ok {y x : Nd} (b : Below y x) (o : Ok x) : Ok y := by
  induction b with
  | here => exact o
  | lo h _ ih => exact ih (o.lo h)
  | hi h _ ih => exact ih (o.hi h)
theorem Below.al {y x : Nd} (b : Below y x) (o : Al x) : Al y := by
  induction b with
  | here => exact o
  | lo h _ ih => exact ih (o.lo h)
  | hi h _ ih => exact ih (o.hi h)
theorem Below.within {y x : Nd} (b : Below y x) : x.1 ≤ y.1 ∧ y.2 ≤ x.2 := by
  induction b with
  | here => exact ⟨Int.le_refl _, Int.le_refl _⟩
  | @lo x h _ ih => have := md_lt h; rw [lo1, lo2] at ih; exact ⟨ih.1, by omega⟩
  | @hi x h _ ih => have := md_gt x; rw [hi1, hi2] at ih; exact ⟨by omega, ih.2⟩
theorem Al.head {n : Int} (h : 1 ≤ n) (u : n ≤ 18) : Al (0, n) := ⟨⟨Int.le_refl 0, (by show (0 : Int) < n; omega), u⟩, Int.zero_emod _⟩
/-- what is had -/
inductive Had (g : Nd → Prop) : Nd → Prop where
  | here {x : Nd} : g x → Had g x
  | parts {x : Nd} : 2 ≤ x.2 - x.1 → Had g (lo x) → Had g (hi x) → Had g x
theorem Had.mono {g g' : Nd → Prop} {x : Nd} (h : Had g x) (s : ∀ y, g y → g' y) : Had g' x := by
  induction h with
  | here h => exact .here (s _ h)
  | parts h _ _ i1 i2 => exact .parts h i1 i2
theorem Had.starts {g : Nd → Prop} {x : Nd} (h : Had g x) : ∃ y, g y ∧ y.1 = x.1 := by
  induction h with
  | @here x h => exact ⟨x, h, rfl⟩
  | parts h _ _ i1 _ => exact i1
theorem Had.ends {g : Nd → Prop} {x : Nd} (h : Had g x) : ∃ y, g y ∧ y.2 = x.2 := by
  induction h with
  | @here x h => exact ⟨x, h, rfl⟩
  | parts h _ _ _ i2 => exact i2
/-- some NODE of the given ones lies within what is had -/
theorem Had.some {g : Nd → Prop} {x : Nd} (h : Had g x) : ∃ y, g y ∧ x.1 ≤ y.1 ∧ y.2 ≤ x.2 := by
  induction h with
  | @here x h => exact ⟨x, h, Int.le_refl _, Int.le_refl _⟩
  | @parts x h _ _ i1 _ =>
    obtain ⟨y, hy, h1, h2⟩ := i1
    have := md_lt h
    rw [lo1] at h1
    rw [lo2] at h2
    exact ⟨y, hy, h1, by omega⟩
theorem had_iff {g : Nd → Prop} {x : Nd} : Had g x ↔ g x ∨ (2 ≤ x.2 - x.1 ∧ Had g (lo x) ∧ Had g (hi x)) := by
  constructor
  · intro h
    cases h with
    | here h => exact .inl h
    | parts h a b => exact .inr ⟨h, a, b⟩
  · rintro (h | ⟨h, a, b⟩)
    · exact .here h
    · exact .parts h a b
/-- what remains of a NODE that is split where C wants it: C is monotone for wishes -/
inductive Leaf (C : Nd → Prop) : Nd → Nd → Prop where
  | here {x : Nd} : ¬ (C x ∧ 2 ≤ x.2 - x.1) → Leaf C x x
  | lo {y x : Nd} : C x → 2 ≤ x.2 - x.1 → Leaf C y (lo x) → Leaf C y x
  | hi {y x : Nd} : C x → 2 ≤ x.2 - x.1 → Leaf C y (hi x) → Leaf C y x
theorem Leaf.und {C : Nd → Prop} {y x : Nd} (l : Leaf C y x) : Below y x := by
  induction l with
  | here _ => exact .here _
  | lo _ h _ ih => exact .lo h ih
  | hi _ h _ ih => exact .hi h ih
theorem Leaf.stop {C : Nd → Prop} {y x : Nd} (l : Leaf C y x) : ¬ (C y ∧ 2 ≤ y.2 - y.1) := by
  induction l with
  | here h => exact h
  | lo _ _ _ ih => exact ih
  | hi _ _ _ ih => exact ih
/-- two that remain are one, or have no common entry -/
theorem Leaf.apart {C : Nd → Prop} {y x : Nd} (l : Leaf C y x) : ∀ {z : Nd}, Leaf C z x → y = z ∨ y.2 ≤ z.1 ∨ z.2 ≤ y.1 := by
  induction l with
  | here h =>
    intro z m
    cases m with
    | here _ => exact .inl rfl
    | lo c h' _ => exact absurd ⟨c, h'⟩ h
    | hi c h' _ => exact absurd ⟨c, h'⟩ h
  | @lo x c h a ih =>
    intro z m
    cases m with
    | here h' => exact absurd ⟨c, h⟩ h'
    | lo _ _ m => exact ih m
    | hi _ _ m =>
      have h1 := a.und.within
      have h2 := m.und.within
      rw [lo2] at h1; rw [hi1] at h2
      exact .inr (.inl (by omega))
  | @hi x c h a ih =>
    intro z m
    cases m with
    | here h' => exact absurd ⟨c, h⟩ h'
    | hi _ _ m => exact ih m
    | lo _ _ m =>
      have h1 := a.und.within
      have h2 := m.und.within
      rw [hi1] at h1; rw [lo2] at h2
      exact .inr (.inr (by omega))
/-- an induction over a NODE's size -/
theorem nd_ind {P : Nd → Prop} (h : ∀ x : Nd, x.1 < x.2 → (2 ≤ x.2 - x.1 → P (lo x) ∧ P (hi x)) → P x) : ∀ (n : Nat) (x : Nd), x.1 < x.2 → (x.2 - x.1).toNat ≤ n → P x
  | 0, x, hx, hn => absurd hn (by omega)
  | n + 1, x, hx, hn => h x hx fun h2 => by
    have a := md_gt x
    have b := md_lt h2
    exact ⟨nd_ind h n (lo x) a (by rw [lo1, lo2]; omega), nd_ind h n (hi x) b (by rw [hi1, hi2]; omega)⟩
theorem nd_rec {P : Nd → Prop} (h : ∀ x : Nd, x.1 < x.2 → (2 ≤ x.2 - x.1 → P (lo x) ∧ P (hi x)) → P x) (x : Nd) (hx : x.1 < x.2) : P x := nd_ind h _ x hx (Nat.le_refl _)
/-- from all that remains the NODE comes -/
theorem had_leaves {C g : Nd → Prop} (x : Nd) (hx : x.1 < x.2) (hg : ∀ y, Leaf C y x → g y) : Had g x := by
  revert hg
  refine nd_rec (P := fun x => (∀ y, Leaf C y x → g y) → Had g x) (fun x hx ih hg => ?_) x hx
  by_cases h : C x ∧ 2 ≤ x.2 - x.1
  · obtain ⟨a, b⟩ := ih h.2
    exact .parts h.2 (a fun y l => hg y (.lo h.1 h.2 l)) (b fun y l => hg y (.hi h.1 h.2 l))
  · exact .here (hg x (.here h))
/-- a wish cuts a NODE -/
def Cut (es ss : List Int) (x : Nd) : Prop := (∃ e ∈ es, x.1 ≤ e ∧ e < x.2) ∨ ∃ s ∈ ss, x.1 < s ∧ s < x.2
theorem hf_same {n m : Int} (h1 : hf n < m) (h2 : m ≤ n) (h3 : n ≤ 32) : hf m = hf n := by
  unfold hf at *
  repeat' split at h1
  all_goals repeat' split
  all_goals omega
/-- where a size lies within, what is before it comes of what remains -/
theorem had_cut {es ss : List Int} {g : Nd → Prop} {c : Int} (hc : c ∈ ss) (x : Nd) (hx : x.1 < x.2) :
    x.2 - x.1 ≤ 18 → x.1 < c → c < x.2 → (∀ y, Leaf (Cut es ss) y x → y.2 ≤ c → g y) → Had g (x.1, c) := by
  refine nd_rec (P := fun x => x.2 - x.1 ≤ 18 → x.1 < c → c < x.2 → (∀ y, Leaf (Cut es ss) y x → y.2 ≤ c → g y) → Had g (x.1, c)) (fun x hx ih h18 h1 h2 hg => ?_) x hx
  have hw : 2 ≤ x.2 - x.1 := by omega
  have hC : Cut es ss x := .inr ⟨c, hc, h1, h2⟩
  obtain ⟨a, b⟩ := ih hw
  have g1 := md_gt x
  have g2 := md_lt hw
  rw [lo1, lo2] at a
  rw [hi1, hi2] at b
  by_cases hm : c < md x
  · exact a (by omega) h1 hm fun y l hy => hg y (.lo hC hw l) hy
  · have hl : Had g (lo x) := had_leaves (lo x) g1 fun y l => hg y (.lo hC hw l) (by have := l.und.within; rw [lo2] at this; omega)
    by_cases he : c = md x
    · rw [he]; exact hl
    · have e : hf (c - x.1) = hf (x.2 - x.1) := hf_same (by unfold md at hm he; omega) (by omega) (by omega)
      have em : md (x.1, c) = md x := by
        show x.1 + hf (c - x.1) = x.1 + hf (x.2 - x.1)
        rw [e]
      refine .parts (by show 2 ≤ c - x.1; omega) ?_ ?_
      · show Had g (x.1, md (x.1, c)); rw [em]; exact hl
      · show Had g (md (x.1, c), c); rw [em]
        exact b (by omega) (by omega) h2 fun y l hy => hg y (.hi hC hw l) hy
/-- the entries of a NODE to which no given one leads -/
def Open (g : Nd → Prop) (x : Nd) (e : Int) : Prop := x.1 ≤ e ∧ e < x.2 ∧ ∀ y, Below y x → y.1 ≤ e → e < y.2 → ¬ g y
theorem open_of {g : Nd → Prop} (x : Nd) (hx : x.1 < x.2) (h : ¬ Had g x) : ∃ e, Open g x e := by
  revert h
  refine nd_rec (P := fun x => ¬ Had g x → ∃ e, Open g x e) (fun x hx ih h => ?_) x hx
  have hn : ¬ g x := fun z => h (.here z)
  by_cases hw : 2 ≤ x.2 - x.1
  · obtain ⟨a, b⟩ := ih hw
    have g1 := md_gt x
    have g2 := md_lt hw
    by_cases hl : Had g (lo x)
    · have hr : ¬ Had g (hi x) := fun z => h (.parts hw hl z)
      obtain ⟨e, e1, e2, e3⟩ := b hr
      rw [hi1] at e1; rw [hi2] at e2
      refine ⟨e, by omega, e2, fun y l y1 y2 => ?_⟩
      cases l with
      | here => exact hn
      | lo _ l => have := l.within; rw [lo2] at this; omega
      | hi _ l => exact e3 y l y1 y2
    · obtain ⟨e, e1, e2, e3⟩ := a hl
      rw [lo1] at e1; rw [lo2] at e2
      refine ⟨e, e1, by omega, fun y l y1 y2 => ?_⟩
      cases l with
      | here => exact hn
      | lo _ l => exact e3 y l y1 y2
      | hi _ l => have := l.within; rw [hi1] at this; omega
  · refine ⟨x.1, Int.le_refl _, hx, fun y l _ _ => ?_⟩
    cases l with
    | here => exact hn
    | lo h' _ => exact absurd h' hw
    | hi h' _ => exact absurd h' hw
end Mk

set_option Elab.async false
set_option maxRecDepth 100000
set_option maxHeartbeats 4000000
set_option linter.all false
namespace Mk
open PySem PySem.Spec PyProof.Rows L2
/-- the i-th statement of the text -/
def top (i : Nat) : Stmt := PySem.Challenge.pw_markgaps_k81_whole_marks_as_nested_pairs.main.body.getD i (.Pass ⟨0, 0, 0, 0⟩)
/-! ### what never changes: ints and tuples of such, by what they hold -/
mutual
inductive Im (H : Hp) : V → PyData → Prop
  | int (i : Int) : Im H (.int i) (.int i)
  | tup {a : Addr} {xs : List V} {ds : List PyData} : H a = some (.tup xs) → ImAll H xs ds → Im H (.ref a) (.tuple ds)
inductive ImAll (H : Hp) : List V → List PyData → Prop
  | nil : ImAll H [] []
  | cons {v : V} {vs : List V} {d : PyData} {ds : List PyData} : Im H v d → ImAll H vs ds → ImAll H (v :: vs) (d :: ds)
end
/-- the tuples stay -/
def Kt (H H' : Hp) : Prop := ∀ a xs, H a = some (.tup xs) → H' a = some (.tup xs)
theorem Kt.refl (H : Hp) : Kt H H := fun _ _ h => h
theorem Kt.trans {H H1 H2 : Hp} (a : Kt H H1) (b : Kt H1 H2) : Kt H H2 := fun x o h => b x o (a x o h)
theorem kt_same {H H' : Hp} (e : Same H H') : Kt H H' := fun a xs h => e a _ h
theorem kt_new {H : Hp} {p : Addr} {o : HO} (h : H p = none) : Kt H (upd H p o) := fun a xs q => by rw [upd_ne (ne_of_none q h)]; exact q
theorem same_new {H : Hp} {p : Addr} {o : HO} (h : H p = none) : Same H (upd H p o) := fun b u q => by rw [upd_ne (ne_of_none q h)]; exact q
theorem kt_lst {H : Hp} {p : Addr} {xs : List V} {o : HO} (h : H p = some (.lst xs)) : Kt H (upd H p o) := fun a ys q => by rw [upd_ne (ne_of q h (by intro z; cases z))]; exact q
theorem kt_dT {H : Hp} {p : Addr} {kvs : List (List Key × V)} {o : HO} (h : H p = some (.dT kvs)) : Kt H (upd H p o) := fun a ys q => by rw [upd_ne (ne_of q h (by intro z; cases z))]; exact q
theorem kt_dK {H : Hp} {p : Addr} {kvs : List (Key × V)} {o : HO} (h : H p = some (.dK kvs)) : Kt H (upd H p o) := fun a ys q => by rw [upd_ne (ne_of q h (by intro z; cases z))]; exact q
mutual
theorem Im.kt {H H' : Hp} (k : Kt H H') : ∀ (d : PyData) (v : V), Im H v d → Im H' v d
  | .int i, _, h => by cases h; exact .int i
  | .tuple ds, _, h => by
    cases h with
    | tup h1 h2 => exact .tup (k _ _ h1) (ImAll.kt k ds _ h2)
  | .none, _, h => by cases h
  | .bool _, _, h => by cases h
  | .str _, _, h => by cases h
  | .list _, _, h => by cases h
  | .dict _, _, h => by cases h
theorem ImAll.kt {H H' : Hp} (k : Kt H H') : ∀ (ds : List PyData) (vs : List V), ImAll H vs ds → ImAll H' vs ds
  | [], _, h => by cases h; exact .nil
  | d :: ds, _, h => by
    cases h with
    | cons h1 h2 => exact .cons (Im.kt k d _ h1) (ImAll.kt k ds _ h2)
end
theorem Im.by {H H' : Hp} {d : PyData} {v : V} (h : Im H v d) (k : Kt H H') : Im H' v d := Im.kt k d v h
theorem ImAll.by {H H' : Hp} {ds : List PyData} {vs : List V} (h : ImAll H vs ds) (k : Kt H H') : ImAll H' vs ds := ImAll.kt k ds vs h
theorem Im.sm {H H' : Hp} {d : PyData} {v : V} (h : Im H v d) (k : Same H H') : Im H' v d := h.by (kt_same k)
theorem ImAll.sm {H H' : Hp} {ds : List PyData} {vs : List V} (h : ImAll H vs ds) (k : Same H H') : ImAll H' vs ds := h.by (kt_same k)
mutual
theorem Im.dp {K : PySem.W.Frag} {H : Hp} : ∀ (d : PyData) (v : V), Im H v d → Dp K H v d
  | .int i, _, h => by cases h; exact .int i
  | .tuple ds, _, h => by
    cases h with
    | tup h1 h2 => exact .tup (SqT.of h1) (ImAll.dp ds _ h2)
  | .none, _, h => by cases h
  | .bool _, _, h => by cases h
  | .str _, _, h => by cases h
  | .list _, _, h => by cases h
  | .dict _, _, h => by cases h
theorem ImAll.dp {K : PySem.W.Frag} {H : Hp} : ∀ (ds : List PyData) (vs : List V), ImAll H vs ds → DpAll K H vs ds
  | [], _, h => by cases h; exact .nil
  | d :: ds, _, h => by
    cases h with
    | cons h1 h2 => exact .cons (Im.dp d _ h1) (ImAll.dp ds _ h2)
end
theorem Im.tuple {H : Hp} {v : V} {ds : List PyData} (h : Im H v (.tuple ds)) : ∃ a xs, v = .ref a ∧ H a = some (.tup xs) ∧ ImAll H xs ds := by
  cases h with
  | tup h1 h2 => exact ⟨_, _, rfl, h1, h2⟩
theorem Im.num {H : Hp} {v : V} {i : Int} (h : Im H v (.int i)) : v = .int i := by cases h; rfl
theorem ImAll.len {H : Hp} : ∀ {vs : List V} {ds : List PyData}, ImAll H vs ds → vs.length = ds.length
  | _, _, .nil => rfl
  | _, _, .cons _ t => by rw [List.length_cons, List.length_cons, ImAll.len t]
theorem ImAll.get {H : Hp} : ∀ {vs : List V} {ds : List PyData} {i : Nat} {v : V}, ImAll H vs ds → vs[i]? = some v → ∃ d, ds[i]? = some d ∧ Im H v d
  | _, _, _, _, .nil, e => by simp at e
  | _, _, 0, _, .cons h _, e => by simp at e; subst e; exact ⟨_, rfl, h⟩
  | _, _, i + 1, v, .cons _ t, e => by
    obtain ⟨d, h1, h2⟩ := ImAll.get (i := i) (v := v) t (by simpa using e)
    exact ⟨d, by simpa using h1, h2⟩
theorem ImAll.append {H : Hp} : ∀ {vs ws : List V} {ds es : List PyData}, ImAll H vs ds → ImAll H ws es → ImAll H (vs ++ ws) (ds ++ es)
  | _, _, _, _, .nil, s => s
  | _, _, _, _, .cons r t, s => .cons r (ImAll.append t s)
theorem ImAll.snoc {H : Hp} {vs : List V} {v : V} {ds : List PyData} {d : PyData} (a : ImAll H vs ds) (h : Im H v d) : ImAll H (vs ++ [v]) (ds ++ [d]) := a.append (.cons h .nil)
theorem ImAll.ints {H : Hp} : ∀ {vs : List V} {ns : List Int}, ImAll H vs (ns.map PyData.int) → vs = ns.map V.int
  | _, [], h => by cases h; rfl
  | _, n :: ns, h => by
    cases h with
    | cons h1 h2 => rw [h1.num, ImAll.ints h2, List.map_cons]
theorem ImAll.of_ints {H : Hp} : ∀ (ns : List Int), ImAll H (ns.map V.int) (ns.map PyData.int)
  | [] => .nil
  | n :: ns => .cons (.int n) (ImAll.of_ints ns)
theorem ImAll.take {H : Hp} : ∀ {vs : List V} {ds : List PyData} (n : Nat), ImAll H vs ds → ImAll H (vs.take n) (ds.take n)
  | _, _, 0, _ => by rw [List.take_zero, List.take_zero]; exact .nil
  | _, _, n + 1, .nil => .nil
  | _, _, n + 1, .cons h t => .cons h (ImAll.take n t)
theorem ImAll.mem {H : Hp} : ∀ {vs : List V} {ds : List PyData} {v : V}, ImAll H vs ds → v ∈ vs → ∃ d, d ∈ ds ∧ Im H v d
  | _, _, _, .nil, e => by cases e
  | _, _, v, .cons h t, e => by
    rcases List.mem_cons.mp e with z | z
    · rw [z]; exact ⟨_, List.mem_cons_self, h⟩
    · obtain ⟨d, h1, h2⟩ := ImAll.mem t z
      exact ⟨d, List.mem_cons_of_mem _ h1, h2⟩
end Mk

set_option Elab.async false
set_option maxRecDepth 100000
set_option maxHeartbeats 4000000
set_option linter.all false
namespace Mk
open PySem PySem.Spec PyProof.Rows L2
/-- a NODE, NODEs, a WISH as data -/
def ndP (x : Nd) : PyData := .tuple [.int x.1, .int x.2]
def wiP (es ss : List Int) : PyData := .tuple [.tuple (es.map PyData.int), .tuple (ss.map PyData.int)]
abbrev gvP (g : List Nd) : PyData := .tuple (g.map ndP)
theorem nd_inv {H : Hp} {v : V} {x : Nd} (h : Im H v (ndP x)) : ∃ a, v = .ref a ∧ H a = some (.tup [.int x.1, .int x.2]) := by
  obtain ⟨a, xs, rfl, h1, h2⟩ := h.tuple
  cases h2 with
  | cons h2 h3 =>
    cases h3 with
    | cons h3 h4 =>
      cases h4
      rw [h2.num, h3.num] at h1
      exact ⟨a, rfl, h1⟩
theorem nd_mk {H : Hp} {a : Addr} {s e : Int} (h : H a = some (.tup [.int s, .int e])) : Im H (.ref a) (ndP (s, e)) := .tup h (.cons (.int s) (.cons (.int e) .nil))
theorem gv_inv {H : Hp} {v : V} {g : List Nd} (h : Im H v (gvP g)) : ∃ a xs, v = .ref a ∧ H a = some (.tup xs) ∧ ImAll H xs (g.map ndP) := h.tuple
theorem wi_inv {H : Hp} {v : V} {es ss : List Int} (h : Im H v (wiP es ss)) : ∃ a b c, v = .ref a ∧ H a = some (.tup [.ref b, .ref c]) ∧ H b = some (.tup (es.map V.int)) ∧ H c = some (.tup (ss.map V.int)) := by
  obtain ⟨a, xs, rfl, h1, h2⟩ := h.tuple
  cases h2 with
  | cons h2 h3 =>
    cases h3 with
    | cons h3 h4 =>
      cases h4
      obtain ⟨b, ys, rfl, b1, b2⟩ := h2.tuple
      obtain ⟨c, zs, rfl, c1, c2⟩ := h3.tuple
      rw [b2.ints] at b1
      rw [c2.ints] at c1
      exact ⟨a, b, c, rfl, h1, b1, c1⟩
theorem wi_mk {H : Hp} {a b c : Addr} {es ss : List Int} (h : H a = some (.tup [.ref b, .ref c])) (hb : H b = some (.tup (es.map V.int))) (hc : H c = some (.tup (ss.map V.int))) : Im H (.ref a) (wiP es ss) :=
  .tup h (.cons (.tup hb (.of_ints _)) (.cons (.tup hc (.of_ints _)) .nil))
/-! ### equality of such data -/
mutual
/-- ints, tuples and lists -/
def plainD : PyData → Bool
  | .int _ => true
  | .tuple ds => plainDs ds
  | .list ds => plainDs ds
  | .none => false
  | .bool _ => false
  | .str _ => false
  | .dict _ => false
def plainDs : List PyData → Bool
  | [] => true
  | d :: ds => plainD d && plainDs ds
end
mutual
theorem eqv_plain : ∀ d e : PyData, plainD d = true → plainD e = true → (PyData.eqv d e = true ↔ d = e)
  | .int i, .int j, _, _ => by simp only [PyData.eqv, beq_iff_eq, PyData.int.injEq]
  | .tuple ds, .tuple es, h1, h2 => by simp only [PyData.eqv, PyData.tuple.injEq]; exact eqvs_plain ds es (by simpa only [plainD] using h1) (by simpa only [plainD] using h2)
  | .list ds, .list es, h1, h2 => by simp only [PyData.eqv, PyData.list.injEq]; exact eqvs_plain ds es (by simpa only [plainD] using h1) (by simpa only [plainD] using h2)
  | .int i, .tuple es, _, _ => by simp [PyData.eqv]
  | .int i, .list es, _, _ => by simp [PyData.eqv]
  | .tuple ds, .int j, _, _ => by simp [PyData.eqv]
  | .tuple ds, .list es, _, _ => by simp [PyData.eqv]
  | .list ds, .int j, _, _ => by simp [PyData.eqv]
  | .list ds, .tuple es, _, _ => by simp [PyData.eqv]
  | .none, _, h1, _ => by simp [plainD] at h1
  | .bool _, _, h1, _ => by simp [plainD] at h1
  | .str _, _, h1, _ => by simp [plainD] at h1
  | .dict _, _, h1, _ => by simp [plainD] at h1
  | .int _, .none, _, h2 => by simp [plainD] at h2
  | .int _, .bool _, _, h2 => by simp [plainD] at h2
  | .int _, .str _, _, h2 => by simp [plainD] at h2
  | .int _, .dict _, _, h2 => by simp [plainD] at h2
  | .tuple _, .none, _, h2 => by simp [plainD] at h2
  | .tuple _, .bool _, _, h2 => by simp [plainD] at h2
  | .tuple _, .str _, _, h2 => by simp [plainD] at h2
  | .tuple _, .dict _, _, h2 => by simp [plainD] at h2
  | .list _, .none, _, h2 => by simp [plainD] at h2
  | .list _, .bool _, _, h2 => by simp [plainD] at h2
  | .list _, .str _, _, h2 => by simp [plainD] at h2
  | .list _, .dict _, _, h2 => by simp [plainD] at h2
theorem eqvs_plain : ∀ ds es : List PyData, plainDs ds = true → plainDs es = true → (PyData.eqvAll ds es = true ↔ ds = es)
  | [], [], _, _ => by simp [PyData.eqvAll]
  | [], _ :: _, _, _ => by simp [PyData.eqvAll]
  | _ :: _, [], _, _ => by simp [PyData.eqvAll]
  | d :: ds, e :: es, h1, h2 => by
    simp only [plainDs, Bool.and_eq_true] at h1 h2
    simp only [PyData.eqvAll, Bool.and_eq_true, List.cons.injEq]
    rw [eqv_plain d e h1.1 h2.1, eqvs_plain ds es h1.2 h2.2]
end
mutual
theorem lay_plain : ∀ d : PyData, plainD d = true → d.canLay0 = true
  | .int i, _ => by simp [PyData.canLay0]
  | .tuple ds, h => by simp only [PyData.canLay0]; exact lays_plain ds (by simpa only [plainD] using h)
  | .list ds, h => by simp only [PyData.canLay0]; exact lays_plain ds (by simpa only [plainD] using h)
  | .none, h => by simp [plainD] at h
  | .bool _, h => by simp [plainD] at h
  | .str _, h => by simp [plainD] at h
  | .dict _, h => by simp [plainD] at h
theorem lays_plain : ∀ ds : List PyData, plainDs ds = true → PyData.canLayAll0 ds = true
  | [], _ => by simp [PyData.canLayAll0]
  | d :: ds, h => by
    simp only [plainDs, Bool.and_eq_true] at h
    simp only [PyData.canLayAll0, Bool.and_eq_true]
    exact ⟨lay_plain d h.1, lays_plain ds h.2⟩
end
theorem shaped_of {d : PyData} (h : plainD d = true) (h2 : d.depth ≤ 64) : SeqAt.shaped d = true := by
  show (d.canLay0 && decide (d.depth ≤ 64)) = true
  rw [lay_plain d h, decide_eq_true h2]
  rfl
theorem depths_le {n : Nat} : ∀ ds : List PyData, (∀ d ∈ ds, d.depth ≤ n) → PyData.depthAll ds ≤ n
  | [], _ => by simp [PyData.depthAll]
  | d :: ds, h => by
    simp only [PyData.depthAll]
    have h1 := h d List.mem_cons_self
    have h2 := depths_le ds fun e he => h e (List.mem_cons_of_mem _ he)
    omega
theorem plains_all : ∀ ds : List PyData, (∀ d ∈ ds, plainD d = true) → plainDs ds = true
  | [], _ => by simp [plainDs]
  | d :: ds, h => by
    simp only [plainDs, Bool.and_eq_true]
    exact ⟨h d List.mem_cons_self, plains_all ds fun e he => h e (List.mem_cons_of_mem _ he)⟩
theorem nd_plain (x : Nd) : plainD (ndP x) = true := by simp [ndP, plainD, plainDs]
theorem nd_depth (x : Nd) : (ndP x).depth = 1 := by simp [ndP, PyData.depth, PyData.depthAll]
theorem nd_shaped (x : Nd) : SeqAt.shaped (ndP x) = true := shaped_of (nd_plain x) (by rw [nd_depth]; omega)
theorem nd_inj {x y : Nd} (h : ndP x = ndP y) : x = y := by
  simp only [ndP, PyData.tuple.injEq, List.cons.injEq, PyData.int.injEq, and_true] at h
  exact Prod.ext h.1 h.2
theorem nd_eqv (x y : Nd) : PyData.eqv (ndP x) (ndP y) = decide (x = y) := by
  by_cases h : x = y
  · rw [h, decide_eq_true rfl]; exact (eqv_plain _ _ (nd_plain y) (nd_plain y)).mpr rfl
  · rw [decide_eq_false h]
    cases q : PyData.eqv (ndP x) (ndP y) with
    | false => rfl
    | true => exact absurd (nd_inj ((eqv_plain _ _ (nd_plain x) (nd_plain y)).mp q)) h
theorem gv_plain (g : List Nd) : plainDs (g.map ndP) = true := plains_all _ fun d hd => by
  obtain ⟨x, _, rfl⟩ := List.mem_map.mp hd
  exact nd_plain x
theorem gv_depth (g : List Nd) : PyData.depthAll (g.map ndP) ≤ 1 := depths_le _ fun d hd => by
  obtain ⟨x, _, rfl⟩ := List.mem_map.mp hd
  rw [nd_depth]; exact Nat.le_refl 1
theorem gv_shaped (g : List Nd) : SeqAt.shaped (gvP g) = true := shaped_of (by simp only [plainD]; exact gv_plain g) (by have := gv_depth g; simp only [PyData.depth]; omega)
theorem gl_shaped (g : List Nd) : SeqAt.shaped (.list (g.map ndP)) = true := shaped_of (by simp only [plainD]; exact gv_plain g) (by have := gv_depth g; simp only [PyData.depth]; omega)
theorem any_nd (g : List Nd) (x : Nd) : ((g.map ndP).any fun z => PyData.eqv z (ndP x)) = decide (x ∈ g) := by
  induction g with
  | nil => simp
  | cons y g ih =>
    rw [List.map_cons, List.any_cons, ih, nd_eqv]
    by_cases h : y = x
    · subst h; simp
    · have h' : ¬ x = y := fun e => h e.symm
      simp [h, h']
/-! ### the mark of a NODE as nested pairs -/
def valD (tale : List Int) (x : Nd) : PyData :=
  if h : 2 ≤ x.2 - x.1 then .tuple [valD tale (lo x), valD tale (hi x)] else .int (tale.getD x.1.toNat 0)
termination_by (x.2 - x.1).toNat
decreasing_by
  · have := md_gt x; have := md_lt h; rw [lo1, lo2]; omega
  · have := md_gt x; have := md_lt h; rw [hi1, hi2]; omega
theorem val_two {tale : List Int} {x : Nd} (h : 2 ≤ x.2 - x.1) : valD tale x = .tuple [valD tale (lo x), valD tale (hi x)] := by rw [valD, dif_pos h]
theorem val_one {tale : List Int} {x : Nd} (h : ¬ 2 ≤ x.2 - x.1) : valD tale x = .int (tale.getD x.1.toNat 0) := by rw [valD, dif_neg h]
theorem val_plain (tale : List Int) (x : Nd) (hx : x.1 < x.2) : plainD (valD tale x) = true := by
  refine nd_rec (P := fun x => plainD (valD tale x) = true) (fun x hx ih => ?_) x hx
  by_cases h : 2 ≤ x.2 - x.1
  · rw [val_two h]
    obtain ⟨a, b⟩ := ih h
    simp only [plainD, plainDs, a, b, Bool.and_self]
  · rw [val_one h]
    simp only [plainD]
theorem val_depth (tale : List Int) : ∀ (k : Nat) (x : Nd), x.2 - x.1 ≤ 2 ^ k → x.2 - x.1 ≤ 18 → (valD tale x).depth ≤ k
  | 0, x, h, _ => by
    have h' : ¬ 2 ≤ x.2 - x.1 := by simp at h; omega
    rw [val_one h']
    simp [PyData.depth]
  | k + 1, x, h, h18 => by
    by_cases hw : 2 ≤ x.2 - x.1
    · rw [val_two hw]
      obtain ⟨a, b⟩ := half_le hw h h18
      have g1 := md_gt x
      have g2 := md_lt hw
      have h1 := val_depth tale k (lo x) a (by rw [lo1, lo2]; omega)
      have h2 := val_depth tale k (hi x) b (by rw [hi1, hi2]; omega)
      simp only [PyData.depth, PyData.depthAll]
      omega
    · rw [val_one hw]
      simp [PyData.depth]
theorem val_dep {tale : List Int} {x : Nd} (o : Ok x) : (valD tale x).depth ≤ 5 := val_depth tale 5 x (by have := o.z; have := o.u; show x.2 - x.1 ≤ 32; omega) (by have := o.z; have := o.u; omega)
/-- the mark hangs on the NODE's entries alone -/
theorem val_same {t u : List Int} (x : Nd) (hx : x.1 < x.2) : (∀ i : Int, x.1 ≤ i → i < x.2 → t.getD i.toNat 0 = u.getD i.toNat 0) → valD t x = valD u x := by
  refine nd_rec (P := fun x => (∀ i : Int, x.1 ≤ i → i < x.2 → t.getD i.toNat 0 = u.getD i.toNat 0) → valD t x = valD u x) (fun x hx ih h => ?_) x hx
  by_cases hw : 2 ≤ x.2 - x.1
  · have g1 := md_gt x
    have g2 := md_lt hw
    obtain ⟨a, b⟩ := ih hw
    rw [val_two hw, val_two hw, a (fun i h1 h2 => h i h1 (by rw [lo2] at h2; omega)), b (fun i h1 h2 => h i (by rw [hi1] at h1; omega) h2)]
  · rw [val_one hw, val_one hw, h x.1 (Int.le_refl _) hx]
/-- .. and on each of them -/
theorem val_other {t u : List Int} {i : Int} (hi : t.getD i.toNat 0 ≠ u.getD i.toNat 0) (x : Nd) (hx : x.1 < x.2) : x.1 ≤ i → i < x.2 → valD t x ≠ valD u x := by
  refine nd_rec (P := fun x => x.1 ≤ i → i < x.2 → valD t x ≠ valD u x) (fun x hx ih h1 h2 e => ?_) x hx
  by_cases hw : 2 ≤ x.2 - x.1
  · obtain ⟨a, b⟩ := ih hw
    rw [val_two hw, val_two hw] at e
    simp only [PyData.tuple.injEq, List.cons.injEq, and_true] at e
    by_cases hm : i < md x
    · exact a h1 hm e.1
    · exact b (by rw [hi1]; omega) h2 e.2
  · rw [val_one hw, val_one hw] at e
    have e' : x.1 = i := by omega
    rw [e'] at e
    exact hi (PyData.int.inj e)
end Mk

set_option Elab.async false
set_option maxRecDepth 100000
set_option maxHeartbeats 4000000
set_option linter.all false
namespace Mk
open PySem PySem.Spec PyProof.Rows L2
/-- a def of the text, as it stands behind the top -/
def DD (K : PySem.W.Frag) (mg : Str → Option Value) (x : Str) (st : Stmt) : Prop := ∃ f fd, C8.Def K mg x st f fd ∧ fd.defaults = .none
/-- the built-in names that the text does not bind -/
structure Bt (mg : Str → Option Value) : Prop where
  len : mg "len" = none
  isi : mg "isinstance" = none
  list : mg "list" = none
  tuple : mg "tuple" = none
  int : mg "int" = none
  bool : mg "bool" = none
  sorted : mg "sorted" = none
  any : mg "any" = none
  all : mg "all" = none
  range : mg "range" = none
  abs : mg "abs" = none
  enum : mg "enumerate" = none
  set : mg "set" = none
  dict : mg "dict" = none
section
variable {P : Program} {w : World} {K : PySem.W.Frag} {mg : Str → Option Value} {base : Heap}
theorem cal_of {x : Str} {st : Stmt} {N ps : List Str} {k : Nat} {sp : Sp} (D : DD K mg x st)
    (hb : ∀ (kV doc pm : Value) (an : Option Addr) (cdv ct : Value) (us : List Value), us.length = ps.length → bindArgs (PySem.W.fnOf x x (C8.fnArgs st) (C8.fnBody st) (C8.fnScope st) .none kV doc pm an cdv ct) ⟨us, []⟩ = pure (ps.zip us))
    (S : FnScope N ps (C8.fnScope st)) (len : ∀ vs H Q E, sp vs H Q E → vs.length = ps.length)
    (hbody : ∀ (f : Addr) (cdv : Value) (A : Around) (outer : List Env) (s : Shared) (H : Hp) (vs : List V) (Q : VK) (E : XK), Room k (A.deeper (envOfC x (C8.fnScope st) s.heap.objs.size f cdv)) → sp vs H Q E →
      ∃ t, PSs (cxOf C8.CX0 P w K mg base N x (C8.fnScope st) f cdv A outer s H E).nox (C8.fnBody st) t ∧ t { nx := fun _ H' => Q .non H', rt := Q } (start N vs) H) : C8.Cal P w K mg base (k + 1) x sp [] := by
  obtain ⟨f, fd, F, df⟩ := D
  exact C8.cal0 F (F.fn.binds df hb) .nil S len (hbody f)
theorem Cal.up {x : Str} {sp : Sp} {j k : Nat} {dvs : List V} (c : C8.Cal P w K mg base j x sp dvs) (h : j ≤ k) : C8.Cal P w K mg base k x sp dvs := by
  obtain ⟨f, fd, ps, ds, F, r⟩ := c.ex
  exact ⟨f, fd, ps, ds, F.mono h, r⟩
/-! ### power_from -/
abbrev sPow : Stmt := top 8
theorem scPow : FnScope ["number", "found"] ["number"] (C8.fnScope sPow) := C8.fnScope_by (by decide +kernel)
def spPow : Sp := fun vs H Q _ => ∃ n : Int, vs = [.int n] ∧ n ≤ 32 ∧ Q (.int (pw n)) H
def powOk (n f : Int) : Prop := (f = 1 ∨ f = 2 ∨ f = 4 ∨ f = 8 ∨ f = 16 ∨ f = 32) ∧ (f = 1 ∨ f < 2 * n)
theorem pow_step {n f : Int} (h : powOk n f) (hn : n ≤ 32) (hf : f < n) : powOk n (2 * f) ∧ 2 * f ≤ 32 ∧ f ≤ 16 := by
  unfold powOk at *; omega
theorem pow_end {n f : Int} (h : powOk n f) (hn : n ≤ 32) (hf : ¬ f < n) : f = pw n := by
  unfold powOk pw at *
  repeat' split
  all_goals omega
theorem ok_pow (D : DD K mg "power_from" sPow) : C8.Cal P w K mg base 1 "power_from" spPow [] := by
  refine cal_of D (fun _ _ _ _ _ _ us hl => match us, hl with | [_], _ => rfl) scPow (fun vs H Q E h => ?_) (fun f cdv A outer s H vs Q E hr h => ?_)
  · obtain ⟨n, rfl, _⟩ := h
    rfl
  obtain ⟨n, rfl, hn, q⟩ := h
  refine ⟨_, pss_cons (ps_set (i := 1) scPow.nd rfl (Or.inl rfl) pe_int)
    (pss_cons (ps_while PassesOwn.never (pt_cmpR op_lt (pv 1) (pv 0) (nomark _)) (pss_one (ps_set (i := 1) scPow.nd rfl (Or.inl rfl) (pe_op op_mul pe_int (pv 1)))))
    (pss_one (ps_ret (pv 1)))), ?_⟩
  refine while_by (fun σ H' => H' = H ∧ ∃ f : Int, σ = [some (.int n), some (.int f)] ∧ powOk n f) (fun σ _ => match σ with | [_, some (.int f)] => (64 - f).toNat | _ => 0)
    ⟨rfl, 1, rfl, .inl rfl, .inl rfl⟩ ?_ (fun σ H Q Q' k ⟨x, e1, y, e2, i, j, e3, e4, z, e5, q⟩ => ⟨x, e1, y, e2, i, j, e3, e4, z, e5, k _ _ q⟩)
  rintro σ H' ⟨rfl, f, rfl, hf⟩
  refine ⟨_, rfl, _, rfl, _, _, rfl, rfl, _, rfl, ?_⟩
  refine ite2 (fun c => ?_) (fun c => ?_)
  · have c' : f < n := of_decide_eq_true c
    obtain ⟨h1, h2, h3⟩ := pow_step hf hn c'
    refine ⟨_, rfl, _, _, rfl, rfl, .inl ⟨by decide, by decide⟩, ⟨rfl, _, rfl, h1⟩, ?_⟩
    show (64 - 2 * f).toNat < (64 - f).toNat
    have : 1 ≤ f := by unfold powOk at hf; omega
    omega
  · have c' : ¬ f < n := of_decide_eq_false (Bool.eq_false_iff.mpr c)
    refine ⟨_, rfl, ?_⟩
    rw [pow_end hf hn c']
    exact q
end
end Mk

set_option Elab.async false
set_option maxRecDepth 100000
set_option maxHeartbeats 4000000
set_option linter.all false
namespace Mk
open PySem PySem.Spec PyProof.Rows L2
/-- a source that stands still while nothing tracked is changed: its items -/
structure Src (H1 : Hp) (J : It) (xs : List V) : Prop where
  go : ∀ i H, Same H1 H → i < xs.length → J.go i H
  yld : ∀ i H x H', Same H1 H → i < xs.length → J.yld i H x H' → H' = H ∧ xs[i]? = some x
  stop : ∀ H, Same H1 H → J.stop xs.length H
theorem src_tup {K : PySem.W.Frag} {H1 : Hp} {a : Addr} {xs : List V} (h : H1 a = some (.tup xs)) : Src H1 (Itt K a) xs where
  go := fun i H e hi => ⟨xs, xs[i], SqT.of (e _ _ h), List.getElem?_eq_getElem hi⟩
  yld := fun i H x H' e _ y => ⟨y.1, y.2 xs (SqT.of (e _ _ h))⟩
  stop := fun H e => ⟨xs, SqT.of (e _ _ h), Nat.le_refl _⟩
theorem src_lst {K : PySem.W.Frag} {H1 : Hp} {a : Addr} {xs : List V} (h : H1 a = some (.lst xs)) : Src H1 (Itl K a) xs where
  go := fun i H e hi => ⟨xs, xs[i], SqL.of (e _ _ h), List.getElem?_eq_getElem hi⟩
  yld := fun i H x H' e _ y => ⟨y.1, y.2 xs (SqL.of (e _ _ h))⟩
  stop := fun H e => ⟨xs, SqL.of (e _ _ h), Nat.le_refl _⟩
theorem src_rng {H1 : Hp} {lo : Int} {n : Nat} : Src H1 (Itr lo n) ((List.range n).map fun i => V.int (lo + ((i : Nat) : Int))) where
  go := fun i H e hi => by rw [List.length_map, List.length_range] at hi; exact hi
  yld := fun i H x H' e hi y => by
    rw [List.length_map, List.length_range] at hi
    refine ⟨y.1, ?_⟩
    rw [List.getElem?_map, List.getElem?_range hi, y.2]
    rfl
  stop := fun H e => by rw [List.length_map, List.length_range]; exact Nat.le_refl n
theorem same_mut {H H' : Hp} {p : Addr} {o : HO} (e : Same H H') (h : H p = none) : Same H (upd H' p o) := fun a u ha => by
  rw [upd_ne (ne_of_none ha h)]
  exact e a u ha
/-- a comprehension over such a source, its block changing nothing tracked but its own new list -/
theorem lc_src {J : It} {g : TG} {tt : TT} {te : TE} {vs : List Nat} {σ : L2.St} {H1 : Hp} {D : Addr} {Qd : Hp → Prop} {xs : List V} (S : Src H1 J xs) (hD : H1 D = none) (hz : xs.length ≤ 1000)
    (T : Nat → Hp → List V → Prop) (h0 : ∀ H, T 0 H []) (hl : ∀ i H acc, T i H acc → acc.length ≤ i)
    (hs : ∀ i x H acc, xs[i]? = some x → Same H1 H → H D = some (.lst acc) → T i H acc → ∀ (Q1 : V → Hp → Prop) (Q0 : Hp → Prop),
      (∀ y H4, Same H H4 → T (i + 1) (upd H4 D (.lst (acc ++ [y]))) (acc ++ [y]) → Q1 y H4) → (∀ H3, Same H H3 → T (i + 1) H3 acc → Q0 H3) →
      g x (wipe σ vs) H fun σ2 H2 => wipe σ2 vs = wipe σ vs ∧ tt σ2 H2 fun b H3 => if b = true then te σ2 H3 Q1 else Q0 H3)
    (hd : ∀ H acc, Same H1 H → H D = some (.lst acc) → T xs.length H acc → Qd H) :
    ∃ W : Nat → Nat → Hp → Prop, (∃ m, W 0 m (upd H1 D (.lst []))) ∧ ∀ i m H, W i m H →
      (J.stop i H ∧ Qd H) ∨ (J.go i H ∧ ∃ Nx : Hp → Prop, (∀ H', Nx H' → ∃ m', m' < m ∧ W (i + 1) m' H') ∧ ∀ x H', J.yld i H x H' → g x (wipe σ vs) H' fun σ2 H2 => wipe σ2 vs = wipe σ vs ∧ tt σ2 H2 fun b H3 =>
        if b = true then te σ2 H3 fun y H4 => ∃ acc, H4 D = some (.lst acc) ∧ acc.length < sizeLine ∧ Nx (upd H4 D (.lst (acc ++ [y]))) else Nx H3) := by
  refine ⟨fun i m H => m = xs.length - i ∧ i ≤ xs.length ∧ Same H1 H ∧ ∃ acc, H D = some (.lst acc) ∧ T i H acc, ⟨xs.length, by simp, Nat.zero_le _, same_new hD, [], upd_same, h0 _⟩, ?_⟩
  rintro i m H ⟨rfl, hi, e, acc, hA, t⟩
  by_cases hlt : i < xs.length
  · refine .inr ⟨S.go i H e hlt, fun H' => i + 1 ≤ xs.length ∧ Same H1 H' ∧ ∃ acc, H' D = some (.lst acc) ∧ T (i + 1) H' acc, fun H' p => ⟨xs.length - (i + 1), by omega, rfl, p⟩, fun x H' y => ?_⟩
    obtain ⟨rfl, hx⟩ := S.yld i H x H' e hlt y
    refine hs i x H' acc hx e hA t _ _ (fun y H4 e4 t4 => ⟨acc, e4 _ _ hA, ?_, hlt, same_mut (e.trans e4) hD, _, upd_same, t4⟩) (fun H3 e3 t3 => ⟨hlt, e.trans e3, acc, e3 _ _ hA, t3⟩)
    exact small1000 (by have := hl i H' acc t; omega)
  · have e' : i = xs.length := by omega
    subst e'
    exact .inl ⟨S.stop H e, hd H acc e hA t⟩
/-- .. whose list holds data that never changes -/
theorem lc_im {J : It} {g : TG} {tt : TT} {te : TE} {vs : List Nat} {σ : L2.St} {H1 : Hp} {D : Addr} {Qd : Hp → Prop} {xs : List V} (S : Src H1 J xs) (hD : H1 D = none) (hz : xs.length ≤ 1000)
    (es : Nat → List PyData) (h0 : es 0 = []) (hl : ∀ i, (es i).length ≤ i)
    (hs : ∀ i x H, xs[i]? = some x → Same H1 H → ∀ (Q1 : V → Hp → Prop) (Q0 : Hp → Prop),
      (∀ y H4 e, Same H H4 → Im H4 y e → es (i + 1) = es i ++ [e] → Q1 y H4) → (∀ H3, Same H H3 → es (i + 1) = es i → Q0 H3) →
      g x (wipe σ vs) H fun σ2 H2 => wipe σ2 vs = wipe σ vs ∧ tt σ2 H2 fun b H3 => if b = true then te σ2 H3 Q1 else Q0 H3)
    (hd : ∀ H acc, Same H1 H → H D = some (.lst acc) → ImAll H acc (es xs.length) → Qd H) :
    ∃ W : Nat → Nat → Hp → Prop, (∃ m, W 0 m (upd H1 D (.lst []))) ∧ ∀ i m H, W i m H →
      (J.stop i H ∧ Qd H) ∨ (J.go i H ∧ ∃ Nx : Hp → Prop, (∀ H', Nx H' → ∃ m', m' < m ∧ W (i + 1) m' H') ∧ ∀ x H', J.yld i H x H' → g x (wipe σ vs) H' fun σ2 H2 => wipe σ2 vs = wipe σ vs ∧ tt σ2 H2 fun b H3 =>
        if b = true then te σ2 H3 fun y H4 => ∃ acc, H4 D = some (.lst acc) ∧ acc.length < sizeLine ∧ Nx (upd H4 D (.lst (acc ++ [y]))) else Nx H3) := by
  refine lc_src S hD hz (fun i H acc => ImAll H acc (es i)) (fun H => by rw [h0]; exact .nil) (fun i H acc t => by rw [t.len]; exact hl i) (fun i x H acc hx e hA t Q1 Q0 q1 q0 => ?_) hd
  refine hs i x H hx e Q1 Q0 (fun y H4 d e4 hy he => q1 y H4 e4 ?_) (fun H3 e3 he => q0 H3 e3 (by rw [he]; exact t.sm e3))
  rw [he]
  have k : Kt H4 (upd H4 D (.lst (acc ++ [y]))) := kt_lst (e4 _ _ hA)
  exact ((t.sm e4).by k).snoc (hy.by k)
/-- .. whose list holds truth values -/
theorem lc_bl {J : It} {g : TG} {tt : TT} {te : TE} {vs : List Nat} {σ : L2.St} {H1 : Hp} {D : Addr} {Qd : Hp → Prop} {xs : List V} (S : Src H1 J xs) (hD : H1 D = none) (hz : xs.length ≤ 1000)
    (P : Nat → Bool → Prop)
    (hs : ∀ i x H, xs[i]? = some x → Same H1 H → ∀ (Q1 : V → Hp → Prop) (Q0 : Hp → Prop),
      (∀ b H4, Same H H4 → P i b → Q1 (.bl b) H4) →
      g x (wipe σ vs) H fun σ2 H2 => wipe σ2 vs = wipe σ vs ∧ tt σ2 H2 fun b H3 => if b = true then te σ2 H3 Q1 else Q0 H3)
    (hd : ∀ (H : Hp) (bs : List Bool), Same H1 H → H D = some (.lst (bs.map V.bl)) → bs.length = xs.length → (∀ (i : Nat) b, bs[i]? = some b → P i b) → Qd H) :
    ∃ W : Nat → Nat → Hp → Prop, (∃ m, W 0 m (upd H1 D (.lst []))) ∧ ∀ i m H, W i m H →
      (J.stop i H ∧ Qd H) ∨ (J.go i H ∧ ∃ Nx : Hp → Prop, (∀ H', Nx H' → ∃ m', m' < m ∧ W (i + 1) m' H') ∧ ∀ x H', J.yld i H x H' → g x (wipe σ vs) H' fun σ2 H2 => wipe σ2 vs = wipe σ vs ∧ tt σ2 H2 fun b H3 =>
        if b = true then te σ2 H3 fun y H4 => ∃ acc, H4 D = some (.lst acc) ∧ acc.length < sizeLine ∧ Nx (upd H4 D (.lst (acc ++ [y]))) else Nx H3) := by
  refine lc_src S hD hz (fun i H acc => ∃ bs : List Bool, acc = bs.map V.bl ∧ bs.length = i ∧ ∀ (j : Nat) b, bs[j]? = some b → P j b) (fun H => ⟨[], rfl, rfl, fun j b h => by simp at h⟩)
    (fun i H acc ⟨bs, h1, h2, _⟩ => by rw [h1, List.length_map, h2]; exact Nat.le_refl i) (fun i x H acc hx e hA ⟨bs, h1, h2, h3⟩ Q1 Q0 q1 q0 => ?_) (fun H acc e hA ⟨bs, h1, h2, h3⟩ => hd H bs e (by rw [← h1]; exact hA) h2 h3)
  refine hs i x H hx e Q1 Q0 (fun b H4 e4 hb => q1 _ H4 e4 ⟨bs ++ [b], by rw [h1, List.map_append]; rfl, by rw [List.length_append, h2]; rfl, fun j c hj => ?_⟩)
  by_cases hji : j < bs.length
  · rw [List.getElem?_append_left hji] at hj
    exact h3 j c hj
  · by_cases hje : j = bs.length
    · subst hje
      rw [List.getElem?_concat_length] at hj
      cases hj
      rw [h2]
      exact hb
    · rw [List.getElem?_eq_none (by rw [List.length_append, List.length_singleton]; omega)] at hj
      cases hj
end Mk

set_option Elab.async false
set_option maxRecDepth 100000
set_option maxHeartbeats 4000000
set_option linter.all false
namespace Mk
open PySem PySem.Spec PyProof.Rows L2
section
variable {P : Program} {w : World} {K : PySem.W.Frag} {mg : Str → Option Value} {base : Heap}
/-! ### size_of -/
abbrev sSize : Stmt := top 9
theorem scSize : FnScope ["node"] ["node"] (C8.fnScope sSize) := C8.fnScope_by (by decide +kernel)
def spSize : Sp := fun vs H Q _ => ∃ v x, vs = [v] ∧ Im H v (ndP x) ∧ Q (.int (x.2 - x.1)) H
theorem ok_size (D : DD K mg "size_of" sSize) : C8.Cal P w K mg base 1 "size_of" spSize [] := by
  refine cal_of D (fun _ _ _ _ _ _ us hl => match us, hl with | [_], _ => rfl) scSize (fun vs H Q E h => ?_) (fun f cdv A outer s H vs Q E hr h => ?_)
  · obtain ⟨v, x, rfl, _⟩ := h
    rfl
  obtain ⟨v, x, rfl, hv, q⟩ := h
  obtain ⟨a, rfl, ha⟩ := nd_inv hv
  refine ⟨_, pss_one (ps_ret (pe_op op_sub (pe_ix ix_tup (pv 0) pe_int (fun _ _ => rfl)) (pe_ix ix_tup (pv 0) pe_int (fun _ _ => rfl)))), ?_⟩
  exact ⟨_, rfl, _, _, _, _, rfl, rfl, SqT.of ha, rfl, _, rfl, _, _, _, _, rfl, rfl, SqT.of ha, rfl, _, _, rfl, rfl, q⟩
/-! ### is_tuple, is_number -/
abbrev sIsT : Stmt := top 2
theorem scIsT : FnScope ["thing", "many"] ["thing", "many"] (C8.fnScope sIsT) := C8.fnScope_by (by decide +kernel)
def spIsT : Sp := fun vs H Q _ => ∃ v x, vs = [v, .int 2] ∧ Im H v (ndP x) ∧ Q (.bl true) H
theorem ok_isT (B : Bt mg) (D : DD K mg "is_tuple" sIsT) : C8.Cal P w K mg base 1 "is_tuple" spIsT [] := by
  refine cal_of D (fun _ _ _ _ _ _ us hl => match us, hl with | [_, _], _ => rfl) scIsT (fun vs H Q E h => ?_) (fun f cdv A outer s H vs Q E hr h => ?_)
  · obtain ⟨v, x, rfl, _⟩ := h
    rfl
  obtain ⟨v, x, rfl, hv, q⟩ := h
  obtain ⟨a, rfl, ha⟩ := nd_inv hv
  refine ⟨_, pss_one (ps_ret (pe_and (pe_callB call_isi (by rfl) B.isi (by decide +kernel) (pa_cons (pv 0) (pa_cons (pe_bltn (v := .ty "tuple") (by rfl) B.tuple (by decide +kernel) rfl) pa_nil)))
    (pe_one (pe_cmpR op_eq (pe_callB call_len_seq (by rfl) B.len PySem.boot_len (pa_cons (pv 0) pa_nil)) (pv 1) (nomark _))))), ?_⟩
  refine ⟨_, rfl, _, _, _, _, true, rfl, .ty "tuple", .base (.tup ha), kit_ty (by decide +kernel), true, rfl, ?_⟩
  exact ⟨_, rfl, a, _, rfl, .inr (SqT.of ha), _, rfl, rfl, q⟩
abbrev sIsN : Stmt := top 3
theorem scIsN : FnScope ["thing", "bottom"] ["thing", "bottom"] (C8.fnScope sIsN) := C8.fnScope_by (by decide +kernel)
def spIsN : Sp := fun vs H Q _ => ∃ i j : Int, vs = [.int i, .int j] ∧ Q (.bl (decide (j ≤ i))) H
theorem ok_isN (B : Bt mg) (D : DD K mg "is_number" sIsN) : C8.Cal P w K mg base 1 "is_number" spIsN [] := by
  refine cal_of D (fun _ _ _ _ _ _ us hl => match us, hl with | [_, _], _ => rfl) scIsN (fun vs H Q E h => ?_) (fun f cdv A outer s H vs Q E hr h => ?_)
  · obtain ⟨i, j, rfl, _⟩ := h
    rfl
  obtain ⟨i, j, rfl, q⟩ := h
  refine ⟨_, pss_one (ps_ret (pe_and (pe_callB call_isi (by rfl) B.isi (by decide +kernel) (pa_cons (pv 0) (pa_cons (pe_bltn (v := .ty "int") (by rfl) B.int (by decide +kernel) rfl) pa_nil)))
    (pe_and (pe_not (pe_callB call_isi (by rfl) B.isi (by decide +kernel) (pa_cons (pv 0) (pa_cons (pe_bltn (v := .ty "bool") (by rfl) B.bool (by decide +kernel) rfl) pa_nil))))
    (pe_one (pe_cmpR op_ge (pv 0) (pv 1) (nomark _)))))), ?_⟩
  refine ⟨_, rfl, _, _, _, _, true, rfl, .ty "int", .base (.int i), kit_ty (by decide +kernel), true, rfl, ?_⟩
  refine ⟨_, rfl, _, _, _, _, false, rfl, .ty "bool", .base (.int i), kit_ty (by decide +kernel), false, rfl, true, rfl, ?_⟩
  exact ⟨_, rfl, _, rfl, _, _, rfl, rfl, q⟩
/-! ### entry_node, has_entry -/
abbrev sEnt : Stmt := top 11
theorem scEnt : FnScope ["entry"] ["entry"] (C8.fnScope sEnt) := C8.fnScope_by (by decide +kernel)
def spEnt : Sp := fun vs H Q _ => ∃ e : Int, vs = [.int e] ∧ ∀ v H', Same H H' → Im H' v (ndP (e, e + 1)) → Q v H'
theorem ok_ent (D : DD K mg "entry_node" sEnt) : C8.Cal P w K mg base 1 "entry_node" spEnt [] := by
  refine cal_of D (fun _ _ _ _ _ _ us hl => match us, hl with | [_], _ => rfl) scEnt (fun vs H Q E h => ?_) (fun f cdv A outer s H vs Q E hr h => ?_)
  · obtain ⟨e, rfl, _⟩ := h
    rfl
  obtain ⟨e, rfl, q⟩ := h
  refine ⟨_, pss_one (ps_ret (pe_tup (pa_cons (pv 0) (pa_cons (pe_op op_add (pv 0) pe_int) pa_nil)))), ?_⟩
  exact ⟨_, rfl, _, rfl, _, _, rfl, rfl, (by show 2 ≤ sizeLine; decide), fun p hp => q _ _ (same_new hp) (nd_mk upd_same)⟩
abbrev sHasE : Stmt := top 12
theorem scHasE : FnScope ["node", "entry"] ["node", "entry"] (C8.fnScope sHasE) := C8.fnScope_by (by decide +kernel)
def spHasE : Sp := fun vs H Q _ => ∃ v x e, vs = [v, .int e] ∧ Im H v (ndP x) ∧ Q (.bl (decide (x.1 ≤ e ∧ e < x.2))) H
theorem ok_hasE (D : DD K mg "has_entry" sHasE) : C8.Cal P w K mg base 1 "has_entry" spHasE [] := by
  refine cal_of D (fun _ _ _ _ _ _ us hl => match us, hl with | [_, _], _ => rfl) scHasE (fun vs H Q E h => ?_) (fun f cdv A outer s H vs Q E hr h => ?_)
  · obtain ⟨v, x, e, rfl, _⟩ := h
    rfl
  obtain ⟨v, x, e, rfl, hv, q⟩ := h
  obtain ⟨a, rfl, ha⟩ := nd_inv hv
  refine ⟨_, pss_one (ps_ret (pe_chain op_le op_lt (pe_ix ix_tup (pv 0) pe_int (fun _ _ => rfl)) (pv 1) (pe_ix ix_tup (pv 0) pe_int (fun _ _ => rfl)))), ?_⟩
  refine ⟨_, rfl, _, _, _, _, rfl, rfl, SqT.of ha, rfl, _, rfl, _, _, rfl, rfl, _, rfl, ?_⟩
  refine ite2 (fun c => ?_) (fun c => ?_)
  · have c' : x.1 ≤ e := of_decide_eq_true c
    refine ⟨_, rfl, _, _, _, _, rfl, rfl, SqT.of ha, rfl, _, _, rfl, rfl, ?_⟩
    have e1 : decide (x.1 ≤ e ∧ e < x.2) = decide (e < x.2) := decide_eq_decide.mpr ⟨fun h => h.2, fun h => ⟨c', h⟩⟩
    rw [e1] at q
    exact q
  · have c' : ¬ x.1 ≤ e := of_decide_eq_false (Bool.eq_false_iff.mpr c)
    have e1 : decide (x.1 ≤ e ∧ e < x.2) = false := decide_eq_false fun h => c' h.1
    rw [e1] at q
    exact q
end
end Mk

set_option Elab.async false
set_option maxRecDepth 100000
set_option maxHeartbeats 4000000
set_option linter.all false
namespace Mk
open PySem PySem.Spec PyProof.Rows L2
section
variable {P : Program} {w : World} {K : PySem.W.Frag} {mg : Str → Option Value} {base : Heap}
theorem cal_none {x : Str} {st : Stmt} {ps : List Str} {k : Nat} {sp : Sp} (D : DD K mg x st)
    (hb : ∀ (kV doc pm : Value) (an : Option Addr) (cdv ct : Value) (us : List Value), us.length = ps.length → bindArgs (PySem.W.fnOf x x (C8.fnArgs st) (C8.fnBody st) (C8.fnScope st) .none kV doc pm an cdv ct) ⟨us, []⟩ = pure (ps.zip us))
    (no : ∀ vs H Q E, ¬ sp vs H Q E) : C8.Cal P w K mg base k x sp [] := by
  obtain ⟨f, fd, F, df⟩ := D
  exact ⟨f, fd, ps, [], ⟨fun vs H Q E h => absurd h (no vs H Q E), fun A outer s H args us vs Q E _ _ _ _ h => absurd h (no vs H Q E)⟩, F.mgf, F.kp, F.fn.binds df hb, .nil⟩
/-- a def that calls itself, by the number of calls -/
theorem cal_rec {x : Str} {st : Stmt} {ps : List Str} {c0 : Nat} {sp : Nat → Sp} (D : DD K mg x st)
    (hb : ∀ (kV doc pm : Value) (an : Option Addr) (cdv ct : Value) (us : List Value), us.length = ps.length → bindArgs (PySem.W.fnOf x x (C8.fnArgs st) (C8.fnBody st) (C8.fnScope st) .none kV doc pm an cdv ct) ⟨us, []⟩ = pure (ps.zip us))
    (no : ∀ vs H Q E, ¬ sp 0 vs H Q E) (step : ∀ n, C8.Cal P w K mg base (c0 + n) x (sp n) [] → C8.Cal P w K mg base (c0 + n + 1) x (sp (n + 1)) []) : ∀ n, C8.Cal P w K mg base (c0 + n) x (sp n) []
  | 0 => cal_none D hb no
  | n + 1 => step n (cal_rec D hb no step n)
/-! ### is_node -/
abbrev sIsNd : Stmt := top 10
theorem scIsNd : FnScope ["thing"] ["thing"] (C8.fnScope sIsNd) := C8.fnScope_by (by decide +kernel)
def spIsNd : Sp := fun vs H Q _ => ∃ v x, vs = [v] ∧ Im H v (ndP x) ∧ 0 ≤ x.1 ∧ x.2 ≤ 18 ∧ ∀ b : Bool, (b = true ↔ Al x) → Q (.bl b) H
theorem pw_pos (n : Int) : 0 < pw n := by
  unfold pw
  repeat' split
  all_goals omega
theorem ok_isNd (D : DD K mg "is_node" sIsNd) (hP : ∃ t, mg "PAIR" = some (.int 2 t)) (c1 : C8.Cal P w K mg base 1 "is_tuple" spIsT []) (c2 : C8.Cal P w K mg base 1 "is_number" spIsN [])
    (c3 : C8.Cal P w K mg base 1 "power_from" spPow []) (c4 : C8.Cal P w K mg base 1 "size_of" spSize []) : C8.Cal P w K mg base 2 "is_node" spIsNd [] := by
  refine cal_of D (fun _ _ _ _ _ _ us hl => match us, hl with | [_], _ => rfl) scIsNd (fun vs H Q E h => ?_) (fun f cdv A outer s H vs Q E hr h => ?_)
  · obtain ⟨v, x, rfl, _⟩ := h
    rfl
  obtain ⟨v, x, rfl, hv, z0, z1, q⟩ := h
  obtain ⟨a, rfl, ha⟩ := nd_inv hv
  obtain ⟨tP, hP⟩ := hP
  refine ⟨_, pss_cons (ps_if (PW.pt (pw_or (pt_not (pt_val (C8.pe_c c1 hr (by decide) rfl (pa_cons (pv 0) (pa_cons (pe_glob (v := .int 2) rfl hP ⟨_, rfl⟩) pa_nil)))))
      (pw_or (pt_not (pt_val (C8.pe_c c2 hr (by decide) rfl (pa_cons (pe_ix ix_tup (pv 0) pe_int (fun _ _ => rfl)) (pa_cons pe_int pa_nil)))))
      (pw_or1 (pt_not (pt_val (C8.pe_c c2 hr (by decide) rfl (pa_cons (pe_ix ix_tup (pv 0) pe_int (fun _ _ => rfl)) (pa_cons (pe_op op_add (pe_ix ix_tup (pv 0) pe_int (fun _ _ => rfl)) pe_int) pa_nil))))))))) (pss_one (ps_ret pe_bl)) pss_nil)
    (pss_one (ps_ret (pe_cmpR op_eq (pe_op op_mod (pe_ix ix_tup (pv 0) pe_int (fun _ _ => rfl)) (C8.pe_c c3 hr (by decide) rfl (pa_cons (C8.pe_c c4 hr (by decide) rfl (pa_cons (pv 0) pa_nil)) pa_nil))) pe_int (nomark _)))), ?_⟩
  refine ⟨_, rfl, _, x, rfl, hv, true, rfl, iteF ?_⟩
  refine ⟨_, rfl, _, _, _, _, rfl, rfl, SqT.of ha, rfl, _, _, rfl, _, rfl, ?_⟩
  rw [decide_eq_true z0]
  refine iteF ?_
  refine ⟨_, rfl, _, _, _, _, rfl, rfl, SqT.of ha, rfl, _, rfl, _, _, _, _, rfl, rfl, SqT.of ha, rfl, _, _, rfl, rfl, _, _, rfl, _, rfl, ?_⟩
  refine ite2 (fun c => ?_) (fun c => ?_)
  · have c' : ¬ x.1 + 1 ≤ x.2 := by simpa using c
    exact q false ⟨fun e => Bool.noConfusion e, fun o => absurd o.l (by omega)⟩
  · have c' : x.1 + 1 ≤ x.2 := by simpa using c
    refine ⟨_, rfl, _, _, _, _, rfl, rfl, SqT.of ha, rfl, _, rfl, _, x, rfl, hv, _, rfl, by omega, _, _, rfl, rfl, pw_pos _, ?_⟩
    refine ⟨rfl, q _ ⟨fun e => ?_, fun o => ?_⟩⟩
    · have e' := of_decide_eq_true e
      exact ⟨⟨z0, by omega, z1⟩, V.int.inj e'⟩
    · exact decide_eq_true (congrArg V.int o.a)
/-! ### parts_of -/
abbrev sParts : Stmt := top 13
theorem scParts : FnScope ["node", "start", "end", "middle"] ["node"] (C8.fnScope sParts) := C8.fnScope_by (by decide +kernel)
def spParts : Sp := fun vs H Q _ => ∃ v x, vs = [v] ∧ Im H v (ndP x) ∧ x.1 < x.2 ∧ x.2 - x.1 ≤ 32 ∧ (¬ 2 ≤ x.2 - x.1 → Q .non H) ∧
  (2 ≤ x.2 - x.1 → ∀ v' H', Same H H' → Im H' v' (gvP [lo x, hi x]) → Q v' H')
theorem ok_parts (D : DD K mg "parts_of" sParts) (c3 : C8.Cal P w K mg base 1 "power_from" spPow []) : C8.Cal P w K mg base 2 "parts_of" spParts [] := by
  refine cal_of D (fun _ _ _ _ _ _ us hl => match us, hl with | [_], _ => rfl) scParts (fun vs H Q E h => ?_) (fun f cdv A outer s H vs Q E hr h => ?_)
  · obtain ⟨v, x, rfl, _⟩ := h
    rfl
  obtain ⟨v, x, rfl, hv, z0, z1, q0, q1⟩ := h
  obtain ⟨a, rfl, ha⟩ := nd_inv hv
  refine ⟨_, pss_cons (ps_asg (pv 0) (pg_tup (by rfl) (pgs_cons (pg_name (i := 1) scParts.nd rfl (Or.inl rfl)) (pgs_cons (pg_name (i := 2) scParts.nd rfl (Or.inl rfl)) pgs_nil))))
    (pss_cons (ps_if (pt_cmpR op_eq (pe_op op_sub (pv 2) (pv 1)) pe_int (nomark _)) (pss_one (ps_ret pe_non)) pss_nil)
    (pss_cons (ps_set (i := 3) scParts.nd rfl (Or.inl rfl) (pe_op op_add (pv 1) (pe_op op_fdiv (C8.pe_c c3 hr (by decide) rfl (pa_cons (pe_op op_sub (pv 2) (pv 1)) pa_nil)) pe_int)))
    (pss_one (ps_ret (pe_tup (pa_cons (pe_tup (pa_cons (pv 1) (pa_cons (pv 3) pa_nil))) (pa_cons (pe_tup (pa_cons (pv 3) (pa_cons (pv 2) pa_nil))) pa_nil))))))), ?_⟩
  refine ⟨_, rfl, a, _, rfl, SqT.of ha, rfl, _, _, rfl, _, _, rfl, rfl, ?_⟩
  refine ⟨_, rfl, _, rfl, _, _, rfl, rfl, rfl, _, rfl, ?_⟩
  refine ite2 (fun c => ?_) (fun c => ?_)
  · have c' : x.2 - x.1 = 1 := V.int.inj (of_decide_eq_true c)
    exact q0 (by omega)
  · have c' : ¬ x.2 - x.1 = 1 := fun e => c (decide_eq_true (congrArg V.int e))
    have hw : 2 ≤ x.2 - x.1 := by omega
    have em : x.1 + pw (x.2 - x.1) / 2 = md x := by rw [hf_pw hw]; rfl
    refine ⟨_, rfl, _, rfl, _, rfl, _, _, rfl, rfl, _, rfl, z1, _, _, rfl, rfl, ⟨by decide, by decide⟩, _, _, rfl, rfl, ?_⟩
    dsimp only
    rw [em]
    refine ⟨_, rfl, _, rfl, (by show 2 ≤ sizeLine; decide), fun p hp => ⟨_, rfl, _, rfl, (by show 2 ≤ sizeLine; decide), fun r hr' => ⟨(by show 2 ≤ sizeLine; decide), fun t ht => ?_⟩⟩⟩
    have k1 := same_new hp (o := .tup [.int x.1, .int (md x)])
    have k2 := same_new hr' (o := .tup [.int (md x), .int x.2])
    have k3 := same_new ht (o := .tup [.ref p, .ref r])
    refine q1 hw _ _ (k1.trans (k2.trans k3)) (.tup upd_same (.cons ?_ (.cons ?_ .nil)))
    · exact nd_mk (k3 _ _ (k2 _ _ upd_same))
    · exact nd_mk (k3 _ _ upd_same)
end
end Mk

set_option Elab.async false
set_option maxRecDepth 100000
set_option maxHeartbeats 4000000
set_option linter.all false
namespace Mk
open PySem PySem.Spec PyProof.Rows L2
/-! ### in, not in: over a tuple of data -/
def rInU (K : PySem.W.Frag) : R2 := fun x y H Q => ∃ d ds, Dp K H x d ∧ Dp K H y (.tuple ds) ∧ SeqAt.shaped d = true ∧ SeqAt.shaped (.tuple ds) = true ∧ Q (.bl (ds.any fun z => PyData.eqv z d)) H
def rNotInU (K : PySem.W.Frag) : R2 := fun x y H Q => ∃ d ds, Dp K H x d ∧ Dp K H y (.tuple ds) ∧ SeqAt.shaped d = true ∧ SeqAt.shaped (.tuple ds) = true ∧ Q (.bl (!ds.any fun z => PyData.eqv z d)) H
section
variable {X : Cx}
theorem op_inU (hu : X.A.units + 65 < cLine) : OpR X (compareOp .In) (rInU X.K) := fun pins s σ H x y v u Q I rx ry ⟨d, ds, hd, he, sd, se, q⟩ =>
  let ⟨_, r1⟩ := Dp.reads I d x v hd rx
  let ⟨_, r2⟩ := Dp.reads I (.tuple ds) y u he ry
  SeqAt.in_tuple_reads r2 r1 (SeqAt.canLay_of_shaped se) (SeqAt.canLay_of_shaped sd) (room_in_shaped sd hu) ⟨.bl _, H, I, rfl, q⟩
theorem op_notInU (hu : X.A.units + 65 < cLine) : OpR X (compareOp .NotIn) (rNotInU X.K) := fun pins s σ H x y v u Q I rx ry ⟨d, ds, hd, he, sd, se, q⟩ =>
  let ⟨_, r1⟩ := Dp.reads I d x v hd rx
  let ⟨_, r2⟩ := Dp.reads I (.tuple ds) y u he ry
  SeqAt.notIn_tuple_reads r2 r1 (SeqAt.canLay_of_shaped se) (SeqAt.canLay_of_shaped sd) (room_in_shaped sd hu) ⟨.bl _, H, I, rfl, q⟩
end
theorem hu65 {A : Around} {k : Nat} (hr : Room k A) : A.units + 65 < cLine := by have := hr.un; omega
/-- a NODE in a tuple of NODEs -/
theorem in_nodes {K : PySem.W.Frag} {H : Hp} {x y : V} {n : Nd} {g : List Nd} {Q : VK} (hx : Im H x (ndP n)) (hy : Im H y (gvP g)) (q : Q (.bl (decide (n ∈ g))) H) : rInU K x y H Q :=
  ⟨ndP n, g.map ndP, Im.dp _ _ hx, Im.dp _ _ hy, nd_shaped n, gv_shaped g, by rw [any_nd]; exact q⟩
/-! ### data of small tuples -/
mutual
def smD : PyData → Bool
  | .tuple ds => decide (ds.length ≤ 1000) && smDs ds
  | .int _ => true
  | .list _ => true
  | .none => true
  | .bool _ => true
  | .str _ => true
  | .dict _ => true
def smDs : List PyData → Bool
  | [] => true
  | d :: ds => smD d && smDs ds
end
theorem smDs_get : ∀ {ds : List PyData} {i : Nat} {d : PyData}, smDs ds = true → ds[i]? = some d → smD d = true
  | [], i, d, _, e => by simp at e
  | d :: ds, 0, _, h, e => by simp at e; subst e; simp only [smDs, Bool.and_eq_true] at h; exact h.1
  | d :: ds, i + 1, _, h, e => smDs_get (i := i) (by simp only [smDs, Bool.and_eq_true] at h; exact h.2) (by simpa using e)
theorem smDs_all : ∀ {ds : List PyData}, (∀ d ∈ ds, smD d = true) → smDs ds = true
  | [], _ => by simp [smDs]
  | d :: ds, h => by simp only [smDs, Bool.and_eq_true]; exact ⟨h d List.mem_cons_self, smDs_all fun e he => h e (List.mem_cons_of_mem _ he)⟩
theorem depth_get : ∀ {ds : List PyData} {i : Nat} {d : PyData}, ds[i]? = some d → d.depth ≤ PyData.depthAll ds
  | [], i, d, e => by simp at e
  | d :: ds, 0, _, e => by simp at e; subst e; simp only [PyData.depthAll]; omega
  | d :: ds, i + 1, _, e => by have := depth_get (ds := ds) (i := i) (by simpa using e); simp only [PyData.depthAll]; omega
theorem sm_nd (x : Nd) : smD (ndP x) = true := by simp [ndP, smD, smDs]
theorem sm_gv {g : List Nd} (h : g.length ≤ 1000) : smD (gvP g) = true := by
  simp only [smD, Bool.and_eq_true, decide_eq_true_eq, List.length_map]
  exact ⟨h, smDs_all fun d hd => by obtain ⟨x, _, rfl⟩ := List.mem_map.mp hd; exact sm_nd x⟩
theorem dep_gv (g : List Nd) : (gvP g).depth ≤ 2 := by have := gv_depth g; simp only [PyData.depth]; omega
theorem ints_depth (ns : List Int) : PyData.depthAll (ns.map PyData.int) ≤ 0 := depths_le _ fun d hd => by
  obtain ⟨x, _, rfl⟩ := List.mem_map.mp hd
  simp [PyData.depth]
theorem ints_sm {ns : List Int} (h : ns.length ≤ 1000) : smD (.tuple (ns.map PyData.int)) = true := by
  simp only [smD, Bool.and_eq_true, decide_eq_true_eq, List.length_map]
  exact ⟨h, smDs_all fun d hd => by obtain ⟨x, _, rfl⟩ := List.mem_map.mp hd; simp [smD]⟩
theorem sm_wi {es ss : List Int} (h1 : es.length ≤ 1000) (h2 : ss.length ≤ 1000) : smD (wiP es ss) = true := by
  simp only [wiP]
  rw [smD, smDs, smDs, smDs, ints_sm h1, ints_sm h2]
  simp
theorem dep_wi (es ss : List Int) : (wiP es ss).depth ≤ 2 := by
  have h1 := ints_depth es
  have h2 := ints_depth ss
  simp only [wiP, PyData.depth, PyData.depthAll]
  omega
section
variable {P : Program} {w : World} {K : PySem.W.Frag} {mg : Str → Option Value} {base : Heap}
/-! ### tupled -/
abbrev sTup : Stmt := top 1
theorem scTup : FnScope ["thing", "part"] ["thing"] (C8.fnScope sTup) := C8.fnScope_by (by decide +kernel)
def spTup (n : Nat) : Sp := fun vs H Q _ => ∃ v d, vs = [v] ∧ Im H v d ∧ d.depth < n ∧ smD d = true ∧ ∀ v' H', Same H H' → Im H' v' d → Q v' H'
theorem ok_tup (B : Bt mg) (D : DD K mg "tupled" sTup) : ∀ n, C8.Cal P w K mg base (0 + n) "tupled" (spTup n) [] := by
  refine cal_rec D (ps := ["thing"]) (fun _ _ _ _ _ _ us hl => match us, hl with | [_], _ => rfl) (fun vs H Q E ⟨v, d, _, _, h, _⟩ => absurd h (Nat.not_lt_zero _)) (fun n c => ?_)
  refine cal_of D (fun _ _ _ _ _ _ us hl => match us, hl with | [_], _ => rfl) scTup (fun vs H Q E h => ?_) (fun f cdv A outer s H vs Q E hr h => ?_)
  · obtain ⟨v, d, rfl, _⟩ := h
    rfl
  obtain ⟨v, d, rfl, hv, hd, hs, q⟩ := h
  refine ⟨_, pss_one (ps_ret (pe_ifExp (pt_val (pe_callB call_isiT (by rfl) B.isi (by decide +kernel) (pa_cons (pv 0) (pa_cons (pe_tup (pa_cons (pe_bltn (v := .ty "list") (by rfl) B.list (by decide +kernel) rfl)
      (pa_cons (pe_bltn (v := .ty "tuple") (by rfl) B.tuple (by decide +kernel) rfl) pa_nil))) pa_nil))))
    (pe_callTy call_tuple_of (by rfl) B.tuple (by decide +kernel) (pa_cons (pe_lc (own := [("part", 1)]) (g := gName 1) (tt := tYes) rfl scTup.nd (pi_tup (pv 0)) (blkOk_by (N := ["thing", "part"]) (sc := C8.fnScope sTup) (by decide +kernel))
      (fun _ _ _ _ _ => pg_name (i := 1) scTup.nd rfl (Or.inl rfl)) (fun _ _ _ _ _ => pts_nil) (fun _ _ _ _ _ => C8.pe_c c hr (Nat.le_refl _) rfl (pa_cons (pv 1) pa_nil))) pa_nil)) (pv 0))), ?_⟩
  refine ⟨_, rfl, (by show 2 ≤ sizeLine; decide), fun T hT => ?_⟩
  have k1 := same_new hT (o := .tup [.ty "list", .ty "tuple"])
  cases d with
  | int i =>
    rw [hv.num]
    refine ⟨_, T, _, _, _, false, rfl, upd_same, .cons (.ty "list") (.cons (.ty "tuple") .nil), .base (.int i),
      kitAny_cons (kit_ty (r := false) (by decide +kernel)) (fun _ => kitAny_cons (kit_ty (r := false) (by decide +kernel)) (fun _ => kitAny_nil) (fun z => Bool.noConfusion z)) (fun z => Bool.noConfusion z), false, rfl, ?_⟩
    exact iteF ⟨_, rfl, q _ _ k1 (.int i)⟩
  | tuple ds =>
    obtain ⟨a, xs, rfl, ha, hA⟩ := hv.tuple
    have hl : xs.length ≤ 1000 := by
      simp only [smD, Bool.and_eq_true, decide_eq_true_eq] at hs
      rw [hA.len]; exact hs.1
    have hss : smDs ds = true := by
      simp only [smD, Bool.and_eq_true] at hs
      exact hs.2
    have hdd : PyData.depthAll ds < n := by
      simp only [PyData.depth] at hd
      omega
    refine ⟨_, T, _, _, _, true, rfl, upd_same, .cons (.ty "list") (.cons (.ty "tuple") .nil), .base (.tup (k1 _ _ ha)),
      kitAny_cons (kit_ty (r := false) (by decide +kernel)) (fun _ => kitAny_cons (kit_ty (r := true) (by decide +kernel)) (fun z => Bool.noConfusion z) (fun _ => rfl)) (fun z => Bool.noConfusion z), true, rfl, ?_⟩
    refine iteT ?_
    refine ⟨_, rfl, a, rfl, ⟨_, SqT.of (k1 _ _ ha)⟩, fun D' hD' => ?_⟩
    refine lc_im (src_tup (k1 _ _ ha)) hD' hl (fun i => ds.take i) rfl (fun i => by rw [List.length_take]; omega) (fun i x H' hx e Q1 Q0 q1 q0 => ?_) (fun H' acc e hD2 hacc => ?_)
    · obtain ⟨d, hd1, hd2⟩ := hA.get hx
      refine ⟨rfl, ?_⟩
      refine ⟨_, rfl, x, d, rfl, hd2.sm (k1.trans e), Nat.lt_of_le_of_lt (depth_get hd1) hdd, smDs_get hss hd1, fun v' H4 e4 hv' => q1 v' H4 d e4 hv' ?_⟩
      rw [List.take_succ, hd1]; rfl
    · rw [hA.len, List.take_length] at hacc
      refine ⟨D', _, rfl, .inl ⟨SqL.of hD2, fun l hl' => ?_⟩⟩
      exact q _ _ (k1.trans (e.trans (same_new hl'))) (.tup upd_same (hacc.sm (same_new hl')))
  | none => cases hv
  | bool _ => cases hv
  | str _ => cases hv
  | list _ => cases hv
  | dict _ => cases hv
end
end Mk

set_option Elab.async false
set_option maxRecDepth 100000
set_option maxHeartbeats 4000000
set_option linter.all false
namespace Mk
open PySem PySem.Spec PyProof.Rows L2
/-- the given NODEs -/
abbrev Gn (g : List Nd) : Nd → Prop := fun y => y ∈ g
section
variable {P : Program} {w : World} {K : PySem.W.Frag} {mg : Str → Option Value} {base : Heap}
/-! ### has -/
abbrev sHas : Stmt := top 16
theorem scHas : FnScope ["given", "node", "part"] ["given", "node"] (C8.fnScope sHas) := C8.fnScope_by (by decide +kernel)
def spHas (n : Nat) : Sp := fun vs H Q _ => ∃ k gv v g x, n = k + 1 ∧ vs = [gv, v] ∧ Im H gv (gvP g) ∧ Im H v (ndP x) ∧ Ok x ∧ x.2 - x.1 ≤ 2 ^ k ∧ ∀ (b : Bool) H', Same H H' → (b = true ↔ Had (Gn g) x) → Q (.bl b) H'
/-- for every NODE of a log of up to 18 entries -/
def spHasA : Sp := fun vs H Q _ => ∃ gv v g x, vs = [gv, v] ∧ Im H gv (gvP g) ∧ Im H v (ndP x) ∧ Ok x ∧ ∀ (b : Bool) H', Same H H' → (b = true ↔ Had (Gn g) x) → Q (.bl b) H'
theorem two_items {H : Hp} {xs : List V} {d e : PyData} (h : ImAll H xs [d, e]) : ∃ u v, xs = [u, v] ∧ Im H u d ∧ Im H v e := by
  cases h with
  | cons h1 h2 =>
    cases h2 with
    | cons h2 h3 =>
      cases h3
      exact ⟨_, _, rfl, h1, h2⟩
theorem two_bools {bs : List Bool} (h : bs.length = 2) : ∃ b c, bs = [b, c] := by
  match bs, h with
  | [b, c], _ => exact ⟨b, c, rfl⟩
theorem ok_has (B : Bt mg) (D : DD K mg "has" sHas) (c1 : C8.Cal P w K mg base 1 "size_of" spSize []) (c2 : C8.Cal P w K mg base 2 "parts_of" spParts []) : ∀ n, C8.Cal P w K mg base (2 + n) "has" (spHas n) [] := by
  refine cal_rec D (ps := ["given", "node"]) (fun _ _ _ _ _ _ us hl => match us, hl with | [_, _], _ => rfl) (fun vs H Q E ⟨k, _, _, _, _, h, _⟩ => Nat.noConfusion h) (fun n c => ?_)
  refine cal_of D (fun _ _ _ _ _ _ us hl => match us, hl with | [_, _], _ => rfl) scHas (fun vs H Q E h => ?_) (fun f cdv A outer s H vs Q E hr h => ?_)
  · obtain ⟨k, gv, v, g, x, _, rfl, _⟩ := h
    rfl
  obtain ⟨k, gv, v, g, x, hk, rfl, hg, hv, o, hw, q⟩ := h
  have ek : n = k := Nat.succ.inj hk
  subst ek
  refine ⟨_, pss_one (ps_ret (pe_or (pe_cmpR (op_inU (hu65 hr)) (pv 1) (pv 0) (by rfl)) (pe_one (pe_and (pe_cmpR op_gt (C8.pe_c c1 hr (by omega) rfl (pa_cons (pv 1) pa_nil)) pe_int (nomark _))
    (pe_one (pe_callB (cr_all rfl) (by rfl) B.all (by decide +kernel) (pa_cons (pe_lc (own := [("part", 2)]) (g := gName 2) (tt := tYes) rfl scHas.nd (pi_tup (C8.pe_c c2 hr (by omega) rfl (pa_cons (pv 1) pa_nil)))
      (blkOk_by (N := ["given", "node", "part"]) (sc := C8.fnScope sHas) (by decide +kernel)) (fun _ _ _ _ _ => pg_name (i := 2) scHas.nd rfl (Or.inl rfl)) (fun _ _ _ _ _ => pts_nil)
      (fun _ _ _ _ _ => C8.pe_c c hr (Nat.le_refl _) rfl (pa_cons (pv 0) (pa_cons (pv 2) pa_nil)))) pa_nil))))))), ?_⟩
  refine ⟨_, rfl, _, rfl, in_nodes hv hg ⟨_, rfl, ?_⟩⟩
  refine ite2 (fun m => ?_) (fun m => ?_)
  · exact q true H (Same.refl H) ⟨fun _ => .here (of_decide_eq_true m), fun _ => rfl⟩
  · have m' : ¬ x ∈ g := fun z => m (decide_eq_true z)
    refine ⟨_, rfl, _, x, rfl, hv, _, _, rfl, rfl, _, rfl, ?_⟩
    refine ite2 (fun m2 => ?_) (fun m2 => ?_)
    · have hw2 : 2 ≤ x.2 - x.1 := by have := of_decide_eq_true m2; omega
      have hle : x.2 - x.1 ≤ 18 := by have := o.z; have := o.u; omega
      refine ⟨_, rfl, _, x, rfl, hv, o.l, by omega, fun z => absurd hw2 z, fun _ v' H1 k1 hv' => ?_⟩
      obtain ⟨a, xs, rfl, ha, hA⟩ := gv_inv hv'
      obtain ⟨u1, u2, rfl, hu1, hu2⟩ := two_items hA
      refine ⟨a, rfl, ⟨_, SqT.of ha⟩, fun D' hD' => ?_⟩
      refine lc_bl (src_tup ha) hD' (by show 2 ≤ 1000; decide) (fun i b => (i = 0 → (b = true ↔ Had (Gn g) (lo x))) ∧ (i = 1 → (b = true ↔ Had (Gn g) (hi x)))) (fun i u H2 hu e Q1 Q0 q1 => ?_) (fun H2 bs e hb hl hP => ?_)
      · match n, hw, c, hr with
        | 0, hw, _, _ => exact absurd hw (by simp; omega)
        | n + 1, hw, _, _ =>
          obtain ⟨h1, h2⟩ := half_le hw2 hw hle
          match i, hu with
          | 0, hu =>
            cases hu
            refine ⟨rfl, _, rfl, _, rfl, n, gv, u1, g, lo x, rfl, rfl, hg.sm (k1.trans e), hu1.sm e, o.lo hw2, h1, fun b H' e' hb => q1 b H' e' ⟨fun _ => hb, fun z => absurd z (by decide)⟩⟩
          | 1, hu =>
            cases hu
            refine ⟨rfl, _, rfl, _, rfl, n, gv, u2, g, hi x, rfl, rfl, hg.sm (k1.trans e), hu2.sm e, o.hi hw2, h2, fun b H' e' hb => q1 b H' e' ⟨fun z => absurd z (by decide), fun _ => hb⟩⟩
          | i + 2, hu => simp at hu
      · obtain ⟨b, c, rfl⟩ := two_bools hl
        have h0 := (hP 0 b rfl).1 rfl
        have h1 := (hP 1 c rfl).2 rfl
        refine ⟨D', [b, c], rfl, SqL.of hb, q _ H2 (k1.trans e) ?_⟩
        rw [had_iff]
        simp only [List.all_cons, List.all_nil, id, Bool.and_true, Bool.and_eq_true]
        rw [h0, h1]
        exact ⟨fun z => .inr ⟨hw2, z⟩, fun z => z.elim (fun y => absurd y m') fun y => y.2⟩
    · have hw2 : ¬ 2 ≤ x.2 - x.1 := fun z => m2 (decide_eq_true (by omega))
      refine q false H (Same.refl H) ⟨fun z => Bool.noConfusion z, fun z => ?_⟩
      rcases had_iff.mp z with y | y
      · exact absurd y m'
      · exact absurd y.1 hw2
theorem ok_hasA (h : ∀ n, C8.Cal P w K mg base (2 + n) "has" (spHas n) []) : C8.Cal P w K mg base 8 "has" spHasA [] := by
  obtain ⟨f, fd, ps, ds, F, r⟩ := (h 6).ex
  refine ⟨f, fd, ps, ds, F.imp fun vs H Q E z => ?_, r⟩
  obtain ⟨gv, v, g, x, h1, h2, h3, h4, h5⟩ := z
  exact ⟨5, gv, v, g, x, rfl, h1, h2, h3, h4, by have := h4.z; have := h4.u; show x.2 - x.1 ≤ 32; omega, h5⟩
/-! ### is_had -/
abbrev sIsHad : Stmt := top 17
theorem scIsHad : FnScope ["given", "node"] ["given", "node"] (C8.fnScope sIsHad) := C8.fnScope_by (by decide +kernel)
theorem ok_isHad (D : DD K mg "is_had" sIsHad) (c1 : C8.Cal P w K mg base 3 "tupled" (spTup 3) []) (c2 : C8.Cal P w K mg base 8 "has" spHasA []) :
    C8.Cal P w K mg base 9 "is_had" (fun vs H Q E => ∃ gv v g x, vs = [gv, v] ∧ Im H gv (gvP g) ∧ g.length ≤ 1000 ∧ Im H v (ndP x) ∧ Ok x ∧ ∀ (b : Bool) H', Same H H' → (b = true ↔ Had (Gn g) x) → Q (.bl b) H') [] := by
  refine cal_of D (fun _ _ _ _ _ _ us hl => match us, hl with | [_, _], _ => rfl) scIsHad (fun vs H Q E h => ?_) (fun f cdv A outer s H vs Q E hr h => ?_)
  · obtain ⟨gv, v, g, x, rfl, _⟩ := h
    rfl
  obtain ⟨gv, v, g, x, rfl, hg, hl, hv, o, q⟩ := h
  refine ⟨_, pss_one (ps_ret (C8.pe_c c2 hr (by decide) rfl (pa_cons (C8.pe_c c1 hr (by decide) rfl (pa_cons (pv 0) pa_nil)) (pa_cons (C8.pe_c c1 hr (by decide) rfl (pa_cons (pv 1) pa_nil)) pa_nil)))), ?_⟩
  refine ⟨_, rfl, gv, gvP g, rfl, hg, by have := dep_gv g; omega, sm_gv hl, fun gv' H1 k1 hg' => ?_⟩
  refine ⟨_, rfl, v, ndP x, rfl, hv.sm k1, by rw [nd_depth]; decide, sm_nd x, fun v' H2 k2 hv' => ?_⟩
  exact ⟨gv', v', g, x, rfl, hg'.sm k2, hv', o, fun b H' k hb => q b H' (k1.trans (k2.trans k)) hb⟩
end
end Mk

set_option Elab.async false
set_option maxRecDepth 100000
set_option maxHeartbeats 4000000
set_option linter.all false
namespace Mk
open PySem PySem.Spec PyProof.Rows L2
theorem take_fil_yes {α : Type} {p : α → Bool} {g : List α} {i : Nat} {z : α} (h : g[i]? = some z) (hp : p z = true) : (g.take (i + 1)).filter p = (g.take i).filter p ++ [z] := by
  rw [List.take_succ, h, List.filter_append]
  show _ ++ List.filter p [z] = _
  rw [List.filter_cons_of_pos hp]; rfl
theorem take_fil_no {α : Type} {p : α → Bool} {g : List α} {i : Nat} {z : α} (h : g[i]? = some z) (hp : p z = false) : (g.take (i + 1)).filter p = (g.take i).filter p := by
  rw [List.take_succ, h, List.filter_append]
  show _ ++ List.filter p [z] = _
  rw [List.filter_cons_of_neg (by rw [hp]; decide), List.filter_nil, List.append_nil]
theorem fil_fst {α : Type} {p : α → Bool} {a b : α} (h1 : p a = true) (h2 : p b = false) : [a, b].filter p = [a] := by
  rw [List.filter_cons_of_pos h1, List.filter_cons_of_neg (by rw [h2]; decide), List.filter_nil]
theorem fil_snd {α : Type} {p : α → Bool} {a b : α} (h1 : p a = false) (h2 : p b = true) : [a, b].filter p = [b] := by
  rw [List.filter_cons_of_neg (by rw [h1]; decide), List.filter_cons_of_pos h2, List.filter_nil]
/-- [x for x in NODEs if ..] -/
theorem lc_fil {J : It} {tt : TT} {j : Nat} {vs : List Nat} {σ : L2.St} {H1 : Hp} {D : Addr} {Qd : Hp → Prop} {xs : List V} {g : List Nd} (S : Src H1 J xs) (hD : H1 D = none) (hA : ImAll H1 xs (g.map ndP)) (hz : xs.length ≤ 1000) (p : Nd → Bool)
    (hw : ∀ x, wipe ((wipe σ vs).set j (some x)) vs = wipe σ vs) (hj : j < σ.length)
    (ht : ∀ (i : Nat) x z H, g[i]? = some z → Im H x (ndP z) → Same H1 H → ∀ Q : Bool → Hp → Prop, (∀ H', Same H H' → Q (p z) H') → tt ((wipe σ vs).set j (some x)) H Q)
    (hd : ∀ H acc, Same H1 H → H D = some (.lst acc) → ImAll H acc ((g.filter p).map ndP) → Qd H) :
    ∃ W : Nat → Nat → Hp → Prop, (∃ m, W 0 m (upd H1 D (.lst []))) ∧ ∀ i m H, W i m H →
      (J.stop i H ∧ Qd H) ∨ (J.go i H ∧ ∃ Nx : Hp → Prop, (∀ H', Nx H' → ∃ m', m' < m ∧ W (i + 1) m' H') ∧ ∀ x H', J.yld i H x H' → gName j x (wipe σ vs) H' fun σ2 H2 => wipe σ2 vs = wipe σ vs ∧ tt σ2 H2 fun b H3 =>
        if b = true then tVar j σ2 H3 fun y H4 => ∃ acc, H4 D = some (.lst acc) ∧ acc.length < sizeLine ∧ Nx (upd H4 D (.lst (acc ++ [y]))) else Nx H3) := by
  have hlen : xs.length = g.length := by rw [hA.len, List.length_map]
  refine lc_im S hD hz (fun i => ((g.take i).filter p).map ndP) rfl (fun i => ?_) (fun i x H hx e Q1 Q0 q1 q0 => ?_) (fun H acc e h1 h2 => hd H acc e h1 ?_)
  · rw [List.length_map]
    refine Nat.le_trans (List.length_filter_le _ _) ?_
    rw [List.length_take]; omega
  · obtain ⟨d, h1, h2⟩ := hA.get hx
    rw [List.getElem?_map] at h1
    cases hg : g[i]? with
    | none => rw [hg] at h1; cases h1
    | some z =>
      rw [hg] at h1
      cases h1
      have hz' : Im H x (ndP z) := h2.sm e
      refine ⟨hw x, ht i x z H hg hz' e _ fun H' e' => ?_⟩
      have hget : ((wipe σ vs).set j (some x))[j]? = some (some x) := List.getElem?_set_self (by rw [wipe_length]; exact hj)
      cases hp : p z with
      | true =>
        refine iteT ⟨x, hget, q1 x H' (ndP z) e' (hz'.sm e') ?_⟩
        rw [take_fil_yes hg hp, List.map_append]; rfl
      | false =>
        refine iteF (q0 H' e' ?_)
        rw [take_fil_no hg hp]
  · rw [hlen, List.take_length] at h2
    exact h2
section
variable {P : Program} {w : World} {K : PySem.W.Frag} {mg : Str → Option Value} {base : Heap}
/-! ### way_down -/
/-- below a NODE, with an entry -/
def PB (e : Int) (x z : Nd) : Prop := Below z x ∧ z.1 ≤ e ∧ e < z.2
theorem pb_end {e : Int} {x z : Nd} (h : ¬ 2 ≤ x.2 - x.1) (p : PB e x z) : z = x := by
  cases p.1 with
  | here => rfl
  | lo h' _ => exact absurd h' h
  | hi h' _ => exact absurd h' h
theorem pb_lo {e : Int} {x z : Nd} (h : 2 ≤ x.2 - x.1) (h1 : x.1 ≤ e) (h2 : e < md x) : PB e x z ↔ z = x ∨ PB e (lo x) z := by
  constructor
  · rintro ⟨b, p⟩
    cases b with
    | here => exact .inl rfl
    | lo _ b => exact .inr ⟨b, p⟩
    | hi _ b => have := b.within; rw [hi1] at this; omega
  · rintro (rfl | ⟨b, p⟩)
    · exact ⟨.here _, h1, by have := md_lt h; omega⟩
    · exact ⟨.lo h b, p⟩
theorem pb_hi {e : Int} {x z : Nd} (h : 2 ≤ x.2 - x.1) (h1 : md x ≤ e) (h2 : e < x.2) : PB e x z ↔ z = x ∨ PB e (hi x) z := by
  constructor
  · rintro ⟨b, p⟩
    cases b with
    | here => exact .inl rfl
    | hi _ b => exact .inr ⟨b, p⟩
    | lo _ b => have := b.within; rw [lo2] at this; omega
  · rintro (rfl | ⟨b, p⟩)
    · exact ⟨.here _, by have := md_gt z; omega, h2⟩
    · exact ⟨.hi h b, p⟩
abbrev sWay : Stmt := top 14
theorem scWay : FnScope ["node", "entry", "here", "found", "part"] ["node", "entry"] (C8.fnScope sWay) := C8.fnScope_by (by decide +kernel)
def spWay : Sp := fun vs H Q _ => ∃ v x e, vs = [v, .int e] ∧ Im H v (ndP x) ∧ Ok x ∧ x.1 ≤ e ∧ e < x.2 ∧
  ∀ (r : Addr) (ys : List V) (g : List Nd) (H' : Hp), Same H H' → H r = none → H' r = some (.lst ys) → ImAll H' ys (g.map ndP) → g.length ≤ 40 → (∀ y, y ∈ g ↔ PB e x y) → Q (.ref r) H'
theorem ok_way (D : DD K mg "way_down" sWay) (c1 : C8.Cal P w K mg base 3 "tupled" (spTup 3) []) (c2 : C8.Cal P w K mg base 1 "has_entry" spHasE []) (c3 : C8.Cal P w K mg base 1 "size_of" spSize []) (c4 : C8.Cal P w K mg base 2 "parts_of" spParts []) :
    C8.Cal P w K mg base 4 "way_down" spWay [] := by
  refine cal_of D (fun _ _ _ _ _ _ us hl => match us, hl with | [_, _], _ => rfl) scWay (fun vs H Q E h => ?_) (fun f cdv A outer s H vs Q E hr h => ?_)
  · obtain ⟨v, x, e, rfl, _⟩ := h
    rfl
  obtain ⟨v, x, e, rfl, hv, o, he1, he2, q⟩ := h
  refine ⟨_, pss_cons (ps_set (i := 2) scWay.nd rfl (Or.inl rfl) (C8.pe_c c1 hr (by decide) rfl (pa_cons (pv 0) pa_nil)))
    (pss_cons (ps_if (pt_not (pt_val (C8.pe_c c2 hr (by decide) rfl (pa_cons (pv 2) (pa_cons (pv 1) pa_nil))))) pss_never pss_nil)
    (pss_cons (ps_set (i := 3) scWay.nd rfl (Or.inl rfl) (pe_lst (pa_cons (pv 2) pa_nil)))
    (pss_cons (ps_while PassesOwn.never (pt_cmpR op_gt (C8.pe_c c3 hr (by decide) rfl (pa_cons (pv 2) pa_nil)) pe_int (nomark _))
      (pss_cons (ps_set (i := 2) scWay.nd rfl (Or.inl rfl) (pe_ix ix_list (pe_lc (own := [("part", 4)]) (g := gName 4) rfl scWay.nd (pi_tup (C8.pe_c c4 hr (by decide) rfl (pa_cons (pv 2) pa_nil)))
          (blkOk_by (N := ["node", "entry", "here", "found", "part"]) (sc := C8.fnScope sWay) (by decide +kernel)) (fun _ _ _ _ _ => pg_name (i := 4) scWay.nd rfl (Or.inl rfl))
          (fun _ _ _ _ _ => pts_one (pt_val (C8.pe_c c2 hr (by decide) rfl (pa_cons (pv 4) (pa_cons (pv 1) pa_nil))))) (fun _ _ _ _ _ => pv 4)) pe_int (fun _ _ => rfl)))
      (pss_one (ps_expr (pe_bm PySem.F.plainAttrs_list PySem.F.slot_list_append PySem.F.type_list_append mt_append (pv 3) (pa_cons (pv 2) pa_nil))))))
    (pss_one (ps_ret (pv 3)))))), ?_⟩
  refine ⟨_, rfl, v, ndP x, rfl, hv, by rw [nd_depth]; decide, sm_nd x, fun hv1 H1 k1 hn1 => ?_⟩
  refine ⟨_, rfl, _, rfl, hv1, x, e, rfl, hn1, _, rfl, ?_⟩
  rw [decide_eq_true (show x.1 ≤ e ∧ e < x.2 from ⟨he1, he2⟩)]
  refine iteF ?_
  refine ⟨_, rfl, (by show 1 ≤ sizeLine; decide), fun fr hfr => ?_⟩
  have k2 := same_new hfr (o := .lst [hv1])
  refine while_by (fun σ H' => ∃ (hy : V) (ys : List V) (g : List Nd) (y : Nd), σ = [some v, some (.int e), some hy, some (.ref fr), none] ∧ Same H1 H' ∧ H' fr = some (.lst ys) ∧ ImAll H' ys (g.map ndP) ∧ Im H' hy (ndP y) ∧ Ok y ∧ y.1 ≤ e ∧ e < y.2 ∧
      g.length + (y.2 - y.1).toNat ≤ 20 ∧ y ∈ g ∧ (∀ z, PB e x z ↔ z ∈ g ∨ PB e y z))
    (fun σ H' => match σ with | [_, _, some (.ref a), _, _] => (match H' a with | some (.tup [.int s, .int t]) => (t - s).toNat | _ => 0) | _ => 0)
    ⟨hv1, [hv1], [x], x, rfl, k2, upd_same, .cons (hn1.sm k2) .nil, hn1.sm k2, o, he1, he2, by have := o.z; have := o.u; simp only [List.length_singleton]; omega, List.mem_singleton.mpr rfl, fun z => ⟨.inr, fun h => h.elim (fun m => by rw [List.mem_singleton.mp m]; exact ⟨.here _, he1, he2⟩) id⟩⟩ ?_
    (fun σ H Q Q' k ⟨x1, e1, v, nx, e2, hnx, i, j, e3, e4, z, e5, q⟩ => ⟨x1, e1, v, nx, e2, hnx, i, j, e3, e4, z, e5, k _ _ q⟩)
  rintro σ H2 ⟨hy, ys, g, y, rfl, k3, hfr2, hys, hny, oy, hy1, hy2, hlen, hyg, hpb⟩
  refine ⟨_, rfl, _, y, rfl, hny, _, _, rfl, rfl, _, rfl, ?_⟩
  refine ite2 (fun c => ?_) (fun c => ?_)
  · have hw : 2 ≤ y.2 - y.1 := by have := of_decide_eq_true c; omega
    have hle : y.2 - y.1 ≤ 18 := by have := oy.z; have := oy.u; omega
    have g1 := md_gt y
    have g2 := md_lt hw
    refine ⟨_, rfl, hy, y, rfl, hny, oy.l, by omega, fun z => absurd hw z, fun _ pv' H3 k4 hpv => ?_⟩
    obtain ⟨a, xs, rfl, ha, hA⟩ := gv_inv hpv
    refine ⟨a, rfl, ⟨_, SqT.of ha⟩, fun D' hD' => ?_⟩
    refine lc_fil (src_tup ha) hD' hA (by rw [hA.len]; show 2 ≤ 1000; decide) (fun z => decide (z.1 ≤ e ∧ e < z.2)) (fun _ => rfl) (by show 4 < 5; decide) (fun i u z H4 hz hu e4 Q' q' => ?_) (fun H4 acc e4 hD4 hacc => ?_)
    · exact ⟨_, rfl, _, rfl, u, z, e, rfl, hu, _, rfl, q' H4 (Same.refl H4)⟩
    · -- the one part that has the entry
      obtain ⟨y', hf, ok', hb1, hb2, hpb', hlt⟩ : ∃ y', [lo y, hi y].filter (fun z => decide (z.1 ≤ e ∧ e < z.2)) = [y'] ∧ Ok y' ∧ y'.1 ≤ e ∧ e < y'.2 ∧ (∀ z, PB e y z ↔ z = y ∨ PB e y' z) ∧ (y'.2 - y'.1).toNat < (y.2 - y.1).toNat := by
        by_cases hm : e < md y
        · refine ⟨lo y, ?_, oy.lo hw, hy1, hm, fun z => pb_lo hw hy1 hm, by rw [lo1, lo2]; omega⟩
          exact fil_fst (decide_eq_true ⟨hy1, hm⟩) (decide_eq_false (by rw [hi1]; omega))
        · refine ⟨hi y, ?_, oy.hi hw, by rw [hi1]; omega, hy2, fun z => pb_hi hw (by omega) hy2, by rw [hi1, hi2]; omega⟩
          exact fil_snd (decide_eq_false (by rw [lo2]; omega)) (decide_eq_true ⟨by rw [hi1]; omega, hy2⟩)
      rw [hf] at hacc
      obtain ⟨u, rfl, hu⟩ : ∃ u, acc = [u] ∧ Im H4 u (ndP y') := by
        cases hacc with
        | cons h1 h2 => cases h2; exact ⟨_, rfl, h1⟩
      refine ⟨D', [u], 0, u, rfl, rfl, SqL.of hD4, rfl, ?_⟩
      have k5 : Same H1 H4 := k3.trans (k4.trans e4)
      have hfr4 : H4 fr = some (.lst ys) := e4 _ _ (k4 _ _ hfr2)
      refine ⟨_, rfl, .inl ⟨rfl, _, SqL.of hfr4⟩, _, rfl, fr, ys, u, rfl, rfl, hfr4, small1000 (by rw [hys.len, List.length_map]; omega), ?_⟩
      have kt : Kt H4 (upd H4 fr (.lst (ys ++ [u]))) := kt_lst hfr4
      refine ⟨⟨u, ys ++ [u], g ++ [y'], y', rfl, same_mut k5 hfr, upd_same, ?_, hu.by kt, ok', hb1, hb2, ?_, List.mem_append_right _ (List.mem_singleton.mpr rfl), fun z => ?_⟩, ?_⟩
      · rw [List.map_append]
        exact (((hys.sm (k4.trans e4)).by kt)).snoc (hu.by kt)
      · rw [List.length_append, List.length_singleton]; omega
      · rw [hpb z, hpb' z, List.mem_append, List.mem_singleton]
        constructor
        · rintro (h | rfl | h)
          · exact .inl (.inl h)
          · exact .inl (.inl hyg)
          · exact .inr h
        · rintro ((h | rfl) | h)
          · exact .inl h
          · exact .inr (.inr ⟨.here _, hb1, hb2⟩)
          · exact .inr (.inr h)
      · obtain ⟨t1, rfl, ht1⟩ := nd_inv (hu.by kt)
        obtain ⟨t2, rfl, ht2⟩ := nd_inv hny
        show (match upd H4 fr (.lst (ys ++ [V.ref t1])) t1 with | some (.tup [.int s, .int t]) => (t - s).toNat | _ => 0) < (match H2 t2 with | some (.tup [.int s, .int t]) => (t - s).toNat | _ => 0)
        rw [ht1, ht2]
        exact hlt
  · have hw : ¬ 2 ≤ y.2 - y.1 := fun z => c (decide_eq_true (by omega))
    refine ⟨_, rfl, q fr ys g H2 (k1.trans k3) (Same.free k1 hfr) hfr2 hys (by omega) fun z => ?_⟩
    rw [hpb z]
    exact ⟨.inl, fun h => h.elim id fun p => by rw [pb_end hw p]; exact hyg⟩
end
end Mk

set_option Elab.async false
set_option maxRecDepth 100000
set_option maxHeartbeats 4000000
set_option linter.all false
namespace Mk
open PySem PySem.Spec PyProof.Rows L2
/-- any loop whose turns are told by a word: I, by the turn and the heap -/
theorem loop_by {J : It} {B : V → Hp → (Hp → Prop) → Prop} {Qd : Hp → Prop} {H0 : Hp} (xs : List V) (I : Nat → Hp → Prop) (h0 : I 0 H0)
    (hJ : ∀ i H, I i H → (i < xs.length → J.go i H) ∧ (i = xs.length → J.stop i H) ∧ ∀ x H', i < xs.length → J.yld i H x H' → H' = H ∧ xs[i]? = some x)
    (hs : ∀ i x H, xs[i]? = some x → I i H → B x H (I (i + 1))) (hd : ∀ H, I xs.length H → Qd H) :
    ∃ W : Nat → Nat → Hp → Prop, (∃ m, W 0 m H0) ∧ ∀ i m H, W i m H →
      (J.stop i H ∧ Qd H) ∨ (J.go i H ∧ ∃ Nx : Hp → Prop, (∀ H', Nx H' → ∃ m', m' < m ∧ W (i + 1) m' H') ∧ ∀ x H', J.yld i H x H' → B x H' Nx) := by
  refine ⟨fun i m H => m = xs.length - i ∧ i ≤ xs.length ∧ I i H, ⟨xs.length, by simp, Nat.zero_le _, h0⟩, ?_⟩
  rintro i m H ⟨rfl, hi, p⟩
  obtain ⟨j1, j2, j3⟩ := hJ i H p
  by_cases hlt : i < xs.length
  · refine .inr ⟨j1 hlt, I (i + 1), fun H' p' => ⟨xs.length - (i + 1), by omega, rfl, hlt, p'⟩, fun x H' y => ?_⟩
    obtain ⟨e, hx⟩ := j3 x H' hlt y
    subst e
    exact hs i x _ hx p
  · have e : i = xs.length := by omega
    exact .inl ⟨j2 e, hd H (by rw [← e]; exact p)⟩
theorem it_tup {K : PySem.W.Frag} {a : Addr} {xs : List V} {H : Hp} (h : H a = some (.tup xs)) (i : Nat) : (i < xs.length → (Itt K a).go i H) ∧ (i = xs.length → (Itt K a).stop i H) ∧ ∀ x H', i < xs.length → (Itt K a).yld i H x H' → H' = H ∧ xs[i]? = some x :=
  ⟨fun hi => ⟨xs, xs[i], SqT.of h, List.getElem?_eq_getElem hi⟩, fun e => ⟨xs, SqT.of h, Nat.le_of_eq e.symm⟩, fun x H' _ y => ⟨y.1, y.2 xs (SqT.of h)⟩⟩
theorem it_lst {K : PySem.W.Frag} {a : Addr} {xs : List V} {H : Hp} (h : H a = some (.lst xs)) (i : Nat) : (i < xs.length → (Itl K a).go i H) ∧ (i = xs.length → (Itl K a).stop i H) ∧ ∀ x H', i < xs.length → (Itl K a).yld i H x H' → H' = H ∧ xs[i]? = some x :=
  ⟨fun hi => ⟨xs, xs[i], SqL.of h, List.getElem?_eq_getElem hi⟩, fun e => ⟨xs, SqL.of h, Nat.le_of_eq e.symm⟩, fun x H' _ y => ⟨y.1, y.2 xs (SqL.of h)⟩⟩
section
variable {P : Program} {w : World} {K : PySem.W.Frag} {mg : Str → Option Value} {base : Heap}
/-! ### paper_of -/
abbrev sPaper : Stmt := top 19
theorem scPaper : FnScope ["given", "node", "some", "here", "part", "own"] ["given", "node"] (C8.fnScope sPaper) := C8.fnScope_by (by decide +kernel)
/-- what it hands back: nothing, or a tuple of not too many -/
def rPaper (g : List Nd) (x : Nd) (H : Hp) (Q : VK) : Prop := (¬ Had (Gn g) x → ∀ H', Same H H' → Q .non H') ∧
  (Had (Gn g) x → ∀ (r : Addr) (ys : List V) (H' : Hp), Same H H' → H' r = some (.tup ys) → (ys.length : Int) ≤ x.2 - x.1 → Q (.ref r) H')
def papL (x : Nd) : Nat → Int
  | 0 => 0
  | 1 => md x - x.1
  | _ => x.2 - x.1
def spPaper (n : Nat) : Sp := fun vs H Q _ => ∃ k gv v g x, n = k + 1 ∧ vs = [gv, v] ∧ Im H gv (gvP g) ∧ g.length ≤ 1000 ∧ Im H v (ndP x) ∧ Ok x ∧ x.2 - x.1 ≤ 2 ^ k ∧ rPaper g x H Q
def spPaperA : Sp := fun vs H Q _ => ∃ gv v g x, vs = [gv, v] ∧ Im H gv (gvP g) ∧ g.length ≤ 1000 ∧ Im H v (ndP x) ∧ Ok x ∧ rPaper g x H Q
theorem ok_paper (D : DD K mg "paper_of" sPaper) (B : Bt mg) (c1 : C8.Cal P w K mg base 3 "tupled" (spTup 3) []) (c2 : C8.Cal P w K mg base 8 "has" spHasA []) (c3 : C8.Cal P w K mg base 2 "parts_of" spParts []) :
    ∀ n, C8.Cal P w K mg base (8 + n) "paper_of" (spPaper n) [] := by
  refine cal_rec D (ps := ["given", "node"]) (fun _ _ _ _ _ _ us hl => match us, hl with | [_, _], _ => rfl) (fun vs H Q E ⟨k, _, _, _, _, h, _⟩ => Nat.noConfusion h) (fun n c => ?_)
  refine cal_of D (fun _ _ _ _ _ _ us hl => match us, hl with | [_, _], _ => rfl) scPaper (fun vs H Q E h => ?_) (fun f cdv A outer s H vs Q E hr h => ?_)
  · obtain ⟨k, gv, v, g, x, _, rfl, _⟩ := h
    rfl
  obtain ⟨k, gv, v, g, x, hk, rfl, hg, hgl, hv, o, hw, q0, q1⟩ := h
  have ek : n = k := Nat.succ.inj hk
  subst ek
  refine ⟨_, pss_cons (ps_asg (pe_tup (pa_cons (C8.pe_c c1 hr (by omega) rfl (pa_cons (pv 0) pa_nil)) (pa_cons (C8.pe_c c1 hr (by omega) rfl (pa_cons (pv 1) pa_nil)) pa_nil)))
      (pg_tup (by rfl) (pgs_cons (pg_name (i := 2) scPaper.nd rfl (Or.inr rfl)) (pgs_cons (pg_name (i := 3) scPaper.nd rfl (Or.inl rfl)) pgs_nil))))
    (pss_cons (ps_if (pt_not (pt_val (C8.pe_c c2 hr (by omega) rfl (pa_cons (pv 2) (pa_cons (pv 3) pa_nil))))) (pss_one (ps_ret pe_non)) pss_nil)
    (pss_cons (ps_if (pt_cmpR (op_inU (hu65 hr)) (pv 3) (pv 2) (by rfl)) (pss_one (ps_ret (pe_tup (pa_cons (pv 3) pa_nil)))) pss_nil)
    (pss_one (ps_ret (pe_callTy call_tuple_of (by rfl) B.tuple (by decide +kernel) (pa_cons (pe_lc2 (own := [("part", 4), ("own", 5)]) (vs1 := [5]) (g := gName 4) (tt := tYes) (wi1 := iTup K (tCall (spPaper n) [] C8.E0 (tCons (tVar 2) (tCons (tVar 4) tNil)))) (g1 := gName 5) (tt1 := tYes) rfl scPaper.nd (pi_tup (C8.pe_c c3 hr (by omega) rfl (pa_cons (pv 3) pa_nil)))
      (blkOk_by (N := ["given", "node", "some", "here", "part", "own"]) (sc := C8.fnScope sPaper) (by decide +kernel)) (by decide) (fun _ _ _ _ _ => pg_name (i := 4) scPaper.nd rfl (Or.inl rfl)) (fun _ _ _ _ _ => pts_nil)
      (fun _ _ _ _ _ => pi_tup (C8.pe_c c hr (Nat.le_refl _) rfl (pa_cons (pv 2) (pa_cons (pv 4) pa_nil)))) (fun _ _ _ _ _ => pg_name (i := 5) scPaper.nd rfl (Or.inl rfl)) (fun _ _ _ _ _ => pts_nil) (fun _ _ _ _ _ => pv 5)) pa_nil)))))), ?_⟩
  refine ⟨_, rfl, gv, gvP g, rfl, hg, by have := dep_gv g; omega, sm_gv hgl, fun gv' H1 k1 hg' => ?_⟩
  refine ⟨_, rfl, v, ndP x, rfl, hv.sm k1, by rw [nd_depth]; decide, sm_nd x, fun v' H2 k2 hv' => ?_⟩
  refine ⟨(by show 2 ≤ sizeLine; decide), fun p hp => ?_⟩
  have k3 := same_new hp (o := .tup [gv', v'])
  have hg3 := (hg'.sm k2).sm k3
  have hv3 := hv'.sm k3
  generalize hH3 : upd H2 p (.tup [gv', v']) = H3 at k3 hg3 hv3
  have hp3 : H3 p = some (.tup [gv', v']) := by rw [← hH3]; exact upd_same
  refine ⟨p, _, rfl, SqT.of hp3, rfl, _, _, rfl, _, _, rfl, rfl, ?_⟩
  have k03 : Same H H3 := k1.trans (k2.trans k3)
  refine ⟨_, rfl, _, rfl, gv', v', g, x, rfl, hg3, hv3, o, fun b H4 k4 hb => ?_⟩
  have k04 : Same H H4 := k03.trans k4
  refine ⟨b, rfl, ?_⟩
  cases b with
  | false =>
    refine iteT ?_
    exact q0 (fun z => Bool.noConfusion (hb.mpr z)) H4 k04
  | true =>
    have hd : Had (Gn g) x := hb.mp rfl
    refine iteF ?_
    refine ⟨_, rfl, _, rfl, in_nodes (hv3.sm k4) (hg3.sm k4) ⟨_, rfl, ?_⟩⟩
    refine ite2 (fun m => ?_) (fun m => ?_)
    · refine ⟨_, rfl, (by show 1 ≤ sizeLine; decide), fun r hr' => ?_⟩
      exact q1 hd r [v'] _ (k04.trans (same_new hr')) upd_same (by have := o.l; simp only [List.length_singleton]; omega)
    · have m' : ¬ x ∈ g := fun z => m (decide_eq_true z)
      obtain ⟨hw2, hlo, hhi⟩ : 2 ≤ x.2 - x.1 ∧ Had (Gn g) (lo x) ∧ Had (Gn g) (hi x) := (had_iff.mp hd).elim (fun z => absurd z m') id
      have hle : x.2 - x.1 ≤ 18 := by have := o.z; have := o.u; omega
      have g1 := md_gt x
      have g2 := md_lt hw2
      refine ⟨_, rfl, v', x, rfl, hv3.sm k4, o.l, by omega, fun z => absurd hw2 z, fun _ pv' H5 k5 hpv => ?_⟩
      obtain ⟨a, xs, rfl, ha, hA⟩ := gv_inv hpv
      obtain ⟨u1, u2, rfl, hu1, hu2⟩ := two_items hA
      refine ⟨a, rfl, ⟨_, SqT.of ha⟩, fun D' hD' => ?_⟩
      have k05 : Same H H5 := k04.trans k5
      have hg5 : Im H5 gv' (gvP g) := (hg3.sm k4).sm k5
      refine loop_by [u1, u2] (fun i H' => Same H5 H' ∧ ∃ acc, H' D' = some (.lst acc) ∧ ((acc.length : Nat) : Int) ≤ papL x i)
        ⟨same_new hD', [], upd_same, Int.le_refl 0⟩ (fun i H' p => it_tup (p.1 _ _ ha) i) (fun i u H6 hu ⟨k6, acc, hacc, hlen⟩ => ?_) (fun H6 ⟨k6, acc, hacc, hlen⟩ => ?_)
      · refine ⟨rfl, ?_⟩
        obtain ⟨y, hyn, hy, oy, hyw, hyl⟩ : ∃ y, Im H5 u (ndP y) ∧ Had (Gn g) y ∧ Ok y ∧ (∃ k', n = k' + 1 ∧ y.2 - y.1 ≤ 2 ^ k') ∧ (∀ m : Int, m ≤ papL x i → m + (y.2 - y.1) ≤ papL x (i + 1)) := by
          have hn : ∃ k', n = k' + 1 ∧ md x - x.1 ≤ 2 ^ k' ∧ x.2 - md x ≤ 2 ^ k' := by
            match n, hw with
            | 0, hw => exact absurd hw (by simp; omega)
            | n + 1, hw => exact ⟨n, rfl, half_le hw2 hw hle⟩
          obtain ⟨k', rfl, e1, e2⟩ := hn
          match i, hu with
          | 0, hu => cases hu; exact ⟨lo x, hu1, hlo, o.lo hw2, ⟨k', rfl, e1⟩, fun m hm => by rw [lo1, lo2]; show m + (md x - x.1) ≤ md x - x.1; have hm : m ≤ 0 := hm; omega⟩
          | 1, hu => cases hu; exact ⟨hi x, hu2, hhi, o.hi hw2, ⟨k', rfl, e2⟩, fun m hm => by rw [hi1, hi2]; show m + (x.2 - md x) ≤ x.2 - x.1; have hm : m ≤ md x - x.1 := hm; omega⟩
          | i + 2, hu => simp at hu
        obtain ⟨k', hk', hyw⟩ := hyw
        refine ⟨_, rfl, _, rfl, k', gv', u, g, y, hk', rfl, hg5.sm k6, hgl, hyn.sm k6, oy, hyw, fun z => absurd hy z, fun _ r ys H7 k7 hr7 hys => ?_⟩
        refine ⟨r, rfl, ⟨_, SqT.of hr7⟩, ?_⟩
        have hD7 : H7 D' = some (.lst acc) := k7 _ _ hacc
        refine loop_by ys (fun j H' => Same H5 H' ∧ H' r = some (.tup ys) ∧ ∃ acc', H' D' = some (.lst acc') ∧ acc'.length = acc.length + j) ⟨k6.trans k7, hr7, acc, hD7, rfl⟩
          (fun j H' p => it_tup p.2.1 j) (fun j z H8 hz ⟨k8, hr8, acc', hD8, hl8⟩ => ?_) (fun H8 ⟨k8, hr8, acc', hD8, hl8⟩ => ?_)
        · have hj : j < ys.length := (List.getElem?_eq_some_iff.mp hz).1
          refine ⟨rfl, z, rfl, acc', hD8, ?_, ?_⟩
          · have := hyl _ hlen
            have h18 : papL x (i + 1) ≤ x.2 - x.1 := by
              match i with
              | 0 => show md x - x.1 ≤ x.2 - x.1; omega
              | i + 1 => exact Int.le_refl _
            exact small1000 (by omega)
          · exact ⟨same_mut k8 hD', (kt_lst hD8) _ _ hr8, acc' ++ [z], upd_same, by rw [List.length_append, List.length_singleton]; omega⟩
        · exact ⟨k8, acc', hD8, by rw [hl8]; have := hyl _ hlen; omega⟩
      · have hlen' : ((acc.length : Nat) : Int) ≤ x.2 - x.1 := hlen
        refine ⟨D', acc, rfl, .inl ⟨SqL.of hacc, fun l hl => ?_⟩⟩
        exact q1 hd l acc _ (k05.trans (k6.trans (same_new hl))) upd_same hlen'
theorem ok_paperA (h : ∀ n, C8.Cal P w K mg base (8 + n) "paper_of" (spPaper n) []) : C8.Cal P w K mg base 14 "paper_of" spPaperA [] := by
  obtain ⟨f, fd, ps, ds, F, r⟩ := (h 6).ex
  refine ⟨f, fd, ps, ds, F.imp fun vs H Q E z => ?_, r⟩
  obtain ⟨gv, v, g, x, h1, h2, h3, h4, h5, h6⟩ := z
  exact ⟨5, gv, v, g, x, rfl, h1, h2, h3, h4, h5, by have := h5.z; have := h5.u; show x.2 - x.1 ≤ 32; omega, h6⟩
end
end Mk

set_option Elab.async false
set_option maxRecDepth 100000
set_option maxHeartbeats 4000000
set_option linter.all false
namespace Mk
open PySem PySem.Spec PyProof.Rows L2
/-- the scope of a comprehension that a statement hands back -/
def retScope : Stmt → Scope
  | .Return (some (.ListComp _ _ sc _)) _ => sc
  | _ => ⟨.function, [], false, false, []⟩
def bodyAt (s : Stmt) (i : Nat) : Stmt := (C8.fnBody s).getD i (.Pass ⟨0, 0, 0, 0⟩)
section
variable {P : Program} {w : World} {K : PySem.W.Frag} {mg : Str → Option Value} {base : Heap}
/-! ### open_entries -/
abbrev sOpen : Stmt := top 20
theorem scOpen : FnScope ["given", "node", "some", "entry", "own"] ["given", "node"] (C8.fnScope sOpen) := C8.fnScope_by (by decide +kernel)
def spOpen : Sp := fun vs H Q _ => ∃ gv v g x, vs = [gv, v] ∧ Im H gv (gvP g) ∧ g.length ≤ 1000 ∧ Im H v (ndP x) ∧ Ok x ∧
  ∀ (r : Addr) (es : List Int) (H' : Hp), Same H H' → H r = none → H' r = some (.lst (es.map V.int)) → (∀ e, e ∈ es ↔ Open (Gn g) x e) → Q (.ref r) H'
theorem any_in {H : Hp} {bs : List Bool} {ns g : List Nd} (hl : bs.length = ns.length) (hP : ∀ (i : Nat) b, bs[i]? = some b → ∃ z, ns[i]? = some z ∧ b = decide (z ∈ g)) : bs.any id = true ↔ ∃ z, z ∈ ns ∧ z ∈ g := by
  rw [List.any_eq_true]
  constructor
  · rintro ⟨b, hb, hbt⟩
    obtain ⟨i, hi⟩ := List.getElem?_of_mem hb
    obtain ⟨z, h1, h2⟩ := hP i b hi
    exact ⟨z, List.mem_of_getElem? h1, of_decide_eq_true (h2 ▸ hbt)⟩
  · rintro ⟨z, h1, h2⟩
    obtain ⟨i, hi⟩ := List.getElem?_of_mem h1
    have hlt : i < bs.length := by rw [hl]; exact (List.getElem?_eq_some_iff.mp hi).1
    obtain ⟨z', h3, h4⟩ := hP i bs[i] (List.getElem?_eq_getElem hlt)
    rw [hi] at h3
    cases h3
    exact ⟨bs[i], List.getElem_mem hlt, by rw [h4]; exact decide_eq_true h2⟩
theorem ok_open (D : DD K mg "open_entries" sOpen) (B : Bt mg) (c1 : C8.Cal P w K mg base 3 "tupled" (spTup 3) []) (c2 : C8.Cal P w K mg base 4 "way_down" spWay []) : C8.Cal P w K mg base 5 "open_entries" spOpen [] := by
  refine cal_of D (fun _ _ _ _ _ _ us hl => match us, hl with | [_, _], _ => rfl) scOpen (fun vs H Q E h => ?_) (fun f cdv A outer s H vs Q E hr h => ?_)
  · obtain ⟨gv, v, g, x, rfl, _⟩ := h
    rfl
  obtain ⟨gv, v, g, x, rfl, hg, hgl, hv, o, q⟩ := h
  refine ⟨_, pss_cons (ps_set (i := 2) scOpen.nd rfl (Or.inr rfl) (C8.pe_c c1 hr (by decide) rfl (pa_cons (pv 0) pa_nil)))
    (pss_one (ps_ret (pe_lc (own := [("entry", 3)]) (g := gName 3) rfl scOpen.nd (pi_range2 (by rfl) B.range (pa_cons (pe_ix ix_tup (pv 1) pe_int (fun _ _ => rfl)) (pa_cons (pe_ix ix_tup (pv 1) pe_int (fun _ _ => rfl)) pa_nil)))
      (blkOk_by (N := ["given", "node", "some", "entry", "own"]) (sc := C8.fnScope sOpen) (by decide +kernel)) (fun _ _ _ _ _ => pg_name (i := 3) scOpen.nd rfl (Or.inl rfl))
      (fun _ _ _ _ _ => pts_one (pt_not (pt_val (pe_callB (r := rAny K) (cr_any rfl) (by rfl) B.any (by decide +kernel) (pa_cons (pe_lc (own := [("own", 4)]) (wi := iList K (tCall spWay [] C8.E0 (tCons (tVar 1) (tCons (tVar 3) tNil)))) (g := gName 4) (tt := tYes) (te := tOp (rInU K) (tVar 4) (tVar 2)) rfl scOpen.nd
          (pi_list (C8.pe_c c2 hr (by decide) rfl (pa_cons (pv 1) (pa_cons (pv 3) pa_nil)))) (blkOk_by (N := ["given", "node", "some", "entry", "own"]) (sc := relS (retScope (bodyAt sOpen 1)) (C8.fnScope sOpen)) (by decide +kernel))
          (fun _ _ _ _ _ => pg_name (i := 4) scOpen.nd rfl (Or.inl rfl)) (fun _ _ _ _ _ => pts_nil) (fun _ _ _ _ _ => pe_cmpR (r := rInU K) (op_inU (hu65 hr)) (pv 4) (pv 2) (by rfl))) pa_nil)))))
      (fun _ _ _ _ _ => pv 3)))), ?_⟩
  refine ⟨_, rfl, gv, gvP g, rfl, hg, by have := dep_gv g; omega, sm_gv hgl, fun gv' H1 k1 hg' => ?_⟩
  have hv1 := hv.sm k1
  obtain ⟨a, rfl, ha⟩ := nd_inv hv1
  have z0 := o.z
  have z1 := o.u
  have z2 := o.l
  refine ⟨_, rfl, _, _, _, _, rfl, rfl, SqT.of ha, rfl, _, rfl, _, _, _, _, rfl, rfl, SqT.of ha, rfl, x.1, x.2, rfl, ⟨by omega, by omega, by omega, by omega⟩, fun D' hD' => ?_⟩
  refine lc_src src_rng hD' (by rw [List.length_map, List.length_range]; omega) (fun i H' acc => ∃ es : List Int, acc = es.map V.int ∧ es.length ≤ i ∧ ∀ e, e ∈ es ↔ (e < x.1 + i ∧ Open (Gn g) x e))
    (fun H' => ⟨[], rfl, Nat.le_refl 0, fun e => ⟨fun z => absurd z List.not_mem_nil, fun z => absurd z.2.1 (by have := z.1; simp at this; omega)⟩⟩)
    (fun i H' acc ⟨es, h1, h2, _⟩ => by rw [h1, List.length_map]; exact h2) (fun i u H2 acc hu k2 hD2 ⟨es, h1, h2, h3⟩ Q1 Q0 q1 q0 => ?_) (fun H2 acc k2 hD2 ⟨es, h1, h2, h3⟩ => ?_)
  · rw [List.getElem?_map] at hu
    have hi : i < (x.2 - x.1).toNat := by
      by_cases hlt : i < (x.2 - x.1).toNat
      · exact hlt
      · rw [List.getElem?_eq_none (by rw [List.length_range]; omega)] at hu
        cases hu
    rw [List.getElem?_range hi] at hu
    have eu : u = .int (x.1 + (i : Int)) := (Option.some.inj hu).symm
    subst eu
    have hv2 := hv1.sm k2
    have he2 : x.1 + (i : Int) < x.2 := by omega
    refine ⟨rfl, _, rfl, _, rfl, .ref a, x, _, rfl, hv2, o, by omega, he2, fun r ys ns H3 k3 hr3 hr3' hys hnl hns => ?_⟩
    have hl3 : ys.length ≤ 1000 := by rw [hys.len, List.length_map]; omega
    refine ⟨r, rfl, ⟨_, SqL.of hr3'⟩, fun D2 hD2' => ?_⟩
    refine lc_bl (src_lst hr3') hD2' hl3 (fun j b => ∃ z, ns[j]? = some z ∧ b = decide (z ∈ g)) (fun j u H4 hu4 k4 Q1' Q0' q1' => ?_) (fun H4 bs k4 hb hl hP => ?_)
    · obtain ⟨d, hd1, hd2⟩ := hys.get hu4
      rw [List.getElem?_map] at hd1
      cases hz : ns[j]? with
      | none => rw [hz] at hd1; cases hd1
      | some z =>
        rw [hz] at hd1
        cases hd1
        exact ⟨rfl, _, rfl, _, rfl, in_nodes (hd2.sm k4) (((hg'.sm k2).sm k3).sm k4) (q1' _ H4 (Same.refl H4) ⟨z, hz, rfl⟩)⟩
    · have hany := any_in (H := H4) (g := g) (by rw [hl, hys.len, List.length_map]) hP
      refine ⟨D2, bs, rfl, SqL.of hb, _, rfl, ?_⟩
      have hop : Open (Gn g) x (x.1 + (i : Int)) ↔ ¬ ∃ z, z ∈ ns ∧ z ∈ g := by
        constructor
        · rintro ⟨_, _, h⟩ ⟨z, m1, m2⟩
          have p := (hns z).mp m1
          exact h z p.1 p.2.1 p.2.2 m2
        · intro h
          exact ⟨by omega, he2, fun y b y1 y2 hy => h ⟨y, (hns y).mpr ⟨b, y1, y2⟩, hy⟩⟩
      have k24 : Same H2 H4 := k3.trans k4
      cases hb' : bs.any id with
      | true =>
        refine iteF (q0 H4 k24 ⟨es, h1, by omega, fun e => ?_⟩)
        rw [h3 e]
        have hno : ¬ Open (Gn g) x (x.1 + (i : Int)) := fun z => hop.mp z (hany.mp hb')
        constructor
        · rintro ⟨e1, e2⟩; exact ⟨by omega, e2⟩
        · rintro ⟨e1, e2⟩
          refine ⟨?_, e2⟩
          by_cases hlt : e < x.1 + (i : Int)
          · exact hlt
          · exact absurd (show Open (Gn g) x (x.1 + (i : Int)) by rw [show x.1 + (i : Int) = e by omega]; exact e2) hno
      | false =>
        have hyes : Open (Gn g) x (x.1 + (i : Int)) := hop.mpr fun z => by rw [hany.mpr z] at hb'; cases hb'
        refine iteT ⟨_, rfl, q1 _ H4 k24 ⟨es ++ [x.1 + (i : Int)], by rw [h1, List.map_append]; rfl, by rw [List.length_append, List.length_singleton]; omega, fun e => ?_⟩⟩
        rw [List.mem_append, List.mem_singleton, h3 e]
        constructor
        · rintro (⟨e1, e2⟩ | rfl)
          · exact ⟨by omega, e2⟩
          · exact ⟨by omega, hyes⟩
        · rintro ⟨e1, e2⟩
          by_cases hlt : e < x.1 + (i : Int)
          · exact .inl ⟨hlt, e2⟩
          · exact .inr (by omega)
  · rw [List.length_map, List.length_range] at h3
    rw [h1] at hD2
    refine q D' es H2 (k1.trans k2) (Same.free k1 hD') hD2 fun e => ?_
    rw [h3 e]
    exact ⟨fun z => z.2, fun z => ⟨by have := z.2.1; omega, z⟩⟩
end
end Mk

set_option Elab.async false
set_option maxRecDepth 100000
set_option maxHeartbeats 4000000
set_option linter.all false
namespace Mk
open PySem PySem.Spec PyProof.Rows L2
theorem small5000 {n : Nat} (h : n ≤ 5000) : n < sizeLine := Nat.lt_of_le_of_lt h (by decide)
theorem put_keys {kvs : List (Key × V)} {ks : List Int} (h : kvs.map (·.1) = ks.map Sum.inl) (k : Int) (z : V) :
    ∃ ks' : List Int, (putK kvs (Sum.inl k) z).map (·.1) = ks'.map Sum.inl ∧ ks'.length ≤ ks.length + 1 ∧ ∀ j, j ∈ ks' ↔ j ∈ ks ∨ j = k := by
  unfold putK
  have hin : ∀ j : Int, (kvs.any fun kv => decide (kv.1 = Sum.inl j)) = true ↔ j ∈ ks := fun j => by
    rw [List.any_eq_true]
    constructor
    · rintro ⟨p, hp, e⟩
      have e' := of_decide_eq_true e
      have m : p.1 ∈ kvs.map (·.1) := List.mem_map.mpr ⟨p, hp, rfl⟩
      rw [h, e'] at m
      obtain ⟨i, hi, ei⟩ := List.mem_map.mp m
      cases ei
      exact hi
    · intro m
      have m' : (Sum.inl j : Key) ∈ kvs.map (·.1) := by rw [h]; exact List.mem_map.mpr ⟨j, m, rfl⟩
      obtain ⟨p, hp, e⟩ := List.mem_map.mp m'
      exact ⟨p, hp, decide_eq_true e⟩
  split
  · rename_i hc
    have hk := (hin k).mp hc
    refine ⟨ks, ?_, Nat.le_succ _, fun j => ⟨.inl, fun z => z.elim id fun e => by rw [e]; exact hk⟩⟩
    rw [← h, List.map_map]
    refine List.map_congr_left fun p _ => ?_
    show (if p.1 = Sum.inl k then (p.1, z) else p).1 = p.1
    split <;> rfl
  · refine ⟨ks ++ [k], ?_, by rw [List.length_append, List.length_singleton]; exact Nat.le_refl _, fun j => by rw [List.mem_append, List.mem_singleton]⟩
    rw [List.map_append, List.map_append, h]; rfl
/-- {a: True for start, end in NODEs}: the numbers that are met -/
theorem dc_proj {K : PySem.W.Frag} {a D : Addr} {xs : List V} {g : List Nd} {σ : L2.St} {H1 : Hp} {Qd : Hp → Prop} (ha : H1 a = some (.tup xs)) (hA : ImAll H1 xs (g.map ndP)) (hD : H1 D = none) (hgl : g.length ≤ 63) (j : Nat) (π : Nd → Int)
    (hj : ∀ x : Nd, (((wipe σ [4, 5]).set 4 (some (.int x.1))).set 5 (some (.int x.2)))[j]? = some (some (.int (π x))))
    (hw : ∀ u v, wipe (((wipe σ [4, 5]).set 4 u).set 5 v) [4, 5] = wipe σ [4, 5])
    (hd : ∀ (H : Hp) (kvs : List (Key × V)) (ks : List Int), Same H1 H → H D = some (.dK kvs) → kvs.map (·.1) = ks.map Sum.inl → ks.length ≤ 63 → (∀ k, k ∈ ks ↔ ∃ y, y ∈ g ∧ π y = k) → Qd H) :
    ∃ W : Nat → Nat → Hp → Prop, (∃ m, W 0 m (upd H1 D (.dK []))) ∧ ∀ i m H, W i m H →
      ((Itt K a).stop i H ∧ Qd H) ∨ ((Itt K a).go i H ∧ ∃ Nx : Hp → Prop, (∀ H', Nx H' → ∃ m', m' < m ∧ W (i + 1) m' H') ∧ ∀ x H', (Itt K a).yld i H x H' → gTup K 2 (gCons (gName 4) (gCons (gName 5) gNil)) x (wipe σ [4, 5]) H' fun σ2 H2 =>
        wipe σ2 [4, 5] = wipe σ [4, 5] ∧ tYes σ2 H2 fun b H3 =>
        if b = true then tVar j σ2 H3 fun y H4 => tC (.bl true) σ2 H4 fun z H5 => ∃ kvs k, y = kV k ∧ H5 D = some (.dK kvs) ∧ kvs.length < sizeLine ∧ Nx (upd H5 D (.dK (putK kvs k z))) else Nx H3) := by
  have hlen : xs.length = g.length := by rw [hA.len, List.length_map]
  refine loop_by xs (fun i H => Same H1 H ∧ ∃ (kvs : List (Key × V)) (ks : List Int), H D = some (.dK kvs) ∧ kvs.map (·.1) = ks.map Sum.inl ∧ ks.length ≤ i ∧ ∀ k, k ∈ ks ↔ ∃ y, y ∈ g.take i ∧ π y = k)
    ⟨same_new hD, [], [], upd_same, rfl, Nat.le_refl 0, fun k => ⟨fun z => absurd z List.not_mem_nil, fun ⟨y, hy, _⟩ => absurd hy (by simp)⟩⟩ (fun i H p => it_tup (p.1 _ _ ha) i)
    (fun i x H hx ⟨k1, kvs, ks, hk, e1, e2, e3⟩ => ?_) (fun H ⟨k1, kvs, ks, hk, e1, e2, e3⟩ => ?_)
  · obtain ⟨d, h1, h2⟩ := hA.get hx
    rw [List.getElem?_map] at h1
    cases hg : g[i]? with
    | none => rw [hg] at h1; cases h1
    | some z =>
      rw [hg] at h1
      cases h1
      obtain ⟨t, rfl, ht⟩ := nd_inv (h2.sm k1)
      have hi : i < g.length := (List.getElem?_eq_some_iff.mp hg).1
      refine ⟨t, _, rfl, SqT.of ht, rfl, _, _, rfl, _, _, rfl, rfl, hw _ _, _, hj z, ?_⟩
      have hkl : kvs.length = ks.length := by have := congrArg List.length e1; rw [List.length_map, List.length_map] at this; exact this
      obtain ⟨ks', f1, f2, f3⟩ := put_keys e1 (π z) (.bl true)
      refine ⟨kvs, Sum.inl (π z), rfl, hk, small1000 (by omega), same_mut k1 hD, _, ks', upd_same, f1, by omega, fun k => ?_⟩
      rw [f3 k, e3 k, List.take_succ, hg]
      constructor
      · rintro (⟨y, m, e⟩ | rfl)
        · exact ⟨y, List.mem_append_left _ m, e⟩
        · exact ⟨z, List.mem_append_right _ (by simp), rfl⟩
      · rintro ⟨y, m, e⟩
        rcases List.mem_append.mp m with m | m
        · exact .inl ⟨y, m, e⟩
        · have : y = z := by simpa using m
          subst this
          exact .inr e.symm
  · rw [hlen] at e2 e3
    rw [List.take_length] at e3
    exact hd H kvs ks k1 hk e1 (by omega) e3
section
variable {P : Program} {w : World} {K : PySem.W.Frag} {mg : Str → Option Value} {base : Heap}
/-! ### all_had -/
abbrev sAll : Stmt := top 18
theorem scAll : FnScope ["given", "some", "starts", "ends", "start", "end"] ["given"] (C8.fnScope sAll) := C8.fnScope_by (by decide +kernel)
def spAll : Sp := fun vs H Q _ => ∃ gv g, vs = [gv] ∧ Im H gv (gvP g) ∧ g.length ≤ 63 ∧ (∀ y, y ∈ g → Ok y) ∧
  ∀ (r : Addr) (ys : List V) (gs : List Nd) (H' : Hp), Same H H' → H r = none → H' r = some (.lst ys) → ImAll H' ys (gs.map ndP) → gs.length ≤ 4000 → (∀ y, y ∈ gs ↔ Al y ∧ Had (Gn g) y) → Q (.ref r) H'
abbrev gPair (K : PySem.W.Frag) : TG := gTup K 2 (gCons (gName 4) (gCons (gName 5) gNil))
theorem ok_all (D : DD K mg "all_had" sAll) (B : Bt mg) (c1 : C8.Cal P w K mg base 3 "tupled" (spTup 3) []) (c2 : C8.Cal P w K mg base 8 "has" spHasA []) (c3 : C8.Cal P w K mg base 2 "is_node" spIsNd []) : C8.Cal P w K mg base 9 "all_had" spAll [] := by
  refine cal_of D (fun _ _ _ _ _ _ us hl => match us, hl with | [_], _ => rfl) scAll (fun vs H Q E h => ?_) (fun f cdv A outer s H vs Q E hr h => ?_)
  · obtain ⟨gv, g, rfl, _⟩ := h
    rfl
  obtain ⟨gv, g, rfl, hg, hgl, hok, q⟩ := h
  refine ⟨_, pss_cons (ps_set (i := 1) scAll.nd rfl (Or.inr rfl) (C8.pe_c c1 hr (by decide) rfl (pa_cons (pv 0) pa_nil)))
    (pss_cons (ps_set (i := 2) scAll.nd rfl (Or.inl rfl) (pe_callB (call_sortedDI rfl) (by rfl) B.sorted (by decide +kernel) (pa_cons (pe_dc (own := [("start", 4), ("end", 5)]) (g := gPair K) (tt := tYes) (tv := tC (.bl true)) rfl scAll.nd (pi_tup (pv 1))
      (blkOk_by (N := ["given", "some", "starts", "ends", "start", "end"]) (sc := C8.fnScope sAll) (by decide +kernel)) (fun _ _ _ _ _ => pg_tup (by rfl) (pgs_cons (pg_name (i := 4) scAll.nd rfl (Or.inl rfl)) (pgs_cons (pg_name (i := 5) scAll.nd rfl (Or.inl rfl)) pgs_nil)))
      (fun _ _ _ _ _ => pts_nil) (fun _ _ _ _ _ => pv 4) (fun _ _ _ _ _ => pe_bl)) pa_nil)))
    (pss_cons (ps_set (i := 3) scAll.nd rfl (Or.inr rfl) (pe_callB (call_sortedDI rfl) (by rfl) B.sorted (by decide +kernel) (pa_cons (pe_dc (own := [("start", 4), ("end", 5)]) (g := gPair K) (tt := tYes) (tv := tC (.bl true)) rfl scAll.nd (pi_tup (pv 1))
      (blkOk_by (N := ["given", "some", "starts", "ends", "start", "end"]) (sc := C8.fnScope sAll) (by decide +kernel)) (fun _ _ _ _ _ => pg_tup (by rfl) (pgs_cons (pg_name (i := 4) scAll.nd rfl (Or.inl rfl)) (pgs_cons (pg_name (i := 5) scAll.nd rfl (Or.inl rfl)) pgs_nil)))
      (fun _ _ _ _ _ => pts_nil) (fun _ _ _ _ _ => pv 5) (fun _ _ _ _ _ => pe_bl)) pa_nil)))
    (pss_one (ps_ret (pe_lc2 (own := [("start", 4), ("end", 5)]) (vs1 := [5]) (g := gName 4) (tt := tYes) (wi1 := iList K (tVar 3)) (g1 := gName 5) rfl scAll.nd (pi_list (pv 2))
      (blkOk_by (N := ["given", "some", "starts", "ends", "start", "end"]) (sc := C8.fnScope sAll) (by decide +kernel)) (by decide) (fun _ _ _ _ _ => pg_name (i := 4) scAll.nd rfl (Or.inl rfl)) (fun _ _ _ _ _ => pts_nil)
      (fun _ _ _ _ _ => pi_list (pv 3)) (fun _ _ _ _ _ => pg_name (i := 5) scAll.nd rfl (Or.inl rfl))
      (fun _ _ _ _ _ => pts_one (PW.pt (pw_and (pt_val (C8.pe_c c3 hr (by decide) rfl (pa_cons (pe_tup (pa_cons (pv 4) (pa_cons (pv 5) pa_nil))) pa_nil)))
        (pw_and1 (pt_val (C8.pe_c c2 hr (by decide) rfl (pa_cons (pv 1) (pa_cons (pe_tup (pa_cons (pv 4) (pa_cons (pv 5) pa_nil))) pa_nil))))))))
      (fun _ _ _ _ _ => pe_tup (pa_cons (pv 4) (pa_cons (pv 5) pa_nil)))))))), ?_⟩
  refine ⟨_, rfl, gv, gvP g, rfl, hg, by have := dep_gv g; omega, sm_gv (by omega), fun gv' H1 k1 hg1 => ?_⟩
  obtain ⟨a, xs, rfl, ha, hA⟩ := gv_inv hg1
  refine ⟨_, rfl, a, rfl, ⟨_, SqT.of ha⟩, fun D1 hD1 => ?_⟩
  refine dc_proj ha hA hD1 hgl 4 (fun y => y.1) (fun x => rfl) (fun _ _ => rfl) (fun H2 kvs ks k2 hk2 e1 e2 e3 => ?_)
  refine ⟨D1, kvs, ks, rfl, .inl hk2, e1, by omega, fun ss p hss _ hp => ?_⟩
  have k3 := same_new hp (o := .lst (ss.map V.int))
  have k13 : Same H1 (upd H2 p (.lst (ss.map V.int))) := k2.trans k3
  refine ⟨_, rfl, a, rfl, ⟨_, SqT.of (k13 _ _ ha)⟩, fun D2 hD2 => ?_⟩
  refine dc_proj (k13 _ _ ha) (hA.sm k13) hD2 hgl 5 (fun y => y.2) (fun x => rfl) (fun _ _ => rfl) (fun H4 kvs' ls k4 hk4 f1 f2 f3 => ?_)
  refine ⟨D2, kvs', ls, rfl, .inl hk4, f1, by omega, fun es r hes _ hr' => ?_⟩
  have k5 := same_new hr' (o := .lst (es.map V.int))
  have k35 := k4.trans k5
  have k15 := k13.trans k35
  have hp5 := k35 p _ upd_same
  have hr5 : (upd H4 r (.lst (es.map V.int))) r = some (.lst (es.map V.int)) := upd_same
  have hg5 := hg1.sm k15
  generalize upd H4 r (.lst (es.map V.int)) = H5 at k5 k35 k15 hp5 hr5 hg5
  have hsl : ss.length ≤ 63 := by rw [hss.length_eq]; omega
  have hel : es.length ≤ 63 := by rw [hes.length_eq]; omega
  have hsm : ∀ k, k ∈ ss ↔ ∃ y, y ∈ g ∧ y.1 = k := fun k => (hss.mem_iff).trans (e3 k)
  have hem : ∀ k, k ∈ es ↔ ∃ y, y ∈ g ∧ y.2 = k := fun k => (hes.mem_iff).trans (f3 k)
  refine ⟨_, rfl, p, rfl, ⟨_, SqL.of hp5⟩, fun D' hD' => ?_⟩
  refine loop_by (ss.map V.int) (fun i H' => Same H5 H' ∧ ∃ (acc : List V) (gs : List Nd), H' D' = some (.lst acc) ∧ ImAll H' acc (gs.map ndP) ∧ gs.length ≤ i * 63 ∧
      ∀ y, y ∈ gs ↔ (y.1 ∈ ss.take i ∧ y.2 ∈ es) ∧ Al y ∧ Had (Gn g) y) ⟨same_new hD', [], [], upd_same, .nil, Nat.zero_le _, fun y => ⟨fun z => absurd z List.not_mem_nil, fun z => absurd z.1.1 (by simp)⟩⟩
    (fun i H' p => it_lst (p.1 _ _ hp5) i) (fun i u H6 hu ⟨k6, acc, gs, hacc, hgs, hgl6, hmem⟩ => ?_) (fun H6 ⟨k6, acc, gs, hacc, hgs, hgl6, hmem⟩ => ?_)
  · rw [List.getElem?_map] at hu
    cases hsi : ss[i]? with
    | none => rw [hsi] at hu; cases hu
    | some si =>
      rw [hsi] at hu
      cases hu
      obtain ⟨ys, hys, eys⟩ := (hsm si).mp (List.mem_of_getElem? hsi)
      have hs0 : 0 ≤ si := by have := (hok ys hys).z; omega
      refine ⟨rfl, ?_⟩
      refine ⟨_, rfl, r, rfl, ⟨_, SqL.of (k6 _ _ hr5)⟩, ?_⟩
      refine loop_by (es.map V.int) (fun j H' => Same H5 H' ∧ ∃ (acc : List V) (gs : List Nd), H' D' = some (.lst acc) ∧ ImAll H' acc (gs.map ndP) ∧ gs.length ≤ i * 63 + j ∧
          ∀ y, y ∈ gs ↔ ((y.1 ∈ ss.take i ∧ y.2 ∈ es) ∨ (y.1 = si ∧ y.2 ∈ es.take j)) ∧ Al y ∧ Had (Gn g) y) ⟨k6, acc, gs, hacc, hgs, hgl6, fun y => (hmem y).trans ⟨fun z => ⟨.inl z.1, z.2⟩, fun z => ⟨z.1.elim id (fun y => absurd y.2 (by simp)), z.2⟩⟩⟩
        (fun j H' p => it_lst (p.1 _ _ hr5) j) (fun j u H7 hu ⟨k7, acc, gs, hacc, hgs, hgl7, hmem⟩ => ?_) (fun H7 ⟨k7, acc, gs, hacc, hgs, hgl7, hmem⟩ => ?_)
      · rw [List.getElem?_map] at hu
        cases hej : es[j]? with
        | none => rw [hej] at hu; cases hu
        | some ej =>
          rw [hej] at hu
          cases hu
          obtain ⟨ye, hye, eye⟩ := (hem ej).mp (List.mem_of_getElem? hej)
          have he18 : ej ≤ 18 := by have := (hok ye hye).u; omega
          have hii : i < ss.length := (List.getElem?_eq_some_iff.mp hsi).1
          have hjj : j < es.length := (List.getElem?_eq_some_iff.mp hej).1
          have hejm : ej ∈ es := List.mem_of_getElem? hej
          have take_j : ∀ e, e ∈ es.take (j + 1) ↔ e ∈ es.take j ∨ e = ej := fun e => by rw [List.take_succ, hej, List.mem_append]; simp
          refine ⟨rfl, _, rfl, _, rfl, (by show 2 ≤ sizeLine; decide), fun t ht => ?_⟩
          have k8 := same_new ht (o := .tup [.int si, .int ej])
          refine ⟨_, (si, ej), rfl, nd_mk upd_same, hs0, he18, fun b hb => ⟨b, rfl, ?_⟩⟩
          cases b with
          | false =>
            refine iteF (iteF ⟨k7.trans k8, acc, gs, k8 _ _ hacc, hgs.sm k8, by omega, fun y => ?_⟩)
            rw [hmem y, take_j]
            constructor
            · rintro ⟨z1, z2⟩
              exact ⟨z1.imp id fun z => ⟨z.1, .inl z.2⟩, z2⟩
            · rintro ⟨z1, z2⟩
              refine ⟨z1.imp id fun z => ⟨z.1, z.2.elim id fun e => ?_⟩, z2⟩
              exact Bool.noConfusion (hb.mpr (by have : y = (si, ej) := Prod.ext z.1 e; rw [← this]; exact z2.1))
          | true =>
            have hal := hb.mp rfl
            refine iteT ?_
            refine ⟨_, rfl, _, rfl, _, rfl, (by show 2 ≤ sizeLine; decide), fun t2 ht2 => ?_⟩
            have k9 := same_new ht2 (o := .tup [.int si, .int ej])
            have k79 := k7.trans (k8.trans k9)
            refine ⟨_, _, g, (si, ej), rfl, hg5.sm k79, nd_mk upd_same, hal.toOk, fun c H10 k10 hc => ⟨c, rfl, ?_⟩⟩
            have k710 : Same H7 H10 := k8.trans (k9.trans k10)
            cases c with
            | false =>
              refine iteF ⟨k7.trans k710, acc, gs, k710 _ _ hacc, hgs.sm k710, by omega, fun y => ?_⟩
              rw [hmem y, take_j]
              constructor
              · rintro ⟨z1, z2⟩
                exact ⟨z1.imp id fun z => ⟨z.1, .inl z.2⟩, z2⟩
              · rintro ⟨z1, z2⟩
                refine ⟨z1.imp id fun z => ⟨z.1, z.2.elim id fun e => ?_⟩, z2⟩
                exact Bool.noConfusion (hc.mpr (by have : y = (si, ej) := Prod.ext z.1 e; rw [← this]; exact z2.2))
            | true =>
              have hhad := hc.mp rfl
              refine iteT ?_
              refine ⟨_, rfl, _, rfl, (by show 2 ≤ sizeLine; decide), fun t3 ht3 => ?_⟩
              have k11 := same_new ht3 (o := .tup [.int si, .int ej])
              have k711 := k710.trans k11
              have hD11 := k711 _ _ hacc
              have kt := kt_lst (o := .lst (acc ++ [.ref t3])) hD11
              refine ⟨acc, hD11, small5000 (by rw [hgs.len, List.length_map]; have : i * 63 ≤ 62 * 63 := Nat.mul_le_mul_right 63 (by omega); omega), same_mut (k7.trans k711) hD', _, gs ++ [(si, ej)], upd_same, ?_, ?_, fun y => ?_⟩
              · rw [List.map_append]
                exact ((hgs.sm k711).by kt).snoc ((nd_mk upd_same).by kt)
              · rw [List.length_append, List.length_singleton]; omega
              · rw [List.mem_append, List.mem_singleton, hmem y, take_j]
                constructor
                · rintro (⟨z1, z2⟩ | rfl)
                  · exact ⟨z1.imp id fun z => ⟨z.1, .inl z.2⟩, z2⟩
                  · exact ⟨.inr ⟨rfl, .inr rfl⟩, hal, hhad⟩
                · rintro ⟨z1, z2⟩
                  rcases z1 with z | ⟨z, z' | z'⟩
                  · exact .inl ⟨.inl z, z2⟩
                  · exact .inl ⟨.inr ⟨z, z'⟩, z2⟩
                  · exact .inr (Prod.ext z z')
      · rw [List.length_map] at hgl7 hmem
        rw [List.take_length] at hmem
        refine ⟨k7, acc, gs, hacc, hgs, by rw [Nat.add_mul]; omega, fun y => ?_⟩
        rw [hmem y, List.take_succ, hsi, List.mem_append]
        constructor
        · rintro ⟨z | z, z2⟩
          · exact ⟨⟨.inl z.1, z.2⟩, z2⟩
          · exact ⟨⟨.inr (by simp [z.1]), z.2⟩, z2⟩
        · rintro ⟨⟨z | z, z1⟩, z2⟩
          · exact ⟨.inl ⟨z, z1⟩, z2⟩
          · exact ⟨.inr ⟨by simpa using z, z1⟩, z2⟩
  · rw [List.length_map] at hgl6 hmem
    rw [List.take_length] at hmem
    refine q D' acc gs H6 (k1.trans (k15.trans k6)) (Same.free (k1.trans k15) hD') hacc hgs (by have : ss.length * 63 ≤ 63 * 63 := Nat.mul_le_mul_right 63 hsl; omega) fun y => ?_
    rw [hmem y]
    refine ⟨fun z => z.2, fun z => ⟨⟨?_, ?_⟩, z⟩⟩
    · obtain ⟨y', h1, h2⟩ := z.2.starts
      exact (hsm _).mpr ⟨y', h1, h2⟩
    · obtain ⟨y', h1, h2⟩ := z.2.ends
      exact (hem _).mpr ⟨y', h1, h2⟩
end
end Mk

set_option Elab.async false
set_option maxRecDepth 100000
set_option maxHeartbeats 4000000
set_option linter.all false
namespace Mk
open PySem PySem.Spec PyProof.Rows L2
/-! ### a list extended by a tuple -/
theorem ext_tup (l b : Addr) (vs ws : Array Value) (n m : Nat) (dd : Option Addr) (sl : Array (Option Value)) (big : ¬(!vs.isEmpty && Builtin.List.listTooLong (vs.size + ws.size)) = true) (h1 : vs.size ≤ sizeLine) (h2 : vs.size + ws.size ≤ sizeLine + 1) :
    Meets (Builtin.«list.extend» ⟨[.ref l, .ref b], []⟩) (fun _ R s => s.heap.get? l = some { cls := .type "list", data := .seq vs n } ∧ s.heap.get? b = some ⟨.type "tuple", dd, .seq ws m, sl⟩ ∧
      R (.ok (.ret Value.none)) { s with heap := s.heap.update l (Obj.mapSeq fun x => x ++ ws) }) :=
  .of_wp fun prog w A R s h => by
    obtain ⟨hp, g, d, tk, os⟩ := s
    obtain ⟨hl, hb, h⟩ := h
    have e1 := AutoSeq1.sub_tuple_tuple
    have e2 := AutoSeq1.sub_list_list
    have e3 := AutoSeq1.sub_tuple_list
    have e4 := AutoSeq1.sub_list_tuple
    have hz : (vs ++ ws).size ≤ sizeLine + 1 := by rw [Array.size_append]; exact h2
    wp_walk using (wpAny_updateSeq hl rfl (hz := h1) (_hz' := hz)), AutoSeq1.wpAny_loadPart' hl, AutoSeq1.wpAny_loadPart' hb
    exact ⟨_, rfl, h⟩
def rExtT : V → List V → Hp → VK → Prop := fun x vs H Q => ∃ l b xs zs, x = .ref l ∧ vs = [.ref b] ∧ H l = some (.lst xs) ∧ H b = some (.tup zs) ∧ xs.length + zs.length ≤ 5000 ∧ Q .non (upd H l (.lst (xs ++ zs)))
theorem mt_extT {X : Cx} : MtR X "list.extend" rExtT := fun pins s σ H x vs v us Q I rx rv ⟨l, b, xs, zs, ex, ev, hl, hb, hz, q⟩ => by
  subst ex ev
  cases rx
  obtain ⟨u, rfl, ru⟩ := rv.one
  cases ru
  obtain ⟨_, its, n, r, el, e⟩ := I.lstM hl
  obtain ⟨_, jts, r2, ⟨⟨cls, dd, dat, sl⟩, ho, hc, m, hd⟩⟩ := I.hok b _ hb
  simp only at hc hd
  subst hc hd
  have hs := r2.length
  have hsm : xs.length + zs.length ≤ sizeLine := Nat.le_trans hz (by decide)
  have hsz : its.toArray.size + jts.toArray.size ≤ sizeLine := by rw [List.size_toArray, List.size_toArray]; omega
  refine call_meets PySem.F.slot_list_extend ⟨_, e, rfl⟩ PySem.F.entry_list_extend (PySem.F.args_list_extend_2 _ _)
    (ext_tup l b its.toArray jts.toArray n m dd sl (by rw [notLongL hsz, Bool.and_false]; exact Bool.false_ne_true) (by rw [List.size_toArray]; omega) (by omega)) ⟨e, ho, ?_⟩
  refine ⟨.non, _, I.lset (its' := its ++ jts) hl e (by simp) (r.append r2) ?_, rfl, q⟩
  rw [List.length_append]
  exact hsm
theorem any_of {α : Type} {p : α → Prop} {bs : List Bool} {ns : List α} (hl : bs.length = ns.length) (hP : ∀ (i : Nat) b, bs[i]? = some b → ∃ z, ns[i]? = some z ∧ (b = true ↔ p z)) : bs.any id = true ↔ ∃ z, z ∈ ns ∧ p z := by
  rw [List.any_eq_true]
  constructor
  · rintro ⟨b, hb, hbt⟩
    obtain ⟨i, hi⟩ := List.getElem?_of_mem hb
    obtain ⟨z, h1, h2⟩ := hP i b hi
    exact ⟨z, List.mem_of_getElem? h1, h2.mp hbt⟩
  · rintro ⟨z, h1, h2⟩
    obtain ⟨i, hi⟩ := List.getElem?_of_mem h1
    have hlt : i < bs.length := by rw [hl]; exact (List.getElem?_eq_some_iff.mp hi).1
    obtain ⟨z', h3, h4⟩ := hP i bs[i] (List.getElem?_eq_getElem hlt)
    rw [hi] at h3
    cases h3
    exact ⟨bs[i], List.getElem_mem hlt, h4.mpr h2⟩
section
variable {P : Program} {w : World} {K : PySem.W.Frag} {mg : Str → Option Value} {base : Heap}
/-! ### is_cut -/
abbrev sCut : Stmt := top 22
theorem scCut : FnScope ["node", "wish", "entries", "sizes", "own"] ["node", "wish"] (C8.fnScope sCut) := C8.fnScope_by (by decide +kernel)
def spCut : Sp := fun vs H Q _ => ∃ v wv x es ss, vs = [v, wv] ∧ Im H v (ndP x) ∧ Im H wv (wiP es ss) ∧ es.length ≤ 1000 ∧ ss.length ≤ 1000 ∧ ∀ (b : Bool) H', Same H H' → (b = true ↔ Cut es ss x) → Q (.bl b) H'
theorem ok_cut (D : DD K mg "is_cut" sCut) (B : Bt mg) (c1 : C8.Cal P w K mg base 1 "has_entry" spHasE []) : C8.Cal P w K mg base 2 "is_cut" spCut [] := by
  refine cal_of D (fun _ _ _ _ _ _ us hl => match us, hl with | [_, _], _ => rfl) scCut (fun vs H Q E h => ?_) (fun f cdv A outer s H vs Q E hr h => ?_)
  · obtain ⟨v, wv, x, es, ss, rfl, _⟩ := h
    rfl
  obtain ⟨v, wv, x, es, ss, rfl, hv, hw, l1, l2, q⟩ := h
  refine ⟨_, pss_cons (ps_asg (pv 1) (pg_tup (by rfl) (pgs_cons (pg_name (i := 2) scCut.nd rfl (Or.inl rfl)) (pgs_cons (pg_name (i := 3) scCut.nd rfl (Or.inl rfl)) pgs_nil))))
    (pss_one (ps_ret (pe_or (pe_callB (cr_any rfl) (by rfl) B.any (by decide +kernel) (pa_cons (pe_lc (own := [("own", 4)]) (g := gName 4) (tt := tYes) rfl scCut.nd (pi_tup (pv 2))
        (blkOk_by (N := ["node", "wish", "entries", "sizes", "own"]) (sc := C8.fnScope sCut) (by decide +kernel)) (fun _ _ _ _ _ => pg_name (i := 4) scCut.nd rfl (Or.inl rfl)) (fun _ _ _ _ _ => pts_nil)
        (fun _ _ _ _ _ => C8.pe_c c1 hr (by decide) rfl (pa_cons (pv 0) (pa_cons (pv 4) pa_nil)))) pa_nil))
      (pe_one (pe_callB (cr_any rfl) (by rfl) B.any (by decide +kernel) (pa_cons (pe_lc (own := [("own", 4)]) (g := gName 4) (tt := tYes) (te := tChain (rI0 fun i j => .bl (decide (i < j))) (rI0 fun i j => .bl (decide (i < j))) (tOp (rIxT K) (tVar 0) (tC (.int 0))) (tVar 4) (tOp (rIxT K) (tVar 0) (tC (.int 1)))) rfl scCut.nd (pi_tup (pv 3))
        (blkOk_by (N := ["node", "wish", "entries", "sizes", "own"]) (sc := C8.fnScope sCut) (by decide +kernel)) (fun _ _ _ _ _ => pg_name (i := 4) scCut.nd rfl (Or.inl rfl)) (fun _ _ _ _ _ => pts_nil)
        (fun _ _ _ _ _ => pe_chain op_lt op_lt (pe_ix ix_tup (pv 0) pe_int (fun _ _ => rfl)) (pv 4) (pe_ix ix_tup (pv 0) pe_int (fun _ _ => rfl)))) pa_nil)))))), ?_⟩
  obtain ⟨a, b, c, rfl, ha, hb, hc⟩ := wi_inv hw
  refine ⟨_, rfl, a, _, rfl, SqT.of ha, rfl, _, _, rfl, _, _, rfl, rfl, ?_⟩
  refine ⟨_, rfl, b, rfl, ⟨_, SqT.of hb⟩, fun D1 hD1 => ?_⟩
  refine lc_bl (src_tup hb) hD1 (by rw [List.length_map]; exact l1) (fun i b => ∃ e, es[i]? = some e ∧ (b = true ↔ (x.1 ≤ e ∧ e < x.2))) (fun i u H1 hu k1 Q1 Q0 q1 => ?_) (fun H1 bs k1 hb1 hl hP => ?_)
  · rw [List.getElem?_map] at hu
    cases he : es[i]? with
    | none => rw [he] at hu; cases hu
    | some e =>
      rw [he] at hu
      cases hu
      exact ⟨rfl, _, rfl, _, rfl, v, x, e, rfl, hv.sm k1, q1 _ H1 (Same.refl H1) ⟨e, he, decide_eq_true_iff⟩⟩
  · have hany := any_of (by rw [hl, List.length_map]) hP
    refine ⟨D1, bs, rfl, SqL.of hb1, _, rfl, ?_⟩
    cases hb2 : bs.any id with
    | true => exact iteT (q true H1 k1 ⟨fun _ => .inl (hany.mp hb2), fun _ => rfl⟩)
    | false =>
      refine iteF ?_
      refine ⟨_, rfl, c, rfl, ⟨_, SqT.of (k1 _ _ hc)⟩, fun D2 hD2 => ?_⟩
      refine lc_bl (src_tup (k1 _ _ hc)) hD2 (by rw [List.length_map]; exact l2) (fun i b => ∃ e, ss[i]? = some e ∧ (b = true ↔ (x.1 < e ∧ e < x.2))) (fun i u H2 hu k2 Q1 Q0 q1 => ?_) (fun H2 cs k2 hc2 hl2 hP2 => ?_)
      · rw [List.getElem?_map] at hu
        cases he : ss[i]? with
        | none => rw [he] at hu; cases hu
        | some e =>
          rw [he] at hu
          cases hu
          obtain ⟨t, rfl, ht⟩ := nd_inv (hv.sm (k1.trans k2))
          refine ⟨rfl, _, rfl, _, _, _, _, rfl, rfl, SqT.of ht, rfl, _, rfl, _, _, rfl, rfl, _, rfl, ?_⟩
          refine ite2 (fun c => ?_) (fun c => ?_)
          · have c' : x.1 < e := of_decide_eq_true c
            exact ⟨_, rfl, _, _, _, _, rfl, rfl, SqT.of ht, rfl, _, _, rfl, rfl, q1 _ H2 (Same.refl H2) ⟨e, he, by rw [decide_eq_true_iff]; exact ⟨fun z => ⟨c', z⟩, fun z => z.2⟩⟩⟩
          · have c' : ¬ x.1 < e := fun z => c (decide_eq_true z)
            exact q1 false H2 (Same.refl H2) ⟨e, he, ⟨fun z => Bool.noConfusion z, fun z => absurd z.1 c'⟩⟩
      · have hany2 := any_of (by rw [hl2, List.length_map]) hP2
        refine ⟨D2, cs, rfl, SqL.of hc2, q _ H2 (k1.trans k2) ⟨fun z => .inr (hany2.mp z), fun z => z.elim (fun y => ?_) (fun y => hany2.mpr y)⟩⟩
        rw [hany.mpr y] at hb2
        cases hb2
end
end Mk

set_option Elab.async false
set_option maxRecDepth 100000
set_option maxHeartbeats 4000000
set_option linter.all false
namespace Mk
open PySem PySem.Spec PyProof.Rows L2
theorem sz_of' {n : Nat} (h : n ≤ 5000) : n ≤ sizeLine := Nat.le_of_lt (small5000 h)
theorem two_ne {xs : List V} (h : xs.length = 2) : (!xs.isEmpty) = true := by
  match xs, h with
  | [_, _], _ => rfl
theorem leaf_split {C : Nd → Prop} {x y : Nd} (c : C x) (h : 2 ≤ x.2 - x.1) : Leaf C y x ↔ Leaf C y (lo x) ∨ Leaf C y (hi x) := by
  constructor
  · intro l
    cases l with
    | here h' => exact absurd ⟨c, h⟩ h'
    | lo _ _ l => exact .inl l
    | hi _ _ l => exact .inr l
  · rintro (l | l)
    · exact .lo c h l
    · exact .hi c h l
theorem leaf_stop {C : Nd → Prop} {x y : Nd} (h : ¬ (C x ∧ 2 ≤ x.2 - x.1)) : Leaf C y x ↔ y = x := by
  constructor
  · intro l
    cases l with
    | here _ => rfl
    | lo c h' _ => exact absurd ⟨c, h'⟩ h
    | hi c h' _ => exact absurd ⟨c, h'⟩ h
  · rintro rfl
    exact .here h
theorem imall_last {H : Hp} : ∀ {ws : List V} {W : List Nd}, ImAll H ws (W.map ndP) → 0 < ws.length → ∃ W' y ws' u, W = W' ++ [y] ∧ ws = ws' ++ [u] ∧ ImAll H ws' (W'.map ndP) ∧ Im H u (ndP y)
  | _, [], h, hl => by cases h; exact absurd hl (by simp)
  | _, [y], h, hl => by
    cases h with
    | cons h1 h2 =>
      cases h2
      exact ⟨[], y, [], _, rfl, rfl, .nil, h1⟩
  | _, y :: z :: W, h, hl => by
    cases h with
    | cons h1 h2 =>
      obtain ⟨W', y', ws', u, e1, e2, h3, h4⟩ := imall_last (W := z :: W) h2 (by rw [h2.len]; simp)
      exact ⟨y :: W', y', _ :: ws', u, by rw [e1]; rfl, by rw [e2]; rfl, .cons h1 h3, h4⟩
theorem imall_perm {H : Hp} : ∀ {ys xs : List V}, ys.Perm xs → ∀ g : List Nd, ImAll H xs (g.map ndP) → ∃ g' : List Nd, g'.Perm g ∧ ImAll H ys (g'.map ndP) := by
  intro ys xs p
  induction p with
  | nil => exact fun g h => ⟨g, .refl g, h⟩
  | cons x _ ih =>
    intro g h
    match g, h with
    | y :: g, .cons h1 h2 =>
      obtain ⟨g', p', h'⟩ := ih g h2
      exact ⟨y :: g', p'.cons y, .cons h1 h'⟩
  | swap x y l =>
    intro g h
    match g, h with
    | a :: b :: g, .cons h1 (.cons h2 h3) => exact ⟨b :: a :: g, .swap a b g, .cons h2 (.cons h1 h3)⟩
  | trans _ _ ih1 ih2 =>
    intro g h
    obtain ⟨g', p', h'⟩ := ih2 g h
    obtain ⟨g'', p'', h''⟩ := ih1 g' h'
    exact ⟨g'', p''.trans p', h''⟩
/-- how many entries, how many NODEs below -/
def sumW (W : List Nd) : Nat := (W.map fun y => (y.2 - y.1).toNat).sum
def sumM (W : List Nd) : Nat := (W.map fun y => (2 * (y.2 - y.1) - 1).toNat).sum
theorem sumW_app (W Z : List Nd) : sumW (W ++ Z) = sumW W + sumW Z := by unfold sumW; rw [List.map_append, List.sum_append]
theorem sumM_app (W Z : List Nd) : sumM (W ++ Z) = sumM W + sumM Z := by unfold sumM; rw [List.map_append, List.sum_append]
theorem sumW_one (y : Nd) : sumW [y] = (y.2 - y.1).toNat := by simp [sumW]
theorem sumM_one (y : Nd) : sumM [y] = (2 * (y.2 - y.1) - 1).toNat := by simp [sumM]
theorem sumW_parts {y : Nd} (h : 2 ≤ y.2 - y.1) : sumW [lo y, hi y] = (y.2 - y.1).toNat := by
  have g1 := md_gt y
  have g2 := md_lt h
  simp only [sumW, List.map_cons, List.map_nil, List.sum_cons, List.sum_nil, lo1, lo2, hi1, hi2]
  omega
theorem sumM_parts {y : Nd} (h : 2 ≤ y.2 - y.1) : sumM [lo y, hi y] + 1 = (2 * (y.2 - y.1) - 1).toNat := by
  have g1 := md_gt y
  have g2 := md_lt h
  simp only [sumM, List.map_cons, List.map_nil, List.sum_cons, List.sum_nil, lo1, lo2, hi1, hi2]
  omega
/-- sorted of a list of NODEs -/
theorem sort_nodes {K : PySem.W.Frag} {H : Hp} {a : Addr} {xs : List V} {g : List Nd} {Q : VK} (ha : H a = some (.lst xs)) (hA : ImAll H xs (g.map ndP)) (hl : g.length < 64) (hg : ∀ y, y ∈ g → Ok y)
    (q : ∀ (p : Addr) (ys : List V) (g' : List Nd), H p = none → g'.Perm g → ImAll H ys (g'.map ndP) → Q (.ref p) (upd H p (.lst ys))) : rSortU K 2 64 [.ref a] H Q := by
  refine ⟨a, xs, rfl, SqL.of ha, by rw [hA.len, List.length_map]; exact hl, fun x hx => ?_, fun ys p hp _ hn => ?_⟩
  · obtain ⟨d, hd, hd2⟩ := hA.mem hx
    obtain ⟨y, hy, rfl⟩ := List.mem_map.mp hd
    obtain ⟨t, rfl, ht⟩ := nd_inv hd2
    have o := hg y hy
    have := o.z; have := o.l; have := o.u
    refine ⟨[y.1, y.2], ⟨t, rfl, SqT.of ht⟩, rfl, fun m hm => ?_⟩
    rcases List.mem_cons.mp hm with e | hm
    · omega
    · have e := List.mem_singleton.mp hm
      omega
  · obtain ⟨g', p', h'⟩ := imall_perm hp g hA
    exact q p ys g' hn p' h'
section
variable {P : Program} {w : World} {K : PySem.W.Frag} {mg : Str → Option Value} {base : Heap}
/-! ### divided -/
abbrev sDiv : Stmt := top 23
theorem scDiv : FnScope ["roots", "wish", "found", "waiting", "here", "both"] ["roots", "wish"] (C8.fnScope sDiv) := C8.fnScope_by (by decide +kernel)
def spDiv : Sp := fun vs H Q _ => ∃ r u wv x es ss, vs = [.ref r, wv] ∧ H r = some (.lst [u]) ∧ Im H u (ndP x) ∧ Ok x ∧ Im H wv (wiP es ss) ∧ es.length ≤ 1000 ∧ ss.length ≤ 1000 ∧
  ∀ (p : Addr) (ys : List V) (gs : List Nd) (H' : Hp), Same H H' → H p = none → H' p = some (.lst ys) → ImAll H' ys (gs.map ndP) → gs.length ≤ 18 → (∀ y, y ∈ gs ↔ Leaf (Cut es ss) y x) → Q (.ref p) H'
/-- between two turns: what is found, what waits -/
def DivI (C : Nd → Prop) (x : Nd) (H1 : Hp) (fr wr : Addr) (m : Nat) (H' : Hp) : Prop := ∃ (fs ws : List V) (F W : List Nd), Same H1 H' ∧ H' fr = some (.lst fs) ∧ H' wr = some (.lst ws) ∧ ImAll H' fs (F.map ndP) ∧ ImAll H' ws (W.map ndP) ∧
  (∀ y, y ∈ W → Ok y) ∧ (∀ y, y ∈ F → Ok y) ∧ F.length + sumW W ≤ 18 ∧ m = sumM W ∧ ∀ y, Leaf C y x ↔ y ∈ F ∨ ∃ z, z ∈ W ∧ Leaf C y z
theorem ok_len {W : List Nd} (h : ∀ y, y ∈ W → Ok y) : W.length ≤ sumW W := by
  induction W with
  | nil => exact Nat.le_refl 0
  | cons y W ih =>
    have := ih fun z hz => h z (List.mem_cons_of_mem _ hz)
    have o := (h y List.mem_cons_self).l
    simp only [sumW, List.map_cons, List.sum_cons, List.length_cons] at *
    omega
theorem ok_div (D : DD K mg "divided" sDiv) (B : Bt mg) (c1 : C8.Cal P w K mg base 2 "is_cut" spCut []) (c2 : C8.Cal P w K mg base 2 "parts_of" spParts []) : C8.Cal P w K mg base 3 "divided" spDiv [] := by
  refine cal_of D (fun _ _ _ _ _ _ us hl => match us, hl with | [_, _], _ => rfl) scDiv (fun vs H Q E h => ?_) (fun f cdv A outer s H vs Q E hr h => ?_)
  · obtain ⟨r, u, wv, x, es, ss, rfl, _⟩ := h
    rfl
  obtain ⟨r, u, wv, x, es, ss, rfl, hr0, hu, o, hw, l1, l2, q⟩ := h
  refine ⟨_, pss_cons (ps_par (i := 2) (j := 3) (by rfl) scDiv.nd rfl rfl (by decide) rfl rfl (pa_cons (pe_lst pa_nil) (pa_cons (pe_callTy call_list_of (by rfl) B.list (by decide +kernel) (pa_cons (pv 0) pa_nil)) pa_nil)) (by rfl))
    (pss_cons (ps_while PassesOwn.never (pt_cmpR op_gt (pe_callB call_len_seq (by rfl) B.len PySem.boot_len (pa_cons (pv 3) pa_nil)) pe_int (nomark _))
      (pss_cons (ps_set (i := 4) scDiv.nd rfl (Or.inl rfl) (pe_bm0 PySem.F.plainAttrs_list PySem.F.slot_list_pop PySem.F.type_list_pop mt_pop (pv 3)))
      (pss_cons (ps_set (i := 5) scDiv.nd rfl (Or.inl rfl) (pe_ifExp (pt_val (C8.pe_c c1 hr (by decide) rfl (pa_cons (pv 4) (pa_cons (pv 1) pa_nil)))) (C8.pe_c c2 hr (by decide) rfl (pa_cons (pv 4) pa_nil)) pe_non))
      (pss_cons (ps_expr (pe_bm PySem.F.plainAttrs_list PySem.F.slot_list_extend PySem.F.type_list_extend mt_extT (pv 3) (pa_cons (pe_orT (pv 5) (pe_one (pe_tup pa_nil))) pa_nil)))
      (pss_one (ps_expr (pe_bm PySem.F.plainAttrs_list PySem.F.slot_list_extend PySem.F.type_list_extend mt_extend (pv 2) (pa_cons (pe_ifExp (pt_cmpR op_isN (pv 5) pe_non (nomark _)) (pe_lst (pa_cons (pv 4) pa_nil)) (pe_lst pa_nil)) pa_nil))))))))
    (pss_one (ps_ret (pe_callB (cr_sortT (d := 2) (B := 64) (by decide)) (by rfl) B.sorted (by decide +kernel) (pa_cons (pv 2) pa_nil))))), ?_⟩
  refine ⟨(by show 0 ≤ sizeLine; decide), fun fr hfr => ?_⟩
  have k1 := same_new hfr (o := .lst [])
  refine ⟨_, rfl, r, _, rfl, .inl (SqL.of (k1 _ _ hr0)), fun wr hwr => ?_⟩
  have k2 := same_new hwr (o := .lst [u])
  refine ⟨_, _, rfl, ?_⟩
  have nef : fr ≠ wr := fun e => by rw [← e, upd_same] at hwr; cases hwr
  have hwr0 : H wr = none := Same.free k1 hwr
  refine ⟨fun m σ H' => ∃ a b, σ = [some (.ref r), some wv, some (.ref fr), some (.ref wr), a, b] ∧ DivI (Cut es ss) x H fr wr m H', ⟨_, none, none, rfl, [], [u], [], [x], k1.trans k2, k2 _ _ upd_same, upd_same, .nil, .cons (hu.sm (k1.trans k2)) .nil,
    fun y hy => by rw [List.mem_singleton.mp hy]; exact o, fun y hy => absurd hy List.not_mem_nil, by rw [sumW_one]; have := o.z; have := o.u; simp only [List.length_nil]; omega, rfl, fun y => ⟨fun l => .inr ⟨x, List.mem_singleton.mpr rfl, l⟩, fun z => z.elim (fun z => absurd z List.not_mem_nil) fun ⟨z, hz, l⟩ => by rw [List.mem_singleton.mp hz] at l; exact l⟩⟩, ?_⟩
  rintro m σ H2 ⟨a, b, rfl, fs, ws, F, W, k, hF, hW, iF, iW, oW, oF, hlen, rfl, hmem⟩
  refine ⟨_, rfl, wr, ws, rfl, .inl (SqL.of hW), _, _, rfl, rfl, _, rfl, ?_⟩
  refine ite2 (fun c => ?_) (fun c => ?_)
  · have hpos : 0 < ws.length := by have := of_decide_eq_true c; omega
    obtain ⟨W', y, ws', u', rfl, rfl, iW', iy⟩ := imall_last iW hpos
    refine ⟨fun σ' H' => ∃ m', m' < sumM (W' ++ [y]) ∧ ∃ a b, σ' = [some (.ref r), some wv, some (.ref fr), some (.ref wr), a, b] ∧ DivI (Cut es ss) x H fr wr m' H', fun σ' H' h => h, ?_⟩
    refine ⟨_, rfl, .inl ⟨rfl, _, SqL.of hW⟩, wr, _, u', rfl, rfl, hW, by simp, ?_⟩
    rw [List.dropLast_concat]
    have oy : Ok y := oW y (List.mem_append_right _ (List.mem_singleton.mpr rfl))
    have oW' : ∀ z, z ∈ W' → Ok z := fun z hz => oW z (List.mem_append_left _ hz)
    have hw18 : y.2 - y.1 ≤ 18 := by have := oy.z; have := oy.u; omega
    have t1 := kt_lst (o := .lst ws') hW
    have h3F : (upd H2 wr (.lst ws')) fr = some (.lst fs) := by rw [upd_ne nef]; exact hF
    have h3W : (upd H2 wr (.lst ws')) wr = some (.lst ws') := upd_same
    have k3 : Same H (upd H2 wr (.lst ws')) := same_mut k hwr0
    have iy3 := iy.by t1
    have iW3 := iW'.by t1
    have iF3 := iF.by t1
    generalize upd H2 wr (.lst ws') = H3 at t1 h3F h3W k3 iy3 iW3 iF3
    have hlen' : F.length + (sumW W' + (y.2 - y.1).toNat) ≤ 18 := by rw [sumW_app, sumW_one] at hlen; exact hlen
    have hWl := ok_len oW'
    have hwl : ws'.length = W'.length := by rw [iW3.len, List.length_map]
    have hfl : fs.length = F.length := by rw [iF3.len, List.length_map]
    have oyl := oy.l
    -- where nothing is split
    have stop : ∀ H4, Same H3 H4 → ¬ (Cut es ss y ∧ 2 ≤ y.2 - y.1) → ∃ m', m' < sumM (W' ++ [y]) ∧ DivI (Cut es ss) x H fr wr m' (upd (upd H4 wr (.lst (ws' ++ []))) fr (.lst (fs ++ [u']))) := fun H4 k4 hst => by
      refine ⟨sumM W', by rw [sumM_app, sumM_one]; omega, fs ++ [u'], ws' ++ [], F ++ [y], W', ?_⟩
      have e4F := k4 _ _ h3F
      have e4W := k4 _ _ h3W
      have t4 := kt_lst (o := .lst (ws' ++ [])) e4W
      have e5F : (upd H4 wr (.lst (ws' ++ []))) fr = some (.lst fs) := by rw [upd_ne nef]; exact e4F
      have t5 := kt_lst (o := .lst (fs ++ [u'])) e5F
      refine ⟨same_mut (same_mut (k3.trans k4) hwr0) hfr, upd_same, by rw [upd_ne (Ne.symm nef)]; exact upd_same, ?_, ?_, oW', fun z hz => ?_, ?_, rfl, fun z => ?_⟩
      · rw [List.map_append]
        exact ((((iF3.sm k4).by t4).by t5)).snoc (((iy3.sm k4).by t4).by t5)
      · rw [List.append_nil]
        rw [List.append_nil] at t4 t5
        exact ((iW3.sm k4).by t4).by t5
      · rcases List.mem_append.mp hz with hz | hz
        · exact oF z hz
        · rw [List.mem_singleton.mp hz]; exact oy
      · rw [List.length_append, List.length_singleton]; omega
      · rw [hmem z, List.mem_append, List.mem_singleton]
        constructor
        · rintro (h | ⟨t, ht, l⟩)
          · exact .inl (.inl h)
          · rcases List.mem_append.mp ht with ht | ht
            · exact .inr ⟨t, ht, l⟩
            · rw [List.mem_singleton.mp ht] at l
              exact .inl (.inr ((leaf_stop hst).mp l))
        · rintro ((h | rfl) | ⟨t, ht, l⟩)
          · exact .inl h
          · exact .inr ⟨z, List.mem_append_right _ (List.mem_singleton.mpr rfl), (leaf_stop hst).mpr rfl⟩
          · exact .inr ⟨t, List.mem_append_left _ ht, l⟩
    -- the last two statements where both is None
    have none_way : ∀ H4, Same H3 H4 → ¬ (Cut es ss y ∧ 2 ≤ y.2 - y.1) →
        (tSeq (tDrop (tBM K "list" rExtT (tVar 3) (tCons (tOrT K (tVar 5) (tTup tNil)) tNil))) (tDrop (tBM K "list" rExtend (tVar 2) (tCons (tIf (tTest (tOp (fun x y H Q => y = .non ∧ Q (.bl (decide (x = .non))) H) (tVar 5) (tC .non))) (tLst (tCons (tVar 4) tNil)) (tLst tNil)) tNil))))
          { nx := fun σ' H' => ∃ m', m' < sumM (W' ++ [y]) ∧ ∃ a b, σ' = [some (.ref r), some wv, some (.ref fr), some (.ref wr), a, b] ∧ DivI (Cut es ss) x H fr wr m' H', rt := Q } [some (.ref r), some wv, some (.ref fr), some (.ref wr), some u', some .non] H4 := fun H4 k4 hst => by
      have e4W := k4 _ _ h3W
      have e4F := k4 _ _ h3F
      refine ⟨_, rfl, .inl ⟨rfl, _, SqL.of e4W⟩, _, rfl, false, rfl, ?_⟩
      refine iteF ⟨(by show 0 ≤ sizeLine; decide), fun p hp => ?_⟩
      have k5 := same_new hp (o := .tup [])
      refine ⟨wr, p, ws', [], rfl, rfl, k5 _ _ e4W, upd_same, by simp only [List.length_nil]; omega, ?_⟩
      have e6F : (upd (upd H4 p (.tup [])) wr (.lst (ws' ++ []))) fr = some (.lst fs) := by rw [upd_ne nef]; exact k5 _ _ e4F
      refine ⟨_, rfl, .inl ⟨rfl, _, SqL.of e6F⟩, _, rfl, rfl, true, rfl, ?_⟩
      refine iteT ⟨_, rfl, (by show 1 ≤ sizeLine; decide), fun p2 hp2 => ?_⟩
      have k7 := same_new hp2 (o := .lst [u'])
      refine ⟨fr, p2, fs, [u'], rfl, rfl, k7 _ _ e6F, upd_same, sz_of' (by simp only [List.length_singleton]; omega), ?_⟩
      have ep : p2 ≠ wr := fun e => by rw [e, upd_same] at hp2; cases hp2
      have ep2 : p2 ≠ fr := fun e => by rw [e, e6F] at hp2; cases hp2
      have hp40 : H4 p2 = none := by
        have h1 := hp2
        rw [upd_ne ep] at h1
        exact Same.free k5 h1
      -- the same heap, with the two new things ahead
      have eH : upd (upd (upd (upd H4 p (.tup [])) wr (.lst (ws' ++ []))) p2 (.lst [u'])) fr (.lst (fs ++ [u'])) = upd (upd (upd (upd H4 p (.tup [])) p2 (.lst [u'])) wr (.lst (ws' ++ []))) fr (.lst (fs ++ [u'])) := by
        funext c
        by_cases c1 : c = fr
        · subst c1; rw [upd_same, upd_same]
        · rw [upd_ne c1, upd_ne c1]
          by_cases c2 : c = wr
          · subst c2; rw [upd_ne (Ne.symm ep), upd_same, upd_same]
          · rw [upd_ne c2]
            by_cases c3 : c = p2
            · subst c3; rw [upd_same, upd_same]
            · rw [upd_ne c3, upd_ne c3, upd_ne c2]
      have hpp : (upd H4 p (.tup [])) p2 = none := by
        have h1 := hp2
        rw [upd_ne ep] at h1
        exact h1
      obtain ⟨m', hm, hI⟩ := stop (upd (upd H4 p (.tup [])) p2 (.lst [u'])) (k4.trans (k5.trans (same_new hpp))) hst
      rw [eH]
      exact ⟨m', hm, _, _, rfl, hI⟩
    refine ⟨_, rfl, _, rfl, u', wv, y, es, ss, rfl, iy3, hw.sm k3, l1, l2, fun b H4 k4 hb => ⟨b, rfl, ?_⟩⟩
    cases b with
    | false => exact iteF (none_way H4 k4 fun z => Bool.noConfusion (hb.mpr z.1))
    | true =>
      have hC := hb.mp rfl
      refine iteT ⟨_, rfl, u', y, rfl, iy3.sm k4, oyl, by omega, fun hn => none_way H4 k4 fun z => hn z.2, fun h2 pv' H5 k5 hpv => ?_⟩
      obtain ⟨t, xs, rfl, ht, iP⟩ := gv_inv hpv
      have k35 := k4.trans k5
      have e5W := k35 _ _ h3W
      have e5F := k35 _ _ h3F
      have hxl : xs.length = 2 := iP.len
      refine ⟨_, rfl, .inl ⟨rfl, _, SqL.of e5W⟩, _, rfl, true, .inr (.inl ⟨xs, SqT.of ht, by rw [two_ne hxl]⟩), ?_⟩
      refine iteT ?_
      refine ⟨wr, t, ws', xs, rfl, rfl, e5W, ht, by omega, ?_⟩
      have t6 := kt_lst (o := .lst (ws' ++ xs)) e5W
      have e6F : (upd H5 wr (.lst (ws' ++ xs))) fr = some (.lst fs) := by rw [upd_ne nef]; exact e5F
      refine ⟨_, rfl, .inl ⟨rfl, _, SqL.of e6F⟩, _, rfl, rfl, false, rfl, ?_⟩
      refine iteF ⟨(by show 0 ≤ sizeLine; decide), fun p2 hp2 => ?_⟩
      have k7 := same_new hp2 (o := .lst [])
      refine ⟨fr, p2, fs, [], rfl, rfl, k7 _ _ e6F, upd_same, sz_of' (by simp only [List.length_nil]; omega), ?_⟩
      have t8 := kt_lst (o := .lst (fs ++ [])) (k7 _ _ e6F)
      have e7W : (upd (upd H5 wr (.lst (ws' ++ xs))) p2 (.lst [])) wr = some (.lst (ws' ++ xs)) := k7 _ _ upd_same
      have tt : Kt H5 (upd (upd (upd H5 wr (.lst (ws' ++ xs))) p2 (.lst [])) fr (.lst (fs ++ []))) := t6.trans ((kt_same k7).trans t8)
      have g1 := md_gt y
      have g2 := md_lt h2
      refine ⟨sumM (W' ++ [lo y, hi y]), ?_, _, _, rfl, fs ++ [], ws' ++ xs, F, W' ++ [lo y, hi y], same_mut ((same_mut (k3.trans k35) hwr0).trans k7) hfr, upd_same, by rw [upd_ne (Ne.symm nef)]; exact e7W, ?_, ?_, fun z hz => ?_, oF, ?_, rfl, fun z => ?_⟩
      · rw [sumM_app, sumM_app, sumM_one]
        have := sumM_parts h2
        omega
      · rw [List.append_nil] at tt ⊢
        exact (iF3.sm k35).by tt
      · rw [List.map_append]
        exact ((iW3.sm k35).by tt).append (iP.by tt)
      · rcases List.mem_append.mp hz with hz | hz
        · exact oW' z hz
        · rcases List.mem_cons.mp hz with e | hz
          · rw [e]; exact oy.lo h2
          · rw [List.mem_singleton.mp hz]; exact oy.hi h2
      · rw [sumW_app, sumW_parts h2]; omega
      · rw [hmem z]
        constructor
        · rintro (h | ⟨t, ht, l⟩)
          · exact .inl h
          · rcases List.mem_append.mp ht with ht | ht
            · exact .inr ⟨t, List.mem_append_left _ ht, l⟩
            · rw [List.mem_singleton.mp ht] at l
              rcases (leaf_split hC h2).mp l with l | l
              · exact .inr ⟨lo y, List.mem_append_right _ List.mem_cons_self, l⟩
              · exact .inr ⟨hi y, List.mem_append_right _ (List.mem_cons_of_mem _ List.mem_cons_self), l⟩
        · rintro (h | ⟨t, ht, l⟩)
          · exact .inl h
          · refine .inr ?_
            rcases List.mem_append.mp ht with ht | ht
            · exact ⟨t, List.mem_append_left _ ht, l⟩
            · refine ⟨y, List.mem_append_right _ (List.mem_singleton.mpr rfl), (leaf_split hC h2).mpr ?_⟩
              rcases List.mem_cons.mp ht with e | ht
              · rw [e] at l; exact .inl l
              · rw [List.mem_singleton.mp ht] at l; exact .inr l
  · have hnil : W = [] := by
      have h0 : ws.length = 0 := Nat.eq_zero_of_not_pos fun z => c (decide_eq_true (by omega))
      rw [iW.len, List.length_map] at h0
      exact List.eq_nil_of_length_eq_zero h0
    subst hnil
    have hF18 : F.length ≤ 18 := by omega
    refine ⟨_, rfl, sort_nodes hF iF (by omega) oF fun p ys g' hp hperm hA => ?_⟩
    have k9 := same_new hp (o := .lst ys)
    refine q p ys g' _ (k.trans k9) (Same.free k hp) upd_same (hA.sm k9) (by rw [hperm.length_eq]; exact hF18) fun y => ?_
    rw [hperm.mem_iff, hmem y]
    exact ⟨.inl, fun z => z.elim id fun ⟨t, ht, _⟩ => absurd ht List.not_mem_nil⟩
end
end Mk

set_option Elab.async false
set_option maxRecDepth 100000
set_option maxHeartbeats 4000000
set_option linter.all false
namespace Mk
open PySem PySem.Spec PyProof.Rows L2
/-- what somebody brings -/
def br (es ss : List Int) : List Nd := es.map (fun e => (e, e + 1)) ++ ss.map (fun s => (0, s))
/-- what is asked for -/
def Asked (es ss : List Int) (n : Int) (y : Nd) : Prop := Leaf (Cut es ss) y (0, n) ∧ ¬ y ∈ br es ss
/-- a NODE in a list of NODEs -/
theorem notin_nodes {K : PySem.W.Frag} {H : Hp} {x : V} {r : Addr} {xs : List V} {n : Nd} {g : List Nd} {Q : VK} (hx : Im H x (ndP n)) (hr : H r = some (.lst xs)) (hA : ImAll H xs (g.map ndP)) (q : Q (.bl (!decide (n ∈ g))) H) : rNotInD K x (.ref r) H Q :=
  ⟨ndP n, g.map ndP, Im.dp _ _ hx, .lst (SqL.of hr) (ImAll.dp _ _ hA), nd_shaped n, gl_shaped g, by rw [any_nd]; exact q⟩
theorem isin_nodes {K : PySem.W.Frag} {H : Hp} {x : V} {r : Addr} {xs : List V} {n : Nd} {g : List Nd} {Q : VK} (hx : Im H x (ndP n)) (hr : H r = some (.lst xs)) (hA : ImAll H xs (g.map ndP)) (q : Q (.bl (decide (n ∈ g))) H) : rInD K x (.ref r) H Q :=
  ⟨ndP n, g.map ndP, Im.dp _ _ hx, .lst (SqL.of hr) (ImAll.dp _ _ hA), nd_shaped n, gl_shaped g, by rw [any_nd]; exact q⟩
theorem map_step {α β : Type} {f : α → β} {l : List α} {i : Nat} {x : α} (h : l[i]? = some x) : (l.take (i + 1)).map f = (l.take i).map f ++ [f x] := by
  rw [List.take_succ, h, List.map_append]; rfl
/-- [a pair of x for x in numbers] -/
theorem lc_pairs {J : It} {te : TE} {j : Nat} {vs : List Nat} {σ : L2.St} {H1 : Hp} {D : Addr} {Qd : Hp → Prop} {ns : List Int} (S : Src H1 J (ns.map V.int)) (hD : H1 D = none) (hz : ns.length ≤ 1000) (f : Int → Nd)
    (hw : ∀ x, wipe ((wipe σ vs).set j (some x)) vs = wipe σ vs)
    (ht : ∀ n H, Same H1 H → ∀ Q : V → Hp → Prop, (∀ v H', Same H H' → Im H' v (ndP (f n)) → Q v H') → te ((wipe σ vs).set j (some (.int n))) H Q)
    (hd : ∀ H acc, Same H1 H → H D = some (.lst acc) → ImAll H acc ((ns.map f).map ndP) → Qd H) :
    ∃ W : Nat → Nat → Hp → Prop, (∃ m, W 0 m (upd H1 D (.lst []))) ∧ ∀ i m H, W i m H →
      (J.stop i H ∧ Qd H) ∨ (J.go i H ∧ ∃ Nx : Hp → Prop, (∀ H', Nx H' → ∃ m', m' < m ∧ W (i + 1) m' H') ∧ ∀ x H', J.yld i H x H' → gName j x (wipe σ vs) H' fun σ2 H2 => wipe σ2 vs = wipe σ vs ∧ tYes σ2 H2 fun b H3 =>
        if b = true then te σ2 H3 fun y H4 => ∃ acc, H4 D = some (.lst acc) ∧ acc.length < sizeLine ∧ Nx (upd H4 D (.lst (acc ++ [y]))) else Nx H3) := by
  refine lc_im S hD (by rw [List.length_map]; exact hz) (fun i => ((ns.take i).map f).map ndP) rfl (fun i => by rw [List.length_map, List.length_map, List.length_take]; omega) (fun i x H hx e Q1 Q0 q1 q0 => ?_) (fun H acc e h1 h2 => hd H acc e h1 ?_)
  · rw [List.getElem?_map] at hx
    cases hn : ns[i]? with
    | none => rw [hn] at hx; cases hx
    | some n =>
      rw [hn] at hx
      cases hx
      refine ⟨hw _, ?_⟩
      refine ht n H e Q1 fun v H' e' hv => q1 v H' _ e' hv ?_
      rw [map_step hn, List.map_append]; rfl
  · rw [List.length_map, List.take_length] at h2
    exact h2
section
variable {P : Program} {w : World} {K : PySem.W.Frag} {mg : Str → Option Value} {base : Heap}
/-! ### asked_from -/
abbrev sAskF : Stmt := top 24
theorem scAskF : FnScope ["roots", "wish", "entries", "sizes", "brought", "own", "node"] ["roots", "wish"] (C8.fnScope sAskF) := C8.fnScope_by (by decide +kernel)
def spAskF : Sp := fun vs H Q _ => ∃ r u wv x es ss, vs = [.ref r, wv] ∧ H r = some (.lst [u]) ∧ Im H u (ndP x) ∧ Ok x ∧ Im H wv (wiP es ss) ∧ es.length ≤ 1000 ∧ ss.length ≤ 1000 ∧
  ∀ (p : Addr) (ys : List V) (gs : List Nd) (H' : Hp), Same H H' → H p = none → H' p = some (.lst ys) → ImAll H' ys (gs.map ndP) → gs.length ≤ 18 → (∀ y, y ∈ gs ↔ Leaf (Cut es ss) y x ∧ ¬ y ∈ br es ss) → Q (.ref p) H'
theorem ok_askF (D : DD K mg "asked_from" sAskF) (c1 : C8.Cal P w K mg base 1 "entry_node" spEnt []) (c2 : C8.Cal P w K mg base 3 "divided" spDiv []) : C8.Cal P w K mg base 4 "asked_from" spAskF [] := by
  refine cal_of D (fun _ _ _ _ _ _ us hl => match us, hl with | [_, _], _ => rfl) scAskF (fun vs H Q E h => ?_) (fun f cdv A outer s H vs Q E hr h => ?_)
  · obtain ⟨r, u, wv, x, es, ss, rfl, _⟩ := h
    rfl
  obtain ⟨r, u, wv, x, es, ss, rfl, hr0, hu, o, hw, l1, l2, q⟩ := h
  refine ⟨_, pss_cons (ps_asg (pv 1) (pg_tup (by rfl) (pgs_cons (pg_name (i := 2) scAskF.nd rfl (Or.inl rfl)) (pgs_cons (pg_name (i := 3) scAskF.nd rfl (Or.inl rfl)) pgs_nil))))
    (pss_cons (ps_set (i := 4) scAskF.nd rfl (Or.inr rfl) (pe_op op_cat
      (pe_lc (own := [("own", 5)]) (g := gName 5) (tt := tYes) rfl scAskF.nd (pi_tup (pv 2)) (blkOk_by (N := ["roots", "wish", "entries", "sizes", "brought", "own", "node"]) (sc := C8.fnScope sAskF) (by decide +kernel)) (fun _ _ _ _ _ => pg_name (i := 5) scAskF.nd rfl (Or.inl rfl)) (fun _ _ _ _ _ => pts_nil)
        (fun _ _ _ _ _ => C8.pe_c c1 hr (by decide) rfl (pa_cons (pv 5) pa_nil)))
      (pe_lc (own := [("own", 5)]) (g := gName 5) (tt := tYes) rfl scAskF.nd (pi_tup (pv 3)) (blkOk_by (N := ["roots", "wish", "entries", "sizes", "brought", "own", "node"]) (sc := C8.fnScope sAskF) (by decide +kernel)) (fun _ _ _ _ _ => pg_name (i := 5) scAskF.nd rfl (Or.inl rfl)) (fun _ _ _ _ _ => pts_nil)
        (fun _ _ _ _ _ => pe_tup (pa_cons pe_int (pa_cons (pv 5) pa_nil))))))
    (pss_one (ps_ret (pe_lc (own := [("node", 6)]) (g := gName 6) (tt := tTest (tOp (rNotInD K) (tVar 6) (tVar 4))) rfl scAskF.nd (pi_list (C8.pe_c c2 hr (by decide) rfl (pa_cons (pv 0) (pa_cons (pv 1) pa_nil))))
      (blkOk_by (N := ["roots", "wish", "entries", "sizes", "brought", "own", "node"]) (sc := C8.fnScope sAskF) (by decide +kernel)) (fun _ _ _ _ _ => pg_name (i := 6) scAskF.nd rfl (Or.inl rfl))
      (fun _ _ _ _ _ => pts_one (pt_cmpR (r := rNotInD K) (op_notInD (hu65 hr)) (pv 6) (pv 4) (by rfl))) (fun _ _ _ _ _ => pv 6))))), ?_⟩
  obtain ⟨a, b, c, rfl, ha, hb, hc⟩ := wi_inv hw
  refine ⟨_, rfl, a, _, rfl, SqT.of ha, rfl, _, _, rfl, _, _, rfl, rfl, ?_⟩
  refine ⟨_, rfl, b, rfl, ⟨_, SqT.of hb⟩, fun D1 hD1 => ?_⟩
  refine lc_pairs (src_tup hb) hD1 l1 (fun e => (e, e + 1)) (fun _ => rfl) (fun n H1 k1 Q1 q1 => ?_) (fun H1 acc1 k1 h1 i1 => ?_)
  · exact ⟨_, rfl, n, rfl, fun v H' e hv => q1 v H' e hv⟩
  refine ⟨_, rfl, c, rfl, ⟨_, SqT.of (k1 _ _ hc)⟩, fun D2 hD2 => ?_⟩
  refine lc_pairs (src_tup (k1 _ _ hc)) hD2 l2 (fun e => (0, e)) (fun _ => rfl) (fun n H2 k2 Q1 q1 => ?_) (fun H2 acc2 k2 h2 i2 => ?_)
  · exact ⟨_, rfl, (by show 2 ≤ sizeLine; decide), fun t ht => q1 _ _ (same_new ht) (nd_mk upd_same)⟩
  have n1 : acc1.length = es.length := by rw [i1.len, List.length_map, List.length_map]
  have n2 : acc2.length = ss.length := by rw [i2.len, List.length_map, List.length_map]
  refine ⟨D1, D2, acc1, acc2, rfl, rfl, k2 _ _ h1, h2, sz_of' (by omega), fun t ht => ?_⟩
  have k3 := same_new ht (o := .lst (acc1 ++ acc2))
  have k03 := k1.trans (k2.trans k3)
  have hbr : ImAll (upd H2 t (.lst (acc1 ++ acc2))) (acc1 ++ acc2) ((br es ss).map ndP) := by
    unfold br
    rw [List.map_append]
    exact ((i1.sm k2).sm k3).append (i2.sm k3)
  have ht3 : (upd H2 t (.lst (acc1 ++ acc2))) t = some (.lst (acc1 ++ acc2)) := upd_same
  generalize upd H2 t (.lst (acc1 ++ acc2)) = H3 at k3 k03 hbr ht3
  refine ⟨_, rfl, _, rfl, r, u, .ref a, x, es, ss, rfl, k03 _ _ hr0, hu.sm k03, o, hw.sm k03, l1, l2, fun p ys gs H4 k4 hp hp4 hys hgl hgs => ?_⟩
  refine ⟨p, rfl, ⟨_, SqL.of hp4⟩, fun D3 hD3 => ?_⟩
  refine lc_fil (src_lst hp4) hD3 hys (by rw [hys.len, List.length_map]; omega) (fun z => !decide (z ∈ br es ss)) (fun _ => rfl) (by show 6 < 7; decide) (fun i v z H5 hz hv k5 Q1 q1 => ?_) (fun H5 acc k5 h5 i5 => ?_)
  · have k45 := k4.trans k5
    exact ⟨_, rfl, _, rfl, notin_nodes hv (k45 _ _ ht3) (hbr.sm k45) ⟨_, rfl, q1 H5 (Same.refl H5)⟩⟩
  · refine q D3 acc _ H5 (k03.trans (k4.trans k5)) (Same.free (k03.trans k4) hD3) h5 i5 (Nat.le_trans (List.length_filter_le _ _) hgl) fun y => ?_
    rw [List.mem_filter, hgs y]
    simp
/-! ### heads, asked_for, missing_nodes, shows -/
abbrev sHeads : Stmt := top 25
theorem scHeads : FnScope ["size"] ["size"] (C8.fnScope sHeads) := C8.fnScope_by (by decide +kernel)
def spHeads : Sp := fun vs H Q _ => ∃ n : Int, vs = [.int n] ∧ 1 ≤ n ∧ ∀ (p : Addr) (u : V) (H' : Hp), Same H H' → H p = none → H' p = some (.lst [u]) → Im H' u (ndP (0, n)) → Q (.ref p) H'
theorem ok_heads (D : DD K mg "heads" sHeads) : C8.Cal P w K mg base 1 "heads" spHeads [] := by
  refine cal_of D (fun _ _ _ _ _ _ us hl => match us, hl with | [_], _ => rfl) scHeads (fun vs H Q E h => ?_) (fun f cdv A outer s H vs Q E hr h => ?_)
  · obtain ⟨n, rfl, _⟩ := h
    rfl
  obtain ⟨n, rfl, hn, q⟩ := h
  refine ⟨_, pss_one (ps_ret (pe_ifExp (pt_cmpR op_gt (pv 0) pe_int (nomark _)) (pe_lst (pa_cons (pe_tup (pa_cons pe_int (pa_cons (pv 0) pa_nil))) pa_nil)) (pe_lst pa_nil))), ?_⟩
  refine ⟨_, rfl, _, _, rfl, rfl, _, rfl, ?_⟩
  rw [decide_eq_true (show (0 : Int) < n by omega)]
  refine iteT ⟨_, rfl, (by show 2 ≤ sizeLine; decide), fun t ht => ⟨(by show 1 ≤ sizeLine; decide), fun p hp => ?_⟩⟩
  have k1 := same_new ht (o := .tup [.int 0, .int n])
  have k2 := same_new hp (o := .lst [.ref t])
  exact q p (.ref t) _ (k1.trans k2) (Same.free k1 hp) upd_same (nd_mk (k2 _ _ upd_same))
abbrev sAskd : Stmt := top 26
theorem scAskd : FnScope ["size", "wish"] ["size", "wish"] (C8.fnScope sAskd) := C8.fnScope_by (by decide +kernel)
def spAskd : Sp := fun vs H Q _ => ∃ n wv es ss, vs = [.int n, wv] ∧ 1 ≤ n ∧ n ≤ 18 ∧ Im H wv (wiP es ss) ∧ es.length ≤ 1000 ∧ ss.length ≤ 1000 ∧
  ∀ (p : Addr) (ys : List V) (gs : List Nd) (H' : Hp), Same H H' → H p = none → H' p = some (.lst ys) → ImAll H' ys (gs.map ndP) → gs.length ≤ 18 → (∀ y, y ∈ gs ↔ Asked es ss n y) → Q (.ref p) H'
theorem ok_askd (D : DD K mg "asked_for" sAskd) (c1 : C8.Cal P w K mg base 3 "tupled" (spTup 3) []) (c2 : C8.Cal P w K mg base 1 "heads" spHeads []) (c3 : C8.Cal P w K mg base 4 "asked_from" spAskF []) : C8.Cal P w K mg base 5 "asked_for" spAskd [] := by
  refine cal_of D (fun _ _ _ _ _ _ us hl => match us, hl with | [_, _], _ => rfl) scAskd (fun vs H Q E h => ?_) (fun f cdv A outer s H vs Q E hr h => ?_)
  · obtain ⟨n, wv, es, ss, rfl, _⟩ := h
    rfl
  obtain ⟨n, wv, es, ss, rfl, n1, n2, hw, l1, l2, q⟩ := h
  refine ⟨_, pss_one (ps_ret (C8.pe_c c3 hr (by decide) rfl (pa_cons (C8.pe_c c2 hr (by decide) rfl (pa_cons (pv 0) pa_nil)) (pa_cons (C8.pe_c c1 hr (by decide) rfl (pa_cons (pv 1) pa_nil)) pa_nil)))), ?_⟩
  refine ⟨_, rfl, n, rfl, n1, fun r u H1 k1 _ hr1 hu => ?_⟩
  refine ⟨_, rfl, wv, wiP es ss, rfl, hw.sm k1, by have := dep_wi es ss; omega, sm_wi l1 l2, fun wv' H2 k2 hw2 => ?_⟩
  exact ⟨r, u, wv', (0, n), es, ss, rfl, k2 _ _ hr1, hu.sm k2, (Al.head n1 n2).toOk, hw2, l1, l2, fun p ys gs H3 k3 hp => q p ys gs H3 (k1.trans (k2.trans k3)) (Same.free (k1.trans k2) hp)⟩
abbrev sMiss : Stmt := top 27
theorem scMiss : FnScope ["size", "wish", "given", "some", "node"] ["size", "wish", "given"] (C8.fnScope sMiss) := C8.fnScope_by (by decide +kernel)
def spMiss : Sp := fun vs H Q _ => ∃ n wv gv es ss g, vs = [.int n, wv, gv] ∧ 1 ≤ n ∧ n ≤ 18 ∧ Im H wv (wiP es ss) ∧ es.length ≤ 1000 ∧ ss.length ≤ 1000 ∧ Im H gv (gvP g) ∧ g.length ≤ 1000 ∧
  ∀ (p : Addr) (ys : List V) (gs : List Nd) (H' : Hp), Same H H' → H p = none → H' p = some (.lst ys) → ImAll H' ys (gs.map ndP) → gs.length ≤ 18 → (∀ y, y ∈ gs ↔ Asked es ss n y ∧ ¬ Had (Gn g) y) → Q (.ref p) H'
theorem ok_miss (D : DD K mg "missing_nodes" sMiss) (c1 : C8.Cal P w K mg base 3 "tupled" (spTup 3) []) (c2 : C8.Cal P w K mg base 5 "asked_for" spAskd []) (c3 : C8.Cal P w K mg base 8 "has" spHasA []) : C8.Cal P w K mg base 9 "missing_nodes" spMiss [] := by
  refine cal_of D (fun _ _ _ _ _ _ us hl => match us, hl with | [_, _, _], _ => rfl) scMiss (fun vs H Q E h => ?_) (fun f cdv A outer s H vs Q E hr h => ?_)
  · obtain ⟨n, wv, gv, es, ss, g, rfl, _⟩ := h
    rfl
  obtain ⟨n, wv, gv, es, ss, g, rfl, n1, n2, hw, l1, l2, hg, hgl, q⟩ := h
  refine ⟨_, pss_cons (ps_set (i := 3) scMiss.nd rfl (Or.inr rfl) (C8.pe_c c1 hr (by decide) rfl (pa_cons (pv 2) pa_nil)))
    (pss_one (ps_ret (pe_lc (own := [("node", 4)]) (g := gName 4) rfl scMiss.nd (pi_list (C8.pe_c c2 hr (by decide) rfl (pa_cons (pv 0) (pa_cons (pv 1) pa_nil))))
      (blkOk_by (N := ["size", "wish", "given", "some", "node"]) (sc := C8.fnScope sMiss) (by decide +kernel)) (fun _ _ _ _ _ => pg_name (i := 4) scMiss.nd rfl (Or.inl rfl))
      (fun _ _ _ _ _ => pts_one (pt_not (pt_val (C8.pe_c c3 hr (by decide) rfl (pa_cons (pv 3) (pa_cons (pv 4) pa_nil)))))) (fun _ _ _ _ _ => pv 4)))), ?_⟩
  refine ⟨_, rfl, gv, gvP g, rfl, hg, by have := dep_gv g; omega, sm_gv hgl, fun gv' H1 k1 hg1 => ?_⟩
  refine ⟨_, rfl, _, rfl, n, wv, es, ss, rfl, n1, n2, hw.sm k1, l1, l2, fun p ys gs H2 k2 hp hp2 hys hgl2 hgs => ?_⟩
  refine ⟨p, rfl, ⟨_, SqL.of hp2⟩, fun D1 hD1 => ?_⟩
  have hok : ∀ y, y ∈ gs → Ok y := fun y hy => ((hgs y).mp hy).1.und.ok (Al.head n1 n2).toOk
  classical
  refine lc_fil (src_lst hp2) hD1 hys (by rw [hys.len, List.length_map]; omega) (fun z => !decide (Had (Gn g) z)) (fun _ => rfl) (by show 4 < 5; decide) (fun i v z H3 hz hv k3 Q1 q1 => ?_) (fun H3 acc k3 h3 i3 => ?_)
  · refine ⟨_, rfl, _, rfl, gv', v, g, z, rfl, hg1.sm (k2.trans k3), hv, hok z (List.mem_of_getElem? hz), fun b H4 k4 hb => ⟨b, rfl, ?_⟩⟩
    have e : b = decide (Had (Gn g) z) := by
      cases b with
      | true => exact (decide_eq_true (hb.mp rfl)).symm
      | false => exact (decide_eq_false fun h => Bool.noConfusion (hb.mpr h)).symm
    rw [e]
    exact q1 H4 k4
  · refine q D1 acc _ H3 (k1.trans (k2.trans k3)) (Same.free (k1.trans k2) hD1) h3 i3 (Nat.le_trans (List.length_filter_le _ _) hgl2) fun y => ?_
    rw [List.mem_filter, hgs y]
    simp
abbrev sShows : Stmt := top 28
theorem scShows : FnScope ["size", "wish", "given"] ["size", "wish", "given"] (C8.fnScope sShows) := C8.fnScope_by (by decide +kernel)
def spShows : Sp := fun vs H Q _ => ∃ n wv gv es ss g, vs = [.int n, wv, gv] ∧ 1 ≤ n ∧ n ≤ 18 ∧ Im H wv (wiP es ss) ∧ es.length ≤ 1000 ∧ ss.length ≤ 1000 ∧ Im H gv (gvP g) ∧ g.length ≤ 1000 ∧
  ∀ (b : Bool) H', Same H H' → (b = true ↔ ∀ y, Asked es ss n y → Had (Gn g) y) → Q (.bl b) H'
theorem ok_shows (D : DD K mg "shows" sShows) (B : Bt mg) (c1 : C8.Cal P w K mg base 9 "missing_nodes" spMiss []) : C8.Cal P w K mg base 10 "shows" spShows [] := by
  refine cal_of D (fun _ _ _ _ _ _ us hl => match us, hl with | [_, _, _], _ => rfl) scShows (fun vs H Q E h => ?_) (fun f cdv A outer s H vs Q E hr h => ?_)
  · obtain ⟨n, wv, gv, es, ss, g, rfl, _⟩ := h
    rfl
  obtain ⟨n, wv, gv, es, ss, g, rfl, n1, n2, hw, l1, l2, hg, hgl, q⟩ := h
  refine ⟨_, pss_one (ps_ret (pe_cmpR op_eq (pe_callB call_len_seq (by rfl) B.len PySem.boot_len (pa_cons (C8.pe_c c1 hr (by decide) rfl (pa_cons (pv 0) (pa_cons (pv 1) (pa_cons (pv 2) pa_nil)))) pa_nil)) pe_int (nomark _))), ?_⟩
  refine ⟨_, rfl, _, rfl, _, rfl, n, wv, gv, es, ss, g, rfl, n1, n2, hw, l1, l2, hg, hgl, fun p ys gs H1 k1 _ hp hys _ hgs => ?_⟩
  refine ⟨p, ys, rfl, .inl (SqL.of hp), rfl, q _ H1 k1 ?_⟩
  rw [decide_eq_true_iff]
  constructor
  · intro e y hy
    have e' : ((ys.length : Nat) : Int) = 0 := V.int.inj e
    have hl : gs = [] := List.eq_nil_of_length_eq_zero (by have := hys.len; rw [List.length_map] at this; omega)
    exact Classical.byContradiction fun hn => absurd ((hgs y).mpr ⟨hy, hn⟩) (by rw [hl]; exact List.not_mem_nil)
  · intro h
    have hl : gs = [] := List.eq_nil_iff_forall_not_mem.mpr fun y hy => ((hgs y).mp hy).2 (h y ((hgs y).mp hy).1)
    have : ys.length = 0 := by rw [hys.len, hl]; rfl
    rw [this]; rfl
end
end Mk

set_option Elab.async false
set_option maxRecDepth 100000
set_option maxHeartbeats 4000000
set_option linter.all false
namespace Mk
open PySem PySem.Spec PyProof.Rows L2
/-! ### a set made of a list, whatever its items are: J tells what the set has got -/
section
variable {P : Program} {w : World} {A : Around} {E : Value → Shared → Prop} {s : Shared}
theorem set_fill {I S : Addr} {fp wr : List Addr} {G : Array GenState → Array GenState → Prop} {n : Nat} {Pv : Nat → Value → Prop} {St : Nat → Shared → Prop} {R : Result → Shared → Prop} (W : WalksS P w A.in1 I fp wr G n Pv St) (hS : S ∉ fp)
    (J : Nat → Heap → Prop) (stay : ∀ i (x y : Shared), J i x.heap → Moved wr G x y → J i y.heap)
    (add : ∀ i v (x : Shared) (Q1 : Bool → Shared → Prop) (E1 : Value → Shared → Prop), i < n → Pv i v → J i x.heap → (∀ b h tk, Heap.SameBut S x.heap h → x.toks ≤ tk → J (i + 1) h → Q1 b { x with heap := h, toks := tk }) → wpAny (model P w) A.in1 (setAdd S v) Q1 E1 x)
    (m : Nat) : ∀ (i : Nat) (x : Shared), n = i + m → St i x → J i x.heap → (∀ y, Moved (S :: wr) G x y → J n y.heap → R (.ok (.ret .none)) y) → codeAny (model P w) A (.builtin "set.update.loop" ⟨[.ref S, .ref I], []⟩) R x := by
  have low : ∀ {b}, b ∈ wr → b ∈ S :: wr := fun h => List.mem_cons_of_mem S h
  induction m with
  | zero =>
    intro i x hn st j fin
    have e : n = i := hn
    subst e
    refine codeAny_builtin F.entry_set_update_loop (by
      rw [Around.under_plainId F.plain_set_update_loop _]
      exact wpAny_bind (W.done x _ _ st fun y mv => wpAny_pure (fin y (mv.mono fun b hb => low hb) (stay _ x y j mv))))
  | succ m again =>
    intro i x hn st j fin
    have hi : i < n := by omega
    refine codeAny_builtin F.entry_set_update_loop (by
      rw [Around.under_plainId F.plain_set_update_loop _]
      refine wpAny_bind (W.item i x _ _ hi st fun v y pv st' mv => wpAny_bind (wpAny_holding (add i v y _ _ hi pv (stay i x y j mv) fun b h tk sb htk j' => ?_)))
      refine wpAny_pure ⟨plainId_quiet F.plain_set_update_loop _, again (i + 1) _ (by omega) (W.frame _ y _ _ st' htk fun c hc o ho => (sb.2 c fun z => hS (z ▸ hc)).trans ho) j' fun z mz jz => fin z ?_ jz⟩
      exact Moved.trans W.gtrans ((mv.mono fun b hb => low hb).then_heap htk fun c o hc ho => (sb.2 c fun z => hc (z ▸ List.mem_cons_self)).trans ho) mz)
/-- the object of a new set -/
abbrev newSetO (w : World) : Obj := { cls := .type "set", dict := none, data := .set #[] 0 (.fresh 0 0 (!w.params.followText "set-order")) }
set_option maxHeartbeats 8000000 in
theorem set_made {l : Addr} {items : Array Value} {Q : Value → Shared → Prop} (hh : A.handled = none) (hl : s.heap.IsList l items) (J : Nat → Heap → Prop)
    (start : ∀ h : Heap, h.get? s.heap.objs.size = some (newSetO w) → (∀ b o, s.heap.get? b = some o → h.get? b = some o) → J 0 h)
    (stay : ∀ i (h h' : Heap) (I : Addr), J i h → s.heap.objs.size < I → (∀ b o, b ≠ I → h.get? b = some o → h'.get? b = some o) → J i h')
    (add : ∀ (A' : Around) i v (x : Shared) (Q1 : Bool → Shared → Prop) (E1 : Value → Shared → Prop), A'.handled = none → A'.units = A.units + 3 → items[i]? = some v → J i x.heap →
      (∀ b h tk, Heap.SameBut s.heap.objs.size x.heap h → x.toks ≤ tk → J (i + 1) h → Q1 b { x with heap := h, toks := tk }) → wpAny (model P w) A' (setAdd s.heap.objs.size v) Q1 E1 x)
    (fin : ∀ h tk, J items.size h → (∀ b o, s.heap.get? b = some o → h.get? b = some o) → Q (.ref s.heap.objs.size) { s with heap := h, toks := tk }) : wpAny (model P w) A (call (.type "set") [.ref l]) Q E s := by
  -- type.__call__
  refine wpAny_call (codeAny_of_tree (wpAny_pure ⟨Code.quiet_builtin _ (by decide +kernel), codeAny_builtin F.entry_type_call ?_⟩))
  rw [Around.under_plain (weight_type_call_type "set" [.ref l] []) rfl]
  obtain ⟨_, _, mro⟩ := F.called_set.mro
  have f1 := F.called_set.made
  have f2 := F.called_set.sub
  have f3 := F.called_set.notType
  have f4 := F.called_set.canCreate
  have f5 := F.typeCall_set_1 (.ref l)
  repeat (any_goals (first | assumption | wp_step))
  -- __new__
  refine codeAny_mono (code_set_led1 (w := w) (.ref l) (E := E) (Q₁ := fun o y => o = .ref s.heap.objs.size ∧ y = { s with heap := s.heap.push (newSetO w) }) ⟨rfl, rfl⟩) fun r y hr => ?_
  match r, hr with
  | .error e, hr => exact hr
  | .ok .next, hr => exact hr.elim
  | .ok .brk, hr => exact hr.elim
  | .ok .cont, hr => exact hr.elim
  | .ok (.ret o), hr =>
    obtain ⟨rfl, rfl⟩ := hr
    have atS : (s.heap.push (newSetO w)).get? s.heap.objs.size = some (newSetO w) := Heap.get?_push_size _ rfl
    have isS : Shared.TypeIs { s with heap := s.heap.push (newSetO w) } (.ref s.heap.objs.size) "set" := ⟨_, atS, rfl⟩
    have f6 := F.called_set.init.lookup
    have f7 := F.called_set.init.bind (.ref s.heap.objs.size)
    repeat (any_goals (first | assumption | wp_step))
    -- __init__
    refine codeAny_mono (codeAny_call_builtin (R := wants (fun r y => r = .none ∧ ∃ h tk, y = { s with heap := h, toks := tk } ∧ J items.size h ∧ ∀ b o, s.heap.get? b = some o → h.get? b = some o) E) F.called_set.init.plain F.entry_set_init (check_set_init_1 isS ?_)) fun r y hr => ?_
    · obtain ⟨⟨c0, d0, t0, sl0⟩, ho, hc, k, hd⟩ := hl
      simp only at hc hd
      subst hc hd
      have ho1 : (s.heap.push (newSetO w)).get? l = some ⟨.type "list", d0, .seq items k, sl0⟩ := Heap.get?_push_of_some _ ho
      have hl1 : (s.heap.push (newSetO w)).IsList l items := ⟨_, ho1, rfl, k, rfl⟩
      have f8 := F.sub_list_set
      have f9 := F.sub_list_frozenset
      have f10 : (Value.type "list" == Value.type "dict") = false := by decide
      unfold Builtin.«set.__init__» noKeywords Builtin.Frozenset.updateFrom
      generalize hp : pyIter = itr
      wp_walk
      subst hp
      refine wpAny_pyIter_list hl1 (wpAny_bind (wpAny_runValue ?_))
      have lS : l < s.heap.objs.size := Heap.lt_size ho
      have szI : (s.heap.push (newSetO w)).objs.size = s.heap.objs.size + 1 := Heap.size_push ..
      have ne1 : l ≠ (s.heap.push (newSetO w)).objs.size := by rw [szI]; exact Nat.ne_of_lt (Nat.lt_succ_of_lt lS)
      have out : s.heap.objs.size ∉ [(s.heap.push (newSetO w)).objs.size, l] := by
        rw [szI]
        simp only [List.mem_cons, List.not_mem_nil, or_false, not_or]
        exact ⟨Nat.ne_of_lt (Nat.lt_succ_self _), Nat.ne_of_gt lS⟩
      have gone : ∀ b, s.heap.objs.size ≤ b → s.heap.get? b = none := fun b hb => Heap.get?_none_of_le hb
      refine set_fill (A := A.in1.in1) (Walks.list (prog := P) (w := w) (A := A.in1.in1.in1) (show A.in1.in1.in1.handled = none from hh) (s.heap.push (newSetO w)).objs.size l ne1 items).toS out J
        (fun i x y j mv => stay i _ _ _ j (by rw [szI]; exact Nat.lt_succ_self _) fun b o hb e => mv.heap b o (fun z => hb (List.mem_singleton.mp z)) e)
        (fun i v x Q1 E1 _ hv j q1 => add A.in1.in1.in1 i v x Q1 E1 hh rfl hv j q1) items.size 0 _ (Nat.zero_add _).symm
        ⟨⟨_, Heap.get?_push_size _ rfl, rfl, rfl⟩, hl1.push _⟩ (start _ (Heap.get?_push_of_some _ atS) fun b o e => Heap.get?_push_of_some _ (Heap.get?_push_of_some _ e)) fun y mv j => ?_
      have kept : ∀ b o, s.heap.get? b = some o → y.heap.get? b = some o := fun b o e => mv.heap b o (fun z => by
        rcases List.mem_cons.mp z with z | z
        · rw [z, gone _ (Nat.le_refl _)] at e; cases e
        · rw [List.mem_singleton.mp z, gone _ (by rw [szI]; exact Nat.le_succ _)] at e; cases e) (Heap.get?_push_of_some _ (Heap.get?_push_of_some _ e))
      obtain ⟨h', g', d', tk', os'⟩ := y
      have eg : g' = s.gens := mv.gens
      have ed : d' = s.drawn := mv.drawn
      have eo : os' = s.os := mv.os
      subst eg ed eo
      exact wpAny_pure (wpAny_pure ⟨rfl, h', tk', rfl, j, kept⟩)
    · match r, hr with
      | .error e, hr => exact hr
      | .ok .next, hr => exact hr.elim
      | .ok .brk, hr => exact hr.elim
      | .ok .cont, hr => exact hr.elim
      | .ok (.ret o), hr =>
        obtain ⟨rfl, h, tk, rfl, j, kept⟩ := hr
        repeat (any_goals (first | assumption | wp_step))
        exact fin h tk j kept
end
end Mk

set_option Elab.async false
set_option maxRecDepth 100000
set_option maxHeartbeats 4000000
set_option linter.all false
namespace Mk
open PySem PySem.Spec PyProof.Rows L2
/-! ### the NODEs of a log of up to 18 entries are few -/
def univ : List Nd := (List.range 18).flatMap fun (s : Nat) => ((List.range 19).filter fun (e : Nat) => decide (s < e) && decide (((s : Nat) : Int) % pw (((e : Nat) : Int) - ((s : Nat) : Int)) = 0)).map fun (e : Nat) => (((s : Nat) : Int), ((e : Nat) : Int))
theorem univ_len : univ.length = 53 := by decide +kernel
theorem univ_all {x : Nd} (a : Al x) : x ∈ univ := by
  have h1 := a.z; have h2 := a.l; have h3 := a.u; have h4 := a.a
  unfold univ
  rw [List.mem_flatMap]
  have e1 : ((x.1.toNat : Nat) : Int) = x.1 := by omega
  have e2 : ((x.2.toNat : Nat) : Int) = x.2 := by omega
  refine ⟨x.1.toNat, List.mem_range.mpr (by omega), List.mem_map.mpr ⟨x.2.toNat, List.mem_filter.mpr ⟨List.mem_range.mpr (by omega), ?_⟩, ?_⟩⟩
  · rw [e1, e2, Bool.and_eq_true]
    exact ⟨decide_eq_true (by omega), decide_eq_true h4⟩
  · rw [e1, e2]
theorem nodup_few {α : Type} [DecidableEq α] : ∀ (l D : List α), l.Nodup → (∀ x, x ∈ l → x ∈ D) → l.length ≤ D.length
  | [], _, _, _ => Nat.zero_le _
  | x :: l, D, nd, h => by
    have hx := h x List.mem_cons_self
    have nd' := List.nodup_cons.mp nd
    have := nodup_few l (D.erase x) nd'.2 fun y hy => (List.mem_erase_of_ne (fun e => nd'.1 (by rw [← e]; exact hy))).mpr (h y (List.mem_cons_of_mem _ hy))
    rw [List.length_erase_of_mem hx] at this
    have : 0 < D.length := List.length_pos_of_mem hx
    simp only [List.length_cons]
    omega
/-- a NODE as a key -/
abbrev kN (x : Nd) : List Int := [x.1, x.2]
theorem kN_inj {x y : Nd} (h : kN x = kN y) : x = y := by
  simp only [kN, List.cons.injEq, and_true] at h
  exact Prod.ext h.1 h.2
theorem keys_few {ks : List (List Int)} (nd : ks.Nodup) (h : ∀ k, k ∈ ks → ∃ y, Al y ∧ k = kN y) : ks.length ≤ 53 := by
  have q := nodup_few ks (univ.map kN) nd fun k hk => by
    obtain ⟨y, a, rfl⟩ := h k hk
    exact List.mem_map.mpr ⟨y, univ_all a, rfl⟩
  rw [List.length_map, univ_len] at q
  exact q
/-- the tuples behind NODEs -/
theorem behind {H : Hp} : ∀ {ys : List V} (g : List Nd), ImAll H ys (g.map ndP) → ∃ ks : List (Addr × List Int), ys = ks.map (fun p => V.ref p.1) ∧ ks.map (·.2) = g.map kN ∧ ∀ p, p ∈ ks → H p.1 = some (.tup (p.2.map V.int))
  | _, [], h => by cases h; exact ⟨[], rfl, rfl, fun p hp => absurd hp List.not_mem_nil⟩
  | _, y :: g, h => by
    cases h with
    | cons h1 h2 =>
      obtain ⟨t, rfl, ht⟩ := nd_inv h1
      obtain ⟨ks, rfl, e2, e3⟩ := behind g h2
      refine ⟨(t, kN y) :: ks, rfl, by rw [List.map_cons, List.map_cons, e2], fun p hp => ?_⟩
      rcases List.mem_cons.mp hp with rfl | hp
      · exact ht
      · exact e3 p hp
section
variable {X : Cx}
/-- set(a list of NODEs) -/
def rSetN (P : Program) (w : World) : List V → Hp → VK → Prop := fun xs H Q => ∃ (l : Addr) (ys : List V) (g : List Nd), xs = [.ref l] ∧ H l = some (.lst ys) ∧ ImAll H ys (g.map ndP) ∧ (∀ y, y ∈ g → Al y) ∧
  ∀ (a : Addr) (L : List (Addr × List Int)), H a = none → (∀ p, p ∈ L → H p.1 = some (.tup (p.2.map V.int)) ∧ ∃ y, y ∈ g ∧ p.2 = kN y) → (∀ y, y ∈ g → kN y ∈ L.map (·.2)) → Q (.ref a) (upd H a (SetTO P w a L))
theorem cr_setN (hc : X.calm = true) (hu : X.A.units + 65 < cLine) : CallR X (.type "set") (rSetN X.prog X.w) := by
  intro pins s σ H xs us Q I r ⟨l, ys, g, e, hl, hA, hal, q⟩
  subst e
  rw [Vals.ref1 r]
  obtain ⟨ks, rfl, ek, ht⟩ := behind g hA
  obtain ⟨its, rv, pl, hz⟩ := I.list (SqL.of hl)
  have eits : its = ks.map fun p => Value.ref p.1 := refs_of_vals rv
  have isT : ∀ p, p ∈ ks → IsT X.prog X.w s.heap p.2 p.1 := fun p hp => I.isT (SqT.of (ht p hp))
  have old : ∀ p, p ∈ ks → p.1 < s.heap.objs.size := fun p hp => I.hok.lt (ht p hp)
  have inG : ∀ p, p ∈ ks → ∃ y, y ∈ g ∧ p.2 = kN y := fun p hp => by
    have m : p.2 ∈ ks.map (·.2) := List.mem_map.mpr ⟨p, hp, rfl⟩
    rw [ek] at m
    obtain ⟨y, hy, e⟩ := List.mem_map.mp m
    exact ⟨y, hy, e.symm⟩
  refine set_made (P := X.prog) (w := X.w) (items := its.toArray) (I.ok.hd hc) pl.isList (fun i h => ∃ L es ep t, SetTR X.prog X.w h s.heap.objs.size L es ep t ∧ (∀ p, p ∈ L → p ∈ ks) ∧ (∀ p, p ∈ ks.take i → p.2 ∈ L.map (·.2)) ∧ ∀ p, p ∈ ks → IsT X.prog X.w h p.2 p.1)
    (fun h hS kp => ⟨[], _, _, _, setTR_fresh hS, fun p hp => absurd hp List.not_mem_nil, fun p hp => absurd hp (by simp), fun p hp => isT_keep (isT p hp) kp⟩)
    (fun i h h' J ⟨L, es, ep, t, R, h1, h2, h3⟩ hJ kp => ?_) (fun A' i v x Q1 E1 hh hun hv ⟨L, es, ep, t, R, h1, h2, h3⟩ q1 => ?_) (fun h tk ⟨L, es, ep, t, R, h1, h2, h3⟩ kp => ?_)
  · have h3' : ∀ p, p ∈ ks → IsT X.prog X.w h' p.2 p.1 := fun p hp => by
      obtain ⟨o, its', n, ho, r'⟩ := h3 p hp
      exact ⟨o, its', n, kp _ o (Nat.ne_of_lt (Nat.lt_trans (old p hp) hJ)) ho, r'⟩
    exact ⟨L, es, ep, t, R.keep (fun o => kp _ o (Nat.ne_of_lt hJ)) fun p hp => h3' p (h1 p hp), h1, h2, h3'⟩
  · have hi : its[i]? = some v := by rw [← hv, List.getElem?_toArray]
    rw [eits, List.getElem?_map] at hi
    cases hk : ks[i]? with
    | none => rw [hk] at hi; cases hi
    | some p =>
      rw [hk] at hi
      cases hi
      have hp : p ∈ ks := List.mem_of_getElem? hk
      have few : (L.map (·.2)).length ≤ 53 := keys_few R.nd fun k hk => by
        obtain ⟨p', hp', rfl⟩ := List.mem_map.mp hk
        obtain ⟨y, hy, e⟩ := inG p' (h1 p' hp')
        exact ⟨y, hal y hy, e⟩
      rw [List.length_map] at few
      unfold setAdd
      refine wpAny_holding (wpAny_bind (wpAny_pyHash_tuple (by omega) (h3 p hp) ?_))
      refine add_at (s := { x with toks := x.toks + (p.2.length + 1) }) R (h3 p hp) (by omega) (by omega) fun b h' L' es' ep' t' sb R' c1 c2 => ?_
      have tup' : ∀ p', p' ∈ ks → IsT X.prog X.w h' p'.2 p'.1 := fun p' hp' => by
        obtain ⟨o, its', n, ho, r'⟩ := h3 p' hp'
        exact ⟨o, its', n, (sb.2 _ (Nat.ne_of_lt (old p' hp'))).trans ho, r'⟩
      refine q1 b h' _ ⟨sb.1, sb.2⟩ (Nat.le_add_right _ _) ⟨L', es', ep', t', R', fun z hz => ?_, fun z hz => ?_, tup'⟩
      · by_cases c : p.2 ∈ L.map (·.2)
        · rw [c1 c] at hz; exact h1 z hz
        · rcases List.mem_cons.mp ((c2 c).mem_iff.mp hz) with rfl | hz
          · exact hp
          · exact h1 z hz
      · rw [List.take_succ, hk] at hz
        by_cases c : p.2 ∈ L.map (·.2)
        · rw [c1 c]
          rcases List.mem_append.mp hz with hz | hz
          · exact h2 z hz
          · have : z = p := by simpa using hz
            rw [this]; exact c
        · rw [((c2 c).map (·.2)).mem_iff, List.map_cons]
          rcases List.mem_append.mp hz with hz | hz
          · exact List.mem_cons_of_mem _ (h2 z hz)
          · have : z = p := by simpa using hz
            rw [this]; exact List.mem_cons_self
  · have hn : H s.heap.objs.size = none := I.hok.fresh (Nat.le_refl _)
    have full : ks.take its.toArray.size = ks := by rw [List.size_toArray, eits, List.length_map, List.take_length]
    rw [full] at h2
    refine ⟨.ref s.heap.objs.size, upd H s.heap.objs.size (SetTO X.prog X.w s.heap.objs.size L), I.laid (t' := tk) kp (Nat.le_refl _) (setTO_new R.t0), rfl, q _ L hn (fun p hp => ⟨ht p (h1 p hp), inG p (h1 p hp)⟩) fun y hy => ?_⟩
    have m : kN y ∈ ks.map (·.2) := by rw [ek]; exact List.mem_map.mpr ⟨y, hy, rfl⟩
    obtain ⟨p, hp, e⟩ := List.mem_map.mp m
    rw [← e]
    exact h2 p hp
/-- set(a list of ints) -/
def rSetI (w : World) : List V → Hp → VK → Prop := fun xs H Q => ∃ (l : Addr) (ns : List Int), xs = [.ref l] ∧ H l = some (.lst (ns.map V.int)) ∧ ns.length ≤ 60 ∧
  ∀ (a : Addr) (n : Nat), H a = none → n ≤ ns.length → Q (.ref a) (upd H a (SetO w a (fun j => decide (j ∈ ns)) n))
theorem cr_setI (hc : X.calm = true) : CallR X (.type "set") (rSetI X.w) := by
  intro pins s σ H xs us Q I r ⟨l, ns, e, hl, hz, q⟩
  subst e
  rw [Vals.ref1 r]
  obtain ⟨its, rv, pl, _⟩ := I.list (SqL.of hl)
  have hlen : its.length = ns.length := by have := rv.length; rw [List.length_map] at this; exact this.symm
  refine set_made (P := X.prog) (w := X.w) (items := its.toArray) (I.ok.hd hc) pl.isList (fun i h => ∃ c, c ≤ i ∧ SetR X.w h s.heap.objs.size (fun j => decide (j ∈ ns.take i)) c)
    (fun h hS kp => ⟨0, Nat.le_refl 0, setR_new_at hS⟩) (fun i h h' J ⟨c, hc', R⟩ hJ kp => ⟨c, hc', R.at fun o => kp _ o (Nat.ne_of_lt hJ)⟩) (fun A' i v x Q1 E1 hh hun hv ⟨c, hc', R⟩ q1 => ?_) (fun h tk ⟨c, hc', R⟩ kp => ?_)
  · have hi : its[i]? = some v := by rw [← hv, List.getElem?_toArray]
    have hi' : i < ns.length := by rw [← hlen]; exact (List.getElem?_eq_some_iff.mp hi).1
    have hk : (ns.map V.int)[i]? = some (.int ns[i]) := by rw [List.getElem?_map, List.getElem?_eq_getElem hi']; rfl
    obtain ⟨u, hu, ru⟩ := rv.get hk
    rw [hi] at hu
    cases hu
    obtain ⟨t, rfl⟩ := ru
    unfold setAdd
    refine wpAny_holding (wpAny_bind ((intKind X.prog X.w).pyHash (k := ns[i]) (intKind_is _ _ _ _) ?_))
    refine setR_add_hashed (s := { x with toks := x.toks + 1 }) R (by show c + 1 < 4096; omega) fun h' sb R' => ?_
    refine q1 _ h' _ ⟨sb.1, sb.2⟩ (Nat.le_succ _) ⟨_, ?_, R'.congr fun j => ?_⟩
    · split <;> omega
    · have e : j ∈ ns.take (i + 1) ↔ (j ∈ ns.take i ∨ j = ns[i]) := by
        rw [List.take_add_one, List.getElem?_eq_getElem hi', Option.toList_some, List.mem_append, List.mem_singleton]
      rw [decide_eq_decide.mpr e, Bool.decide_or]
  · have hn : H s.heap.objs.size = none := I.hok.fresh (Nat.le_refl _)
    have full : ns.take its.toArray.size = ns := by rw [List.size_toArray, hlen, List.take_length]
    rw [full] at R
    exact ⟨.ref s.heap.objs.size, upd H s.heap.objs.size (SetO X.w s.heap.objs.size (fun j => decide (j ∈ ns)) c), I.laid (t' := tk) kp (Nat.le_refl _) (setO_new R), rfl, q _ c hn (by rw [List.size_toArray] at hc'; omega)⟩
end
/-- tuple(a list) -/
def rTupL (K : PySem.W.Frag) : List V → Hp → VK → Prop := fun xs H Q => ∃ p ys, xs = [.ref p] ∧ ((SqL K H p ys ∧ ∀ l, H l = none → Q (.ref l) (upd H l (.tup ys))) ∨ (SqT K H p ys ∧ Q (.ref p) H))
/-- tuple(sorted(set(..))) of NODEs -/
theorem tss {K : PySem.W.Frag} {P : Program} {w : World} {H : Hp} {l : Addr} {ys : List V} {g : List Nd} {Q : VK} (hl : H l = some (.lst ys)) (hA : ImAll H ys (g.map ndP)) (hal : ∀ y, y ∈ g → Al y)
    (q : ∀ (v : V) (g' : List Nd) (H' : Hp), Same H H' → Im H' v (gvP g') → (∀ y, y ∈ g' ↔ y ∈ g) → g'.length ≤ 53 → Q v H') :
    rSetN P w [.ref l] H fun v H1 => rSortedT K P w [v] H1 fun v2 H2 => rTupL K [v2] H2 Q := by
  refine ⟨l, ys, g, rfl, hl, hA, hal, fun a L ha h1 h2 => ?_⟩
  have k1 := same_new ha (o := SetTO P w a L)
  refine ⟨a, L, 2, 64, rfl, upd_same, fun p hp => SqT.of (k1 _ _ (h1 p hp).1), by decide, fun p hp => ?_, fun L' p hperm hnd _ _ hp => ?_⟩
  · obtain ⟨_, y, hy, e⟩ := h1 p hp
    have o := hal y hy
    have := o.z; have := o.l; have := o.u
    rw [e]
    refine ⟨rfl, fun m hm => ?_⟩
    rcases List.mem_cons.mp hm with e | hm
    · omega
    · have := List.mem_singleton.mp hm
      omega
  have k2 := same_new hp (o := .lst (L'.map fun q => V.ref q.1))
  refine ⟨p, _, rfl, .inl ⟨SqL.of upd_same, fun r hr => ?_⟩⟩
  have k3 := same_new hr (o := .tup (L'.map fun q => V.ref q.1))
  have hin : ∀ z, z ∈ L' → H z.1 = some (.tup (z.2.map V.int)) ∧ ∃ y, y ∈ g ∧ z.2 = kN y := fun z hz => h1 z (hperm.mem_iff.mp hz)
  have conv : ∀ M : List (Addr × List Int), (∀ z, z ∈ M → H z.1 = some (.tup (z.2.map V.int)) ∧ ∃ y, y ∈ g ∧ z.2 = kN y) → ∃ g' : List Nd, M.map (·.2) = g'.map kN ∧ ImAll H (M.map fun q => V.ref q.1) (g'.map ndP) := by
    intro M
    induction M with
    | nil => exact fun _ => ⟨[], rfl, .nil⟩
    | cons z M ih =>
      intro hM
      obtain ⟨g', e1, e2⟩ := ih fun z' hz => hM z' (List.mem_cons_of_mem _ hz)
      obtain ⟨ht, y, hy, e⟩ := hM z List.mem_cons_self
      rw [e] at ht
      exact ⟨y :: g', by rw [List.map_cons, List.map_cons, e1, e], .cons (nd_mk ht) e2⟩
  obtain ⟨g', e1, e2⟩ := conv L' hin
  refine q _ g' _ (k1.trans (k2.trans k3)) (.tup upd_same (e2.sm (k1.trans (k2.trans k3)))) (fun y => ?_) ?_
  · have m : y ∈ g' ↔ kN y ∈ L'.map (·.2) := by
      rw [e1]
      exact ⟨fun h => List.mem_map.mpr ⟨y, h, rfl⟩, fun h => by obtain ⟨z, hz, e⟩ := List.mem_map.mp h; rw [← kN_inj e]; exact hz⟩
    rw [m, (hperm.map (·.2)).mem_iff]
    constructor
    · intro h
      obtain ⟨z, hz, e⟩ := List.mem_map.mp h
      obtain ⟨_, y', hy', e'⟩ := h1 z hz
      have := kN_inj (e.symm.trans e')
      rw [this]; exact hy'
    · exact h2 y
  · have hl' : (L'.map (·.2)).length ≤ 53 := keys_few hnd fun k hk => by
      obtain ⟨z, hz, rfl⟩ := List.mem_map.mp hk
      obtain ⟨_, y, hy, e⟩ := hin z hz
      exact ⟨y, hal y hy, e⟩
    rw [e1, List.length_map] at hl'
    exact hl'
/-- tuple(sorted(set(..))) of ints -/
theorem tsi {K : PySem.W.Frag} {w : World} {H : Hp} {l : Addr} {ns : List Int} {Q : VK} (hl : H l = some (.lst (ns.map V.int))) (hz : ns.length ≤ 60)
    (q : ∀ (p : Addr) (ms : List Int) (H' : Hp), Same H H' → H' p = some (.tup (ms.map V.int)) → (∀ k, k ∈ ms ↔ k ∈ ns) → ms.length ≤ 60 → Q (.ref p) H') :
    rSetI w [.ref l] H fun v H1 => rSortedSet w [v] H1 fun v2 H2 => rTupL K [v2] H2 Q := by
  refine ⟨l, ns, rfl, hl, hz, fun a n ha hn => ⟨a, _, n, rfl, upd_same, by omega, fun ms p _ hm hml hp => ⟨p, _, rfl, .inl ⟨SqL.of upd_same, fun r hr => ?_⟩⟩⟩⟩
  exact q r ms _ ((same_new ha).trans ((same_new hp).trans (same_new hr))) upd_same (fun k => (hm k).trans decide_eq_true_iff) (by omega)
end Mk

set_option Elab.async false
set_option maxRecDepth 100000
set_option maxHeartbeats 4000000
set_option linter.all false
namespace Mk
open PySem PySem.Spec PyProof.Rows L2
/-! ### dicts of marks: their keys NODEs, their values marks -/
def nk (x : Nd) : List Key := [Sum.inl x.1, Sum.inl x.2]
theorem nk_inj {x y : Nd} (h : nk x = nk y) : x = y := by
  simp only [nk, List.cons.injEq, Sum.inl.injEq, and_true] at h
  exact Prod.ext h.1 h.2
theorem nk_kV (x : Nd) : (nk x).map kV = [V.int x.1, V.int x.2] := rfl
/-- what the dict holds: keys of g, each with its mark -/
structure KvOk (tale : List Int) (H : Hp) (g : Nd → Prop) (kvs : List (List Key × V)) : Prop where
  keys : ∀ p, p ∈ kvs → ∃ y, p.1 = nk y ∧ g y ∧ Im H p.2 (valD tale y)
  all : ∀ y, g y → ∃ v, valV kvs (nk y) = some v
  len : kvs.length ≤ 1000
theorem KvOk.kt {tale : List Int} {H H' : Hp} {g : Nd → Prop} {kvs : List (List Key × V)} (h : KvOk tale H g kvs) (k : Kt H H') : KvOk tale H' g kvs :=
  ⟨fun p hp => let ⟨y, a, b, c⟩ := h.keys p hp; ⟨y, a, b, c.by k⟩, h.all, h.len⟩
theorem valV_mem {kvs : List (List Key × V)} {k : List Key} {v : V} (h : valV kvs k = some v) : (k, v) ∈ kvs := by
  unfold valV at h
  cases hf : kvs.find? (fun kv => decide (kv.1 = k)) with
  | none => rw [hf] at h; cases h
  | some p =>
    rw [hf] at h
    have e1 := List.find?_some hf
    have e2 : p.1 = k := of_decide_eq_true e1
    have e3 : p.2 = v := Option.some.inj h
    have m := List.mem_of_find?_eq_some hf
    rw [← e2, ← e3]
    exact m
theorem KvOk.get {tale : List Int} {H : Hp} {g : Nd → Prop} {kvs : List (List Key × V)} (h : KvOk tale H g kvs) {y : Nd} {v : V} (hv : valV kvs (nk y) = some v) : g y ∧ Im H v (valD tale y) := by
  obtain ⟨z, e, a, b⟩ := h.keys _ (valV_mem hv)
  have := nk_inj e
  subst this
  exact ⟨a, b⟩
theorem KvOk.some {tale : List Int} {H : Hp} {g : Nd → Prop} {kvs : List (List Key × V)} (h : KvOk tale H g kvs) (y : Nd) : (valV kvs (nk y)).isSome = true ↔ g y := by
  constructor
  · intro e
    obtain ⟨v, hv⟩ := Option.isSome_iff_exists.mp e
    exact (h.get hv).1
  · intro e
    obtain ⟨v, hv⟩ := h.all y e
    rw [hv]; rfl
theorem mem_putK {kvs : List (List Key × V)} {k : List Key} {v : V} {p : List Key × V} (h : p ∈ putK kvs k v) : p ∈ kvs ∨ p = (k, v) := by
  unfold putK at h
  split at h
  · obtain ⟨q, hq, e⟩ := List.mem_map.mp h
    by_cases c : q.1 = k
    · rw [if_pos c] at e
      exact .inr (by rw [← e, c])
    · rw [if_neg c] at e
      exact .inl (by rw [← e]; exact hq)
  · rcases List.mem_append.mp h with h | h
    · exact .inl h
    · exact .inr (List.mem_singleton.mp h)
theorem KvOk.put {tale : List Int} {H : Hp} {g : Nd → Prop} {kvs : List (List Key × V)} (h : KvOk tale H g kvs) {y : Nd} {v : V} (hv : Im H v (valD tale y)) (hl : kvs.length < 1000) : KvOk tale H (fun z => g z ∨ z = y) (putK kvs (nk y) v) := by
  refine ⟨fun p hp => ?_, fun z hz => ?_, ?_⟩
  · rcases mem_putK hp with hp | rfl
    · obtain ⟨z, a, b, c⟩ := h.keys p hp
      exact ⟨z, a, .inl b, c⟩
    · exact ⟨y, rfl, .inr rfl, hv⟩
  · rw [valV_put]
    by_cases e : nk z = nk y
    · rw [if_pos e]; exact ⟨v, rfl⟩
    · rw [if_neg e]
      rcases hz with hz | hz
      · exact h.all z hz
      · exact absurd (by rw [hz]) e
  · have := length_putK kvs (nk y) v
    omega
theorem KvOk.iff {tale : List Int} {H : Hp} {g g' : Nd → Prop} {kvs : List (List Key × V)} (h : KvOk tale H g kvs) (e : ∀ y, g y ↔ g' y) : KvOk tale H g' kvs :=
  ⟨fun p hp => let ⟨y, a, b, c⟩ := h.keys p hp; ⟨y, a, (e y).mp b, c⟩, fun y hy => h.all y ((e y).mpr hy), h.len⟩
/-- NODE and mark -/
def prP (tale : List Int) (y : Nd) : PyData := .tuple [ndP y, valD tale y]
/-- the pairs that lie in a list -/
theorem pairs_at {tale : List Int} {H : Hp} : ∀ {ys : List V} (g : List Nd), ImAll H ys (g.map (prP tale)) → ∃ ts : List (Addr × Addr × V), ys = ts.map (fun t => V.ref t.1) ∧ ts.length = g.length ∧
    ∀ (i : Nat) t, ts[i]? = some t → ∃ y, g[i]? = some y ∧ H t.1 = some (.tup [.ref t.2.1, t.2.2]) ∧ H t.2.1 = some (.tup ((nk y).map kV)) ∧ Im H t.2.2 (valD tale y)
  | _, [], h => by cases h; exact ⟨[], rfl, rfl, fun i t e => by simp at e⟩
  | _, y :: g, h => by
    cases h with
    | cons h1 h2 =>
      obtain ⟨t, xs, rfl, ht, hx⟩ := h1.tuple
      obtain ⟨u, v, rfl, hu, hv⟩ := two_items hx
      obtain ⟨b, rfl, hb⟩ := nd_inv hu
      obtain ⟨ts, rfl, e2, e3⟩ := pairs_at g h2
      refine ⟨(t, b, v) :: ts, rfl, by rw [List.length_cons, List.length_cons, e2], fun i t' e => ?_⟩
      match i, e with
      | 0, e => cases e; exact ⟨y, rfl, ht, hb, hv⟩
      | i + 1, e => exact e3 i t' (by simpa using e)
section
variable {X : Cx}
/-- dict(a list of pairs) -/
def rDictN : List V → Hp → VK → Prop := fun xs H Q => ∃ (l : Addr) (ys : List V) (g : List Nd) (tale : List Int), xs = [.ref l] ∧ H l = some (.lst ys) ∧ ImAll H ys (g.map (prP tale)) ∧ g.length ≤ 500 ∧
  ∀ (a : Addr) kvs, H a = none → KvOk tale H (Gn g) kvs → kvs.length ≤ g.length → Q (.ref a) (upd H a (.dT kvs))
theorem cr_dictN (hc : X.calm = true) (hu : X.A.units + 65 < cLine) : CallR X (.type "dict") rDictN := by
  intro pins s σ H xs us Q I r ⟨l, ys, g, tale, e, hl, hA, hgl, q⟩
  subst e
  rw [Vals.ref1 r]
  obtain ⟨ts, rfl, hlen, hts⟩ := pairs_at g hA
  obtain ⟨its, rv, pl, hz⟩ := I.list (SqL.of hl)
  have ei : its = ts.map fun t => Value.ref t.1 := by
    have q := refs_at (ps := ts.map (·.1)) (by rw [List.map_map]; exact rv)
    rw [q, List.map_map]; rfl
  -- the values of each pair, in the machine
  have each : ∀ (m : List (Addr × Addr × V)) (gm : List Nd), m.length = gm.length → (∀ (i : Nat) t, m[i]? = some t → ∃ y, gm[i]? = some y ∧ H t.1 = some (.tup [.ref t.2.1, t.2.2]) ∧ H t.2.1 = some (.tup ((nk y).map kV)) ∧ Im H t.2.2 (valD tale y)) →
      ∃ ps : List (List Key × Addr × Value), ps.length = m.length ∧ KT H ((m.zip gm).map fun z => (nk z.2, z.1.2.2)) ps ∧ ∀ (i : Nat) t, m[i]? = some t → ∃ k b v, ps[i]? = some (k, b, v) ∧ s.heap.IsTuple t.1 #[.ref b, v] := by
    intro m
    induction m with
    | nil => exact fun gm _ _ => ⟨[], rfl, by simp; exact .nil, fun i t e => by simp at e⟩
    | cons t m ih =>
      intro gm hl hm
      match gm, hl with
      | y :: gm, hl =>
        obtain ⟨y', ey, h1, h2, h3⟩ := hm 0 t rfl
        cases ey
        obtain ⟨ps, p1, p2, p3⟩ := ih gm (by simpa using hl) fun i t' e => by
          obtain ⟨y', a, b⟩ := hm (i + 1) t' (by simpa using e)
          exact ⟨y', by simpa using a, b⟩
        obtain ⟨_, jts, rj, o, ho, hcl, n, hd⟩ := I.hok t.1 _ h1
        obtain ⟨u1, u2, rfl, r1, r2⟩ := vals2 rj
        obtain rfl : u1 = Value.ref t.2.1 := r1
        refine ⟨(nk y, t.2.1, u2) :: ps, by rw [List.length_cons, List.length_cons, p1], .cons ⟨rfl, h2, r2⟩ p2, fun i t' e => ?_⟩
        match i, e with
        | 0, e => cases e; exact ⟨_, _, _, rfl, o, ho, hcl, n, hd⟩
        | i + 1, e => obtain ⟨k, b, v, a, c⟩ := p3 i t' (by simpa using e); exact ⟨k, b, v, by simpa using a, c⟩
  obtain ⟨ps, p1, p2, p3⟩ := each ts g hlen hts
  obtain ⟨o, n, ho, hcl, hdd, hdat⟩ := pl
  have hil : its.length = ts.length := by rw [ei, List.length_map]
  -- the keys stay
  have keyAt : ∀ {kvs : List (List Key × V)} {qs : List (List Key × Addr × Value)} {h : Heap}, KT H kvs qs → (∀ b o, s.heap.get? b = some o → h.get? b = some o) → ∀ x ∈ qs, (tupleKind (mixKind X.prog X.w)).is h x.1 x.2.1 := by
    intro kvs qs h k hk
    induction k with
    | nil => exact fun x hx => nomatch hx
    | @cons p x ps xs hp t ih =>
      intro z hz
      rcases List.mem_cons.mp hz with rfl | hz
      · obtain ⟨o', its', n', ho', r'⟩ := key_of (ks := z.1) (a := z.2.1) I.hok (by rw [← hp.1]; exact hp.2.1)
        exact ⟨o', its', n', hk _ _ ho', r'⟩
      · exact ih z hz
  refine call_dict_pairsH (knd := tupleKind (mixKind X.prog X.w)) (PairArg.list l its.toArray (fun j => (ts.getD j (0, 0, .non)).1) (ps.map fun x => (Value.ref x.2.1, x.2.2))) (I.ok.hd hc) (ps := ps)
    (by show X.A.units + 1 + 1 < cLine; omega) ⟨⟨o, n, ho, hcl, hdd, hdat⟩, ?_, fun j k v hj => ?_⟩ ⟨by rw [List.length_map], fun i key v hr => ?_⟩ (fun h' hk x hx => ?_) ?_ fun h' tk hD kp => ?_
  · rw [List.size_toArray, List.length_map, hil, p1]
  · rw [List.getElem?_map] at hj
    cases hp : ps[j]? with
    | none => rw [hp] at hj; cases hj
    | some x =>
      rw [hp] at hj
      cases hj
      have hjl : j < ts.length := by rw [← p1]; exact (List.getElem?_eq_some_iff.mp hp).1
      obtain ⟨k', b', v', e1, e2⟩ := p3 j ts[j] (List.getElem?_eq_getElem hjl)
      rw [hp] at e1
      cases e1
      have eT : (ts.getD j (0, 0, .non)).1 = ts[j].1 := by rw [List.getD_eq_getElem?_getD, List.getElem?_eq_getElem hjl]; rfl
      show its.toArray[j]? = some (Value.ref ((ts.getD j (0, 0, .non)).1)) ∧ PairAt s.heap (ts.getD j (0, 0, .non)).1 (Value.ref b') v'
      rw [eT]
      refine ⟨?_, .inl e2⟩
      rw [List.getElem?_toArray, ei, List.getElem?_map, List.getElem?_eq_getElem hjl]; rfl
  · have hr' : (ps.map fun x => (Value.ref x.2.1, x.2.2))[i]? = some (key, v) := hr
    rw [List.getElem?_map] at hr'
    cases hp : ps[i]? with
    | none => rw [hp] at hr'; cases hr'
    | some x =>
      rw [hp] at hr'
      cases hr'
      exact ⟨x.1, x.2.1, rfl, rfl⟩
  · exact keyAt p2 (fun b o' e => hk b o' (Nat.ne_of_lt (Heap.lt_size e)) (by simp) e) x hx
  · rw [List.length_map, p1, hlen]
    exact sz_of' (by omega)
  · have fold : ∀ (kvs : List (List Key × V)) (qs : List (List Key × Addr × Value)) (acc : List (List Key × V)) (bcc : List (List Key × Addr × Value)), KT H kvs qs → KT H acc bcc → KT H (kvs.foldl (fun a p => putK a p.1 p.2) acc) (storedAllH bcc qs) := by
      intro kvs qs acc bcc k
      induction k generalizing acc bcc with
      | nil => exact id
      | @cons p x ps xs hp t ih =>
        intro h
        exact ih _ _ (by have := h.put p.1 (b := x.2.1) hp.2.1 hp.2.2; rw [hp.1] at this; show KT H (putK acc p.1 p.2) _; rw [hp.1]; exact this)
    have fin := fold _ _ [] [] p2 .nil
    -- what it holds
    have holds : ∀ (m : List (Addr × Addr × V)) (gm : List Nd) (g0 : Nd → Prop) (acc : List (List Key × V)), m.length = gm.length → acc.length + m.length ≤ 1000 → (∀ (i : Nat) t, m[i]? = some t → ∃ y, gm[i]? = some y ∧ Im H t.2.2 (valD tale y)) → KvOk tale H g0 acc →
        KvOk tale H (fun y => g0 y ∨ y ∈ gm) (((m.zip gm).map fun z => (nk z.2, z.1.2.2)).foldl (fun a p => putK a p.1 p.2) acc) ∧ (((m.zip gm).map fun z => (nk z.2, z.1.2.2)).foldl (fun a p => putK a p.1 p.2) acc).length ≤ acc.length + gm.length := by
      intro m
      induction m with
      | nil =>
        intro gm g0 acc hl _ _ h
        match gm, hl with
        | [], _ => exact ⟨h.iff fun y => Iff.intro (fun a => Or.inl a) (fun (a : g0 y ∨ y ∈ ([] : List Nd)) => Or.elim a id (fun z => absurd z List.not_mem_nil)), Nat.le_refl _⟩
      | cons t m ih =>
        intro gm g0 acc hl hz hm h
        match gm, hl with
        | y :: gm, hl =>
          obtain ⟨y', ey, hv⟩ := hm 0 t rfl
          cases ey
          have hlp := length_putK acc (nk y) t.2.2
          simp only [List.length_cons] at hz
          obtain ⟨r1, r2⟩ := ih gm (fun z => g0 z ∨ z = y) (putK acc (nk y) t.2.2) (by simpa using hl) (by omega) (fun i t' e => by
            obtain ⟨y', a, b⟩ := hm (i + 1) t' (by simpa using e)
            exact ⟨y', by simpa using a, b⟩) (h.put hv (by omega))
          exact ⟨r1.iff fun z => by rw [List.mem_cons, or_assoc], by simp only [List.length_cons]; exact Nat.le_trans r2 (by omega)⟩
    obtain ⟨hk1, hk2⟩ := holds ts g (fun _ => False) [] hlen (by simp; omega) (fun i t e => by obtain ⟨y, a, _, _, b⟩ := hts i t e; exact ⟨y, a, b⟩) ⟨fun p hp => absurd hp List.not_mem_nil, fun y hy => False.elim hy, Nat.zero_le _⟩
    obtain ⟨o', es, ep, d1, d2, d3, d4, _, d6⟩ := hD
    have hn : H s.heap.objs.size = none := I.hok.fresh (Nat.le_refl _)
    have hm : (s.heap.objs.size == sysModules) = false := beq_eq_false_iff_ne.mpr (Nat.ne_of_gt I.big)
    simp only [List.length_nil, Nat.zero_add] at hk2
    refine ⟨.ref s.heap.objs.size, upd H s.heap.objs.size (.dT _), I.laid (t' := tk) (fun b o' e => kp b o' (by simp) e) (Nat.le_refl _) ?_, rfl, q _ _ hn (hk1.iff fun y => Iff.intro (fun (a : False ∨ y ∈ g) => Or.elim a False.elim id) Or.inr) hk2⟩
    exact ⟨sz_of' (by omega), hm, _, fin.keeps (fun b ys e => kt_new hn b ys e), o', es, ep, d1, d2, d3, d4, d6⟩
end
end Mk

set_option Elab.async false
set_option maxRecDepth 100000
set_option maxHeartbeats 4000000
set_option linter.all false
namespace Mk
open PySem PySem.Spec PyProof.Rows L2
/-- the source of draws, after at most m of them -/
def Bx (H : Hp) (b : Addr) (m : Int) : Prop := ∃ x y z : Int, H b = some (.lst [.int x, .int y, .int z]) ∧ 0 ≤ x ∧ 0 ≤ y ∧ y < 4611686018427387904 ∧ 0 ≤ z ∧ z ≤ m
/-- all but the thing at b is as it was -/
def SameB (b : Addr) (H H' : Hp) : Prop := ∀ c o, c ≠ b → H c = some o → H' c = some o
theorem SameB.refl (b : Addr) (H : Hp) : SameB b H H := fun _ _ _ h => h
theorem SameB.trans {b : Addr} {H H1 H2 : Hp} (a : SameB b H H1) (c : SameB b H1 H2) : SameB b H H2 := fun x o n h => c x o n (a x o n h)
theorem Same.b {b : Addr} {H H' : Hp} (e : Same H H') : SameB b H H' := fun c o _ h => e c o h
theorem sameB_upd {b : Addr} {H : Hp} {o : HO} : SameB b H (upd H b o) := fun c u n h => by rw [upd_ne n]; exact h
theorem SameB.kt {b : Addr} {H H' : Hp} (e : SameB b H H') {xs : List V} (h : H b = some (.lst xs)) : Kt H H' := fun a ys q => e a _ (ne_of q h (by intro z; cases z)) q
theorem Bx.mono {H : Hp} {b : Addr} {m m' : Int} (h : Bx H b m) (l : m ≤ m') : Bx H b m' := by
  obtain ⟨x, y, z, a, h1, h2, h3, h4, h5⟩ := h
  exact ⟨x, y, z, a, h1, h2, h3, h4, Int.le_trans h5 l⟩
theorem Bx.sm {H H' : Hp} {b : Addr} {m : Int} (h : Bx H b m) (e : Same H H') : Bx H' b m := by
  obtain ⟨x, y, z, a, r⟩ := h
  exact ⟨x, y, z, e _ _ a, r⟩
theorem Bx.kt {H H' : Hp} {b : Addr} {m : Int} (h : Bx H b m) (e : SameB b H H') : Kt H H' := by
  obtain ⟨x, y, z, a, r⟩ := h
  exact e.kt a
theorem Bx.ne {H : Hp} {b c : Addr} {m : Int} (h : Bx H b m) (n : H c = none) : c ≠ b := fun e => by
  obtain ⟨x, y, z, a, r⟩ := h
  rw [← e, n] at a; cases a
section
variable {P : Program} {w : World} {K : PySem.W.Frag} {mg : Str → Option Value} {base : Heap}
/-! ### _law_box -/
abbrev sBox : Stmt := top 30
theorem scBox : FnScope ["_law_script", "_law_k", "_law_cell"] ["_law_script", "_law_k"] (C8.fnScope sBox) := C8.fnScope_by (by decide +kernel)
def spBox : Sp := fun vs H Q _ => ∃ (a : Addr) (ns : List Int) (k : Nat), vs = [.ref a, .int (k : Int)] ∧ H a = some (.lst (ns.map V.int)) ∧ k < ns.length ∧ ns.length ≤ 10 ∧ ∀ b H', Same H H' → H b = none → Bx H' b 0 → Q (.ref b) H'
theorem ok_box (D : DD K mg "_law_box" sBox) (B : Bt mg) : C8.Cal P w K mg base 1 "_law_box" spBox [] := by
  refine cal_of D (fun _ _ _ _ _ _ us hl => match us, hl with | [_, _], _ => rfl) scBox (fun vs H Q E h => ?_) (fun f cdv A outer s H vs Q E hr h => ?_)
  · obtain ⟨a, ns, k, rfl, _⟩ := h
    rfl
  obtain ⟨a, ns, k, rfl, ha, hk, hl, q⟩ := h
  refine ⟨_, pss_cons (ps_set (i := 2) scBox.nd rfl (Or.inl rfl) (pe_ifExp (pt_cmpR op_lt (pv 1) (pe_callB call_len_seq (by rfl) B.len PySem.boot_len (pa_cons (pv 0) pa_nil)) (nomark _)) (pe_ix ix_list (pv 0) (pv 1) (fun _ _ => rfl)) pe_int))
    (pss_one (ps_ret (pe_lst (pa_cons (pe_op op_mul (pe_callB call_abs (by rfl) B.abs (by decide +kernel) (pa_cons (pv 2) pa_nil)) (pe_callTy call_int1 (by rfl) B.int (by decide +kernel) (pa_cons (pe_cmpR op_ge (pe_callB call_abs (by rfl) B.abs (by decide +kernel) (pa_cons (pv 2) pa_nil)) (pe_op op_pow pe_int pe_int) (nomark _)) pa_nil)))
      (pa_cons (pe_op op_add (pe_op op_add (pe_op op_mod (pe_callTy call_int1 (by rfl) B.int (by decide +kernel) (pa_cons (pv 2) pa_nil)) pe_int) (pe_op op_mul pe_int (pv 1))) pe_int)
      (pa_cons pe_int pa_nil)))))), ?_⟩
  refine ⟨_, rfl, _, rfl, a, _, rfl, .inl (SqL.of ha), _, _, rfl, rfl, _, rfl, ?_⟩
  rw [List.length_map, decide_eq_true (show (k : Int) < ((ns.length : Nat) : Int) by omega)]
  refine iteT ?_
  refine ⟨_, rfl, _, rfl, a, _, _, .int ns[k], rfl, rfl, SqL.of ha, atI_nat (by rw [List.getElem?_map, List.getElem?_eq_getElem hk]; rfl), ?_⟩
  generalize ns[k] = c
  refine ⟨_, rfl, c, rfl, ?_⟩
  refine ⟨_, rfl, c, rfl, 10, 18, rfl, rfl, ⟨by decide, by decide, by decide⟩, _, _, rfl, rfl, .inr ⟨_, rfl, ?_⟩⟩
  generalize hone : (if decide ((10 : Int) ^ (18 : Int).toNat ≤ if c < 0 then -c else c) = true then (1 : Int) else 0) = one
  have h01 : one = 0 ∨ one = 1 := by
    rw [← hone]
    exact (Decidable.em _).elim (fun h => .inr (if_pos h)) (fun h => .inl (if_neg h))
  refine ⟨_, _, rfl, rfl, .inr ⟨by omega, by omega⟩, ?_⟩
  refine ⟨_, rfl, .inl ⟨c, rfl, c, 2305843009213693951, rfl, rfl, (by show (0 : Int) < 2305843009213693951; decide), ?_⟩⟩
  refine ⟨_, rfl, _, _, rfl, rfl, .inl ⟨by decide, by decide⟩, _, _, rfl, rfl, _, _, rfl, rfl, (by show 3 ≤ sizeLine; decide), fun p hp => ?_⟩
  refine q p _ (same_new hp) hp ⟨_, _, _, upd_same, ?_, ?_, ?_, Int.le_refl 0, Int.le_refl 0⟩
  · rcases h01 with e | e <;> rw [e] <;> split <;> omega
  · have := Int.emod_nonneg c (show (2305843009213693951 : Int) ≠ 0 by decide)
    show 0 ≤ c % 2305843009213693951 + 39373 * (k : Int) + 473
    omega
  · have := Int.emod_lt_of_pos c (show (0 : Int) < 2305843009213693951 by decide)
    show c % 2305843009213693951 + 39373 * (k : Int) + 473 < 4611686018427387904
    omega
/-! ### _law_take -/
abbrev sTake : Stmt := top 31
theorem scTake : FnScope ["_law_box_here", "_law_low_so", "_law_drawn", "_law_once", "_law_far", "_law_twice"] ["_law_box_here", "_law_low_so"] (C8.fnScope sTake) := C8.fnScope_by (by decide +kernel)
def spTake : Sp := fun vs H Q _ => ∃ (b : Addr) (n m : Int), vs = [.ref b, .int n] ∧ 1 ≤ n ∧ n ≤ 1000 ∧ m ≤ 1000000 ∧ Bx H b m ∧ ∀ d H', SameB b H H' → Bx H' b (m + 1) → 0 ≤ d → d < n → Q (.int d) H'
theorem ok_take (D : DD K mg "_law_take" sTake) (B : Bt mg) : C8.Cal P w K mg base 1 "_law_take" spTake [] := by
  refine cal_of D (fun _ _ _ _ _ _ us hl => match us, hl with | [_, _], _ => rfl) scTake (fun vs H Q E h => ?_) (fun f cdv A outer s H vs Q E hr h => ?_)
  · obtain ⟨b, n, m, rfl, _⟩ := h
    rfl
  obtain ⟨b, n, m, rfl, n1, n2, m1, ⟨x, y, z, hb, x0, y0, y1, z0, z1⟩, q⟩ := h
  refine ⟨_, pss_cons (ps_if (pt_cmpR op_gt (pe_ix ix_list (pv 0) pe_int (fun _ _ => rfl)) pe_int (nomark _))
      (pss_cons (ps_set (i := 2) scTake.nd rfl (Or.inl rfl) (pe_op op_mod (pe_callTy call_int1 (by rfl) B.int (by decide +kernel) (pa_cons (pe_ix ix_list (pv 0) pe_int (fun _ _ => rfl)) pa_nil)) (pv 1)))
      (pss_cons (ps_asg (pe_op op_fdiv (pe_ix ix_list (pv 0) pe_int (fun _ _ => rfl)) (pv 1)) (pg_sub (pv 0) pe_int set_list)) (pss_one (ps_ret (pv 2))))) pss_nil)
    (pss_cons (ps_asg (pe_op op_add (pe_ix ix_list (pv 0) pe_int (fun _ _ => rfl)) pe_int) (pg_sub (pv 0) pe_int set_list))
    (pss_cons (ps_set (i := 3) scTake.nd rfl (Or.inl rfl) (pe_op op_mod (pe_callTy call_int1 (by rfl) B.int (by decide +kernel) (pa_cons (pe_op op_mul (pe_op op_add (pe_ix ix_list (pv 0) pe_int (fun _ _ => rfl)) (pe_op op_mul pe_int (pe_ix ix_list (pv 0) pe_int (fun _ _ => rfl))))
      (pe_op op_add pe_int (pe_ix ix_list (pv 0) pe_int (fun _ _ => rfl)))) pa_nil)) pe_int))
    (pss_cons (ps_set (i := 4) scTake.nd rfl (Or.inl rfl) (pe_op op_add (pe_op op_mod (pe_callTy call_int1 (by rfl) B.int (by decide +kernel) (pa_cons (pv 3) pa_nil)) pe_int) pe_int))
    (pss_cons (ps_set (i := 5) scTake.nd rfl (Or.inl rfl) (pe_op op_mod (pe_callTy call_int1 (by rfl) B.int (by decide +kernel) (pa_cons (pe_op op_mul (pe_op op_add (pe_op op_add (pv 3) (pe_ix ix_list (pv 0) pe_int (fun _ _ => rfl))) (pe_op op_fdiv (pe_ix ix_list (pv 0) pe_int (fun _ _ => rfl)) pe_int)) (pv 4)) pa_nil)) pe_int))
    (pss_one (ps_ret (pe_op op_mod (pe_callTy call_int1 (by rfl) B.int (by decide +kernel) (pa_cons (pe_op op_fdiv (pe_op op_mod (pe_callTy call_int1 (by rfl) B.int (by decide +kernel) (pa_cons (pe_op op_add (pe_op op_mul (pv 5) pe_int) (pv 3)) pa_nil)) pe_int) pe_int) pa_nil)) (pv 1)))))))), ?_⟩
  refine ⟨_, rfl, b, _, _, _, rfl, rfl, SqL.of hb, rfl, _, _, rfl, rfl, _, rfl, ?_⟩
  refine ite2 (fun c => ?_) (fun c => ?_)
  · have c' : 0 < x := of_decide_eq_true c
    refine ⟨_, rfl, b, _, _, _, rfl, rfl, SqL.of hb, rfl, .inl ⟨_, rfl, _, rfl, _, _, rfl, rfl, by omega, ?_⟩⟩
    refine ⟨_, rfl, b, _, _, _, rfl, rfl, SqL.of hb, rfl, _, rfl, _, _, rfl, rfl, ⟨by omega, by omega⟩, ?_⟩
    refine ⟨_, rfl, b, _, 0, 0, rfl, rfl, hb, rfl, _, rfl, ?_⟩
    exact q (x % n) _ sameB_upd ⟨x / n, y, z, upd_same, Int.ediv_nonneg x0 (by omega), y0, y1, z0, by omega⟩ (Int.emod_nonneg x (by omega)) (Int.emod_lt_of_pos x (by omega))
  · refine ⟨_, rfl, b, _, _, _, rfl, rfl, SqL.of hb, rfl, _, _, rfl, rfl, ?_⟩
    refine ⟨_, rfl, b, _, 2, 2, rfl, rfl, hb, rfl, ?_⟩
    have h1 : (upd H b (.lst [.int x, .int y, .int (z + 1)])) b = some (.lst [.int x, .int y, .int (z + 1)]) := upd_same
    have hB : Bx (upd H b (.lst [.int x, .int y, .int (z + 1)])) b (m + 1) := ⟨x, y, z + 1, h1, x0, y0, y1, by omega, by omega⟩
    have hS : SameB b H (upd H b (.lst [.int x, .int y, .int (z + 1)])) := sameB_upd
    show tSeq _ _ _ _ (upd H b (.lst [.int x, .int y, .int (z + 1)]))
    generalize upd H b (.lst [.int x, .int y, .int (z + 1)]) = H1 at h1 hB hS
    refine ⟨_, rfl, b, _, _, _, rfl, rfl, SqL.of h1, rfl, _, rfl, b, _, _, _, rfl, rfl, SqL.of h1, rfl, _, _, rfl, rfl, .inl ⟨by decide, by decide⟩, _, _, rfl, rfl, ?_⟩
    refine ⟨_, rfl, b, _, _, _, rfl, rfl, SqL.of h1, rfl, _, _, rfl, rfl, _, _, rfl, rfl, .inr ⟨by show -(2 ^ 64) < 39373 + (z + 1); omega, by show 39373 + (z + 1) < 2 ^ 64; omega⟩, .inl ⟨_, rfl, _, _, rfl, rfl, (by show (0 : Int) < 2147483647; decide), ?_⟩⟩
    have o0 := Int.emod_nonneg ((y + 48271 * (z + 1)) * (39373 + (z + 1))) (show (2147483647 : Int) ≠ 0 by decide)
    have o1 := Int.emod_lt_of_pos ((y + 48271 * (z + 1)) * (39373 + (z + 1))) (show (0 : Int) < 2147483647 by decide)
    generalize ho : (y + 48271 * (z + 1)) * (39373 + (z + 1)) % 2147483647 = once at o0 o1
    show tSeq _ _ _ [some (.ref b), some (.int n), none, some (.int ((y + 48271 * (z + 1)) * (39373 + (z + 1)) % 2147483647)), none, none] H1
    rw [ho]
    refine ⟨_, rfl, .inl ⟨once, rfl, _, _, rfl, rfl, (by show (0 : Int) < 40009; decide), _, _, rfl, rfl, ?_⟩⟩
    have f0 := Int.emod_nonneg once (show (40009 : Int) ≠ 0 by decide)
    have f1 := Int.emod_lt_of_pos once (show (0 : Int) < 40009 by decide)
    generalize hf : once % 40009 = far at f0 f1
    refine ⟨_, rfl, _, rfl, b, _, _, _, rfl, rfl, SqL.of h1, rfl, _, _, rfl, rfl, _, rfl, b, _, _, _, rfl, rfl, SqL.of h1, rfl, _, _, rfl, rfl, ⟨by decide, by decide⟩, _, _, rfl, rfl, _, rfl, _, _, rfl, rfl, .inr ⟨by show -(2 ^ 64) < far + 7; omega, by show far + 7 < 2 ^ 64; omega⟩, .inl ⟨_, rfl, _, _, rfl, rfl, (by show (0 : Int) < 2147483629; decide), ?_⟩⟩
    generalize ht : (once + (z + 1) + y / 1000003) * (far + 7) = prod
    refine ⟨_, rfl, _, _, rfl, rfl, .inr ⟨by decide, by decide⟩, _, rfl, _, _, rfl, rfl, .inl ⟨_, rfl, _, _, rfl, rfl, (by show (0 : Int) < 2147483587; decide), _, _, rfl, rfl, ⟨by decide, by decide⟩, .inl ⟨_, rfl, _, rfl, _, _, rfl, rfl, by omega, ?_⟩⟩⟩
    exact q _ H1 hS hB (Int.emod_nonneg _ (by omega)) (Int.emod_lt_of_pos _ (by omega))
/-! ### _law_of -/
abbrev sOf : Stmt := top 33
theorem scOf : FnScope ["_law_box_here", "_law_some"] ["_law_box_here", "_law_some"] (C8.fnScope sOf) := C8.fnScope_by (by decide +kernel)
def spOf : Sp := fun vs H Q _ => ∃ (b a : Addr) (xs : List V) (m : Int), vs = [.ref b, .ref a] ∧ a ≠ b ∧ H a = some (.lst xs) ∧ 1 ≤ xs.length ∧ xs.length ≤ 1000 ∧ m ≤ 1000000 ∧ Bx H b m ∧
  ∀ (i : Nat) v H', SameB b H H' → Bx H' b (m + 1) → xs[i]? = some v → Q v H'
theorem ok_of (D : DD K mg "_law_of" sOf) (B : Bt mg) (c1 : C8.Cal P w K mg base 1 "_law_take" spTake []) : C8.Cal P w K mg base 2 "_law_of" spOf [] := by
  refine cal_of D (fun _ _ _ _ _ _ us hl => match us, hl with | [_, _], _ => rfl) scOf (fun vs H Q E h => ?_) (fun f cdv A outer s H vs Q E hr h => ?_)
  · obtain ⟨b, a, xs, m, rfl, _⟩ := h
    rfl
  obtain ⟨b, a, xs, m, rfl, ne, ha, l1, l2, m1, hB, q⟩ := h
  refine ⟨_, pss_one (ps_ret (pe_ix ix_list (pv 1) (C8.pe_c c1 hr (by decide) rfl (pa_cons (pv 0) (pa_cons (pe_callB call_len_seq (by rfl) B.len PySem.boot_len (pa_cons (pv 1) pa_nil)) pa_nil))) (fun _ _ => rfl))), ?_⟩
  refine ⟨_, rfl, _, rfl, _, rfl, a, xs, rfl, .inl (SqL.of ha), b, ((xs.length : Nat) : Int), m, rfl, by omega, by omega, m1, hB, fun d H1 k1 hB1 d0 d1 => ?_⟩
  have hd : d.toNat < xs.length := by omega
  have ed : d = ((d.toNat : Nat) : Int) := by omega
  refine ⟨a, xs, d, xs[d.toNat], rfl, rfl, SqL.of (k1 _ _ ne ha), at_of ed (List.getElem?_eq_getElem hd), ?_⟩
  exact q d.toNat _ H1 k1 hB1 (List.getElem?_eq_getElem hd)
end
end Mk

set_option Elab.async false
set_option maxRecDepth 100000
set_option maxHeartbeats 4000000
set_option linter.all false
namespace Mk
open PySem PySem.Spec PyProof.Rows L2
/-- any for whose turns are told by a word: I, by the turn, the slots and the heap -/
theorem for_by {J : It} {g : TG} {tb : TS} {D : Ends} {σ : L2.St} {H : Hp} (n : Nat) (I : Nat → L2.St → Hp → Prop) (h0 : I 0 σ H) (hJ : ∀ i σ H, I i σ H → (i < n → J.go i H) ∧ (i = n → J.stop i H))
    (hs : ∀ i σ H v H', i < n → I i σ H → J.yld i H v H' → g v σ H' fun σ2 H2 => tb { D with nx := I (i + 1), ct := I (i + 1), bk := D.nx } σ2 H2) (hd : ∀ σ H, I n σ H → D.nx σ H) :
    ∃ W : Nat → Nat → L2.St → Hp → Prop, (∃ m, W 0 m σ H) ∧ ∀ i m σ H, W i m σ H →
      (J.stop i H ∧ D.nx σ H) ∨ (J.go i H ∧ ∃ N : L2.St → Hp → Prop, (∀ σ' H', N σ' H' → ∃ m', m' < m ∧ W (i + 1) m' σ' H') ∧ ∀ x H', J.yld i H x H' → g x σ H' fun σ2 H2 => tb { D with nx := N, ct := N, bk := D.nx } σ2 H2) := by
  refine ⟨fun i m σ H => m = n - i ∧ i ≤ n ∧ I i σ H, ⟨n, rfl, Nat.zero_le _, h0⟩, ?_⟩
  rintro i m σ H ⟨rfl, hi, p⟩
  obtain ⟨j1, j2⟩ := hJ i σ H p
  by_cases hlt : i < n
  · exact .inr ⟨j1 hlt, I (i + 1), fun σ' H' p' => ⟨n - (i + 1), by omega, rfl, hlt, p'⟩, fun x H' y => hs i σ H x H' hlt p y⟩
  · have e : i = n := by omega
    exact .inl ⟨j2 e, hd σ H (by rw [← e]; exact p)⟩
theorem ints_dp {K : PySem.W.Frag} {H : Hp} : ∀ ns : List Int, DpAll K H (ns.map V.int) (ns.map PyData.int)
  | [] => .nil
  | n :: ns => .cons (.int n) (ints_dp ns)
/-- a list against [] -/
theorem ne_nil {K : PySem.W.Frag} {H : Hp} {r p : Addr} {xs : List V} {ds : List PyData} {Q : VK} (hr : H r = some (.lst xs)) (hA : DpAll K H xs ds) (hp : H p = some (.lst [])) (h1 : plainDs ds = true) (h2 : PyData.depthAll ds ≤ 60)
    (q : Q (.bl (!ds.isEmpty)) H) : rNeD K (.ref r) (.ref p) H Q := by
  refine ⟨.list ds, .list [], .lst (SqL.of hr) hA, .lst (SqL.of hp) .nil, shaped_of (by simp only [plainD]; exact h1) (by simp only [PyData.depth]; omega), shaped_of (by simp [plainD, plainDs]) (by simp [PyData.depth, PyData.depthAll]), ?_⟩
  have e : (!PyData.eqv (.list ds) (.list [])) = !ds.isEmpty := by
    cases ds with
    | nil => simp [PyData.eqv, PyData.eqvAll]
    | cons d ds => simp [PyData.eqv, PyData.eqvAll]
  rw [e]
  exact q
theorem eq_nil {K : PySem.W.Frag} {H : Hp} {r p : Addr} {xs : List V} {ds : List PyData} {Q : VK} (hr : H r = some (.lst xs)) (hA : DpAll K H xs ds) (hp : H p = some (.lst [])) (h1 : plainDs ds = true) (h2 : PyData.depthAll ds ≤ 60)
    (q : Q (.bl ds.isEmpty) H) : rEqD K (.ref r) (.ref p) H Q := by
  refine ⟨.list ds, .list [], .lst (SqL.of hr) hA, .lst (SqL.of hp) .nil, shaped_of (by simp only [plainD]; exact h1) (by simp only [PyData.depth]; omega), shaped_of (by simp [plainD, plainDs]) (by simp [PyData.depth, PyData.depthAll]), ?_⟩
  have e : (PyData.eqv (.list ds) (.list [])) = ds.isEmpty := by
    cases ds with
    | nil => simp [PyData.eqv, PyData.eqvAll]
    | cons d ds => simp [PyData.eqv, PyData.eqvAll]
  rw [e]
  exact q
/-- both parts, or nothing -/
def hv (x : Nd) : List Nd := if 2 ≤ x.2 - x.1 then [lo x, hi x] else []
theorem hv_two {x : Nd} (h : 2 ≤ x.2 - x.1) : hv x = [lo x, hi x] := if_pos h
theorem hv_one {x : Nd} (h : ¬ 2 ≤ x.2 - x.1) : hv x = [] := if_neg h
theorem below_iff {y x : Nd} : Below y x ↔ y = x ∨ ∃ z, z ∈ hv x ∧ Below y z := by
  constructor
  · intro b
    cases b with
    | here => exact .inl rfl
    | lo h b => exact .inr ⟨lo x, by rw [hv_two h]; exact List.mem_cons_self, b⟩
    | hi h b => exact .inr ⟨hi x, by rw [hv_two h]; exact List.mem_cons_of_mem _ List.mem_cons_self, b⟩
  · rintro (rfl | ⟨z, hz, b⟩)
    · exact .here _
    · by_cases h : 2 ≤ x.2 - x.1
      · rw [hv_two h] at hz
        rcases List.mem_cons.mp hz with rfl | hz
        · exact .lo h b
        · rw [List.mem_singleton.mp hz] at b
          exact .hi h b
      · rw [hv_one h] at hz
        exact absurd hz List.not_mem_nil
section
variable {P : Program} {w : World} {K : PySem.W.Frag} {mg : Str → Option Value} {base : Heap}
/-! ### _law_cells -/
abbrev sCells : Stmt := top 32
theorem scCells : FnScope ["_law_script", "_law_top", "_law_cells_here", "_law_k", "_law_cell", "_law_at_so"] ["_law_script", "_law_top"] (C8.fnScope sCells) := C8.fnScope_by (by decide +kernel)
def spCells (K : PySem.W.Frag) : Sp := fun vs H Q _ => ∃ (a : Addr) (ns : List Int), vs = [.ref a, .int 2] ∧ SqL K H a (ns.map V.int) ∧ ns.length ≤ 63 ∧
  ∀ (p : Addr) (cs : List Int) (H' : Hp), Same H H' → H p = none → H' p = some (.lst (cs.map V.int)) → 1 ≤ cs.length → cs.length ≤ 2 → Q (.ref p) H'
theorem cut_le {xs : List V} : cutV xs none (some 2) = xs.take (min 2 xs.length) := by
  unfold cutV
  rw [HT.sIx_none, show (some (2 : Int)) = some (((2 : Nat) : Int)) from rfl, HT.sIx_nat]
  rfl
theorem cut_ge {xs : List V} (h : xs.length ≤ 63) : (cutV xs (some 2) (some 63)).length = xs.length - 2 := by
  unfold cutV
  rw [show (some (2 : Int)) = some (((2 : Nat) : Int)) from rfl, show (some (63 : Int)) = some (((63 : Nat) : Int)) from rfl, HT.sIx_nat, HT.sIx_nat, List.length_take, List.length_drop]
  omega
theorem cut_int {ns : List Int} {lo hi : Option Int} : ∃ ms : List Int, cutV (ns.map V.int) lo hi = ms.map V.int := by
  unfold cutV
  rw [← List.map_drop, ← List.map_take]
  exact ⟨_, rfl⟩
theorem ok_cells (D : DD K mg "_law_cells" sCells) (B : Bt mg) : C8.Cal P w K mg base 1 "_law_cells" (spCells K) [] := by
  refine cal_of D (fun _ _ _ _ _ _ us hl => match us, hl with | [_, _], _ => rfl) scCells (fun vs H Q E h => ?_) (fun f cdv A outer s H vs Q E hr h => ?_)
  · obtain ⟨a, ns, rfl, _⟩ := h
    rfl
  obtain ⟨a, ns, rfl, ha, hl, q⟩ := h
  refine ⟨_, pss_cons (ps_set (i := 2) scCells.nd rfl (Or.inl rfl) (pe_orT (pe_callTy call_list_of (by rfl) B.list (by decide +kernel) (pa_cons (pe_slice sl_list (pv 0) po_none (po_some (pv 1))) pa_nil)) (pe_one (pe_lst (pa_cons pe_int pa_nil)))))
    (pss_cons (ps_for PassesOwn.never rfl (pi_enum (by rfl) B.enum (pa_cons (pe_slice sl_list (pv 0) (po_some (pv 1)) (po_some pe_int)) pa_nil)) (pg_tup rfl (pgs_cons (pg_name (i := 3) scCells.nd rfl (.inl rfl)) (pgs_cons (pg_name (i := 4) scCells.nd rfl (.inl rfl)) pgs_nil)))
      (pss_cons (ps_set (i := 5) scCells.nd rfl (Or.inl rfl) (pe_op op_mod (pe_callTy call_int1 (by rfl) B.int (by decide +kernel) (pa_cons (pv 3) pa_nil)) (pv 1)))
      (pss_one (ps_asg (pe_op op_add (pe_ix ix_list (pv 2) (pv 5) (fun _ _ => rfl)) (pe_op op_mul (pv 4) (pe_op op_add (pv 3) pe_int))) (pg_sub (pv 2) (pv 5) set_list)))))
    (pss_one (ps_ret (pv 2)))), ?_⟩
  have hl' : (ns.map V.int).length = ns.length := List.length_map _
  refine ⟨_, rfl, _, rfl, _, rfl, a, _, rfl, ha, fun p hp => ?_⟩
  obtain ⟨ms, em⟩ := cut_int (ns := ns) (lo := none) (hi := some 2)
  have k1 := same_new hp (o := .lst (cutV (ns.map V.int) none (some 2)))
  have hml : ms.length = min 2 ns.length := by
    have := congrArg List.length em
    rw [cut_le, List.length_take, List.length_map, List.length_map] at this
    omega
  refine ⟨p, _, rfl, .inl (SqL.of upd_same), fun l hl2 => ?_⟩
  have k2 := same_new hl2 (o := .lst (cutV (ns.map V.int) none (some 2)))
  -- from the cells at c on
  have go : ∀ (c : Addr) (cs : List Int) (H2 : Hp), Same H H2 → H c = none → H2 c = some (.lst (cs.map V.int)) → 1 ≤ cs.length → cs.length ≤ 2 → (3 ≤ ns.length → cs.length = 2) →
      tSeq (tFor (iEnum K (tCons (tSl (rSlL K) (tVar 0) (tPart (tVar 1)) (tPart (tC (.int 63)))) tNil)) (gTup K 2 (gCons (gName 3) (gCons (gName 4) gNil)))
        (tSeq (tAsg (tOp (rI (fun _ j => 0 < j) fun i j => .int (i % j)) (tCB (fun xs H Q => (∃ i, xs = [V.int i] ∧ Q (V.int i) H) ∨ ∃ k, xs = [V.bl k] ∧ Q (V.int (if k then 1 else 0)) H) (tCons (tVar 3) tNil)) (tVar 1)) (gName 5))
        (tAsg (tOp (rI0 fun i j => .int (i + j)) (tOp (rIxL K) (tVar 2) (tVar 5)) (tOp (rI CMul fun i j => .int (i * j)) (tVar 4) (tOp (rI0 fun i j => .int (i + j)) (tVar 3) (tC (.int 2))))) (gSub (tVar 2) (tVar 5) rSetL))))
        (tRet (tVar 2)) { nx := fun _ H' => Q .non H', rt := Q } [some (.ref a), some (.int 2), some (.ref c), none, none, none] H2 := by
    intro c cs H2 k hc hc2 c1 c2 c3
    refine ⟨_, rfl, _, rfl, _, rfl, _, rfl, a, _, rfl, k.seq ha, fun p2 hp2 => ?_⟩
    obtain ⟨ks, ek⟩ := cut_int (ns := ns) (lo := some 2) (hi := some 63)
    have hkl : ks.length = ns.length - 2 := by
      have := congrArg List.length ek
      rw [cut_ge (by omega), List.length_map, List.length_map] at this
      omega
    have k3 := same_new hp2 (o := .lst (cutV (ns.map V.int) (some 2) (some 63)))
    have hp3 : (upd H2 p2 (.lst (cutV (ns.map V.int) (some 2) (some 63)))) p2 = some (.lst (ks.map V.int)) := by rw [upd_same, ek]
    have hc3 := k3 _ _ hc2
    have npc : p2 ≠ c := fun e => by rw [e, hc2] at hp2; cases hp2
    have kk := k.trans k3
    generalize upd H2 p2 (.lst (cutV (ns.map V.int) (some 2) (some 63))) = H3 at k3 hp3 hc3 kk
    refine ⟨p2, _, rfl, SqL.of hp3, ?_⟩
    refine for_by (ks.map V.int).length (fun i σ H' => (∃ u v x, σ = [some (.ref a), some (.int 2), some (.ref c), u, v, x]) ∧ Same H H' ∧ H' p2 = some (.lst (ks.map V.int)) ∧ ∃ cs' : List Int, H' c = some (.lst (cs'.map V.int)) ∧ cs'.length = cs.length)
      ⟨⟨_, _, _, rfl⟩, kk, hp3, cs, hc3, rfl⟩ (fun i σ H' ⟨_, _, h, _⟩ => ⟨fun hi => ⟨_, _, SqL.of h, List.getElem?_eq_getElem hi⟩, fun e => ⟨_, SqL.of h, Nat.le_of_eq e.symm⟩⟩) (fun i σ H4 v H5 hi ⟨⟨u1, u2, u3, eσ⟩, kH, hp4, cs', hc4, hcl⟩ hy => ?_) (fun σ H4 ⟨⟨u1, u2, u3, eσ⟩, kH, hp4, cs', hc4, hcl⟩ => ?_)
    · subst eσ
      obtain ⟨T, x, rfl, hT, rfl, hx⟩ := hy
      have hx := hx _ (SqL.of hp4)
      rw [List.getElem?_map] at hx
      rw [List.length_map] at hi
      rw [List.getElem?_eq_getElem hi] at hx
      have ex : x = .int ks[i] := (Option.some.inj hx).symm
      subst ex
      have k5 := same_new hT (o := .tup [.int (i : Nat), .int ks[i]])
      have hc5 := k5 _ _ hc4
      have hp5 := k5 _ _ hp4
      refine ⟨T, _, rfl, SqT.of upd_same, rfl, _, _, rfl, _, _, rfl, rfl, ?_⟩
      refine ⟨_, rfl, .inl ⟨_, rfl, _, rfl, _, _, rfl, rfl, (by show (0 : Int) < 2; decide), ?_⟩⟩
      have two : cs'.length = 2 := by rw [hcl]; exact c3 (by omega)
      have h2 : ((i : Nat) : Int) % 2 = ((i % 2 : Nat) : Int) := by omega
      have hlt : i % 2 < cs'.length := by omega
      refine ⟨_, rfl, _, rfl, c, _, _, .int cs'[i % 2], rfl, rfl, SqL.of hc5, at_of h2 (by rw [List.getElem?_map, List.getElem?_eq_getElem hlt]; rfl), ?_⟩
      refine ⟨_, rfl, _, rfl, _, _, rfl, rfl, _, _, rfl, rfl, .inr ⟨by show -(2 ^ 64) < ((i : Nat) : Int) + 2; omega, by show ((i : Nat) : Int) + 2 < 2 ^ 64; omega⟩, _, _, rfl, rfl, ?_⟩
      refine ⟨_, rfl, _, rfl, c, _, _, i % 2, rfl, rfl, hc5, ?_, ?_⟩
      · show ixN (cs'.map V.int).length (((i : Nat) : Int) % 2) = some (i % 2)
        rw [h2]
        unfold ixN
        rw [if_pos (by omega), if_pos (by rw [List.length_map]; omega), Int.toNat_natCast]
      · refine ⟨⟨_, _, _, rfl⟩, same_mut (kH.trans k5) hc, ?_, cs'.set (i % 2) (cs'[i % 2] + ks[i] * (((i : Nat) : Int) + 2)), ?_, by rw [List.length_set]; exact hcl⟩
        · rw [upd_ne npc]; exact hp5
        · rw [upd_same, List.map_set]
    · subst eσ
      exact ⟨_, rfl, q c cs' H4 kH hc hc4 (by omega) (by omega)⟩
  refine ⟨!(cutV (ns.map V.int) none (some 2)).isEmpty, .inl ⟨_, SqL.of upd_same, rfl⟩, ?_⟩
  rw [em] at k1 k2 hl2 ⊢
  cases ms with
  | nil =>
    refine iteF ⟨(by show 1 ≤ sizeLine; decide), fun c hc => ?_⟩
    exact go c [0] _ (k1.trans (k2.trans (same_new hc))) (Same.free (k1.trans k2) hc) upd_same (by decide) (by decide) (fun h => by simp at hml; omega)
  | cons m ms =>
    refine iteT ?_
    rw [List.length_cons] at hml
    exact go l (m :: ms) _ (k1.trans k2) (Same.free k1 hl2) upd_same (by simp) (by simp only [List.length_cons]; omega) (fun h => by simp only [List.length_cons]; omega)
/-! ### _law_halves -/
abbrev sHalves : Stmt := top 34
theorem scHalves : FnScope ["_law_knot", "_law_wide"] ["_law_knot"] (C8.fnScope sHalves) := C8.fnScope_by (by decide +kernel)
def spHalves : Sp := fun vs H Q _ => ∃ v x, vs = [v] ∧ Im H v (ndP x) ∧ x.1 < x.2 ∧ x.2 - x.1 ≤ 32 ∧
  ∀ (p : Addr) (ys : List V) (H' : Hp), Same H H' → H p = none → H' p = some (.lst ys) → ImAll H' ys ((hv x).map ndP) → Q (.ref p) H'
def wideOk (n f : Int) : Prop := (f = 1 ∨ f = 2 ∨ f = 4 ∨ f = 8 ∨ f = 16) ∧ (f = 1 ∨ f < n)
theorem wide_step {n f : Int} (h : wideOk n f) (hn : n ≤ 32) (hf : 2 * f < n) : wideOk n (2 * f) ∧ f ≤ 8 := by
  unfold wideOk at *; omega
theorem wide_end {n f : Int} (h : wideOk n f) (h2 : 2 ≤ n) (hn : n ≤ 32) (hq : ¬ 2 * f < n) : f = hf n := by
  unfold wideOk hf at *
  repeat' split
  all_goals omega
theorem ok_halves (D : DD K mg "_law_halves" sHalves) : C8.Cal P w K mg base 1 "_law_halves" spHalves [] := by
  refine cal_of D (fun _ _ _ _ _ _ us hl => match us, hl with | [_], _ => rfl) scHalves (fun vs H Q E h => ?_) (fun f cdv A outer s H vs Q E hr h => ?_)
  · obtain ⟨v, x, rfl, _⟩ := h
    rfl
  obtain ⟨v, x, rfl, hx, z0, z1, q⟩ := h
  obtain ⟨a, rfl, ha⟩ := nd_inv hx
  refine ⟨_, pss_cons (ps_set (i := 1) scHalves.nd rfl (Or.inl rfl) pe_int)
    (pss_cons (ps_while PassesOwn.never (pt_cmpR op_lt (pe_op op_mul pe_int (pv 1)) (pe_op op_sub (pe_ix ix_tup (pv 0) pe_int (fun _ _ => rfl)) (pe_ix ix_tup (pv 0) pe_int (fun _ _ => rfl))) (nomark _)) (pss_one (ps_set (i := 1) scHalves.nd rfl (Or.inl rfl) (pe_op op_mul pe_int (pv 1)))))
    (pss_one (ps_ret (pe_ifExp (pt_cmpR op_gt (pe_op op_sub (pe_ix ix_tup (pv 0) pe_int (fun _ _ => rfl)) (pe_ix ix_tup (pv 0) pe_int (fun _ _ => rfl))) pe_int (nomark _))
      (pe_lst (pa_cons (pe_tup (pa_cons (pe_ix ix_tup (pv 0) pe_int (fun _ _ => rfl)) (pa_cons (pe_op op_add (pe_ix ix_tup (pv 0) pe_int (fun _ _ => rfl)) (pv 1)) pa_nil))) (pa_cons (pe_tup (pa_cons (pe_op op_add (pe_ix ix_tup (pv 0) pe_int (fun _ _ => rfl)) (pv 1)) (pa_cons (pe_ix ix_tup (pv 0) pe_int (fun _ _ => rfl)) pa_nil))) pa_nil)))
      (pe_lst pa_nil))))), ?_⟩
  refine ⟨fun m σ H' => H' = H ∧ ∃ f : Int, σ = [some (.ref a), some (.int f)] ∧ wideOk (x.2 - x.1) f ∧ m = (64 - f).toNat, ⟨_, rfl, 1, rfl, ⟨.inl rfl, .inl rfl⟩, rfl⟩, ?_⟩
  rintro m σ H' ⟨rfl, f, rfl, hf, rfl⟩
  refine ⟨_, rfl, _, _, rfl, rfl, .inl ⟨by decide, by decide⟩, _, rfl, _, _, _, _, rfl, rfl, SqT.of ha, rfl, _, rfl, _, _, _, _, rfl, rfl, SqT.of ha, rfl, _, _, rfl, rfl, _, _, rfl, rfl, _, rfl, ?_⟩
  refine ite2 (fun c => ?_) (fun c => ?_)
  · have c' : 2 * f < x.2 - x.1 := of_decide_eq_true c
    obtain ⟨h1, h2⟩ := wide_step hf z1 c'
    refine ⟨fun σ' H'' => ∃ m', m' < (64 - f).toNat ∧ H'' = H' ∧ ∃ f : Int, σ' = [some (.ref a), some (.int f)] ∧ wideOk (x.2 - x.1) f ∧ m' = (64 - f).toNat, fun _ _ h => h, _, rfl, _, _, rfl, rfl, .inl ⟨by decide, by decide⟩, _, ?_, rfl, _, rfl, h1, rfl⟩
    have : 1 ≤ f := by unfold wideOk at hf; omega
    omega
  · have c' : ¬ 2 * f < x.2 - x.1 := fun z => c (decide_eq_true z)
    refine ⟨_, rfl, _, _, _, _, rfl, rfl, SqT.of ha, rfl, _, rfl, _, _, _, _, rfl, rfl, SqT.of ha, rfl, _, _, rfl, rfl, _, _, rfl, rfl, _, rfl, ?_⟩
    refine ite2 (fun d => ?_) (fun d => ?_)
    · have hw : 2 ≤ x.2 - x.1 := by have := of_decide_eq_true d; omega
      have em : x.1 + f = md x := by rw [wide_end hf hw z1 c']; rfl
      refine ⟨_, rfl, _, _, _, _, rfl, rfl, SqT.of ha, rfl, _, rfl, _, _, _, _, rfl, rfl, SqT.of ha, rfl, _, rfl, _, _, rfl, rfl, (by show 2 ≤ sizeLine; decide), fun p hp => ?_⟩
      have k1 := same_new hp (o := .tup [.int x.1, .int (x.1 + f)])
      have ha1 := k1 _ _ ha
      refine ⟨_, rfl, _, _, _, _, rfl, rfl, SqT.of ha1, rfl, _, rfl, _, _, rfl, rfl, _, rfl, _, _, _, _, rfl, rfl, SqT.of ha1, rfl, (by show 2 ≤ sizeLine; decide), fun p2 hp2 => ⟨(by show 2 ≤ sizeLine; decide), fun l hl => ?_⟩⟩
      have k2 := same_new hp2 (o := .tup [.int (x.1 + f), .int x.2])
      have k3 := same_new hl (o := .lst [.ref p, .ref p2])
      refine q l _ _ (k1.trans (k2.trans k3)) (Same.free (k1.trans k2) hl) upd_same ?_
      rw [hv_two hw]
      refine .cons ?_ (.cons ?_ .nil)
      · have h := k3 _ _ (k2 _ _ (upd_same (H := H') (a := p) (o := .tup [.int x.1, .int (x.1 + f)])))
        rw [em] at h
        exact nd_mk h
      · have h := k3 _ _ (upd_same (H := upd H' p (.tup [.int x.1, .int (x.1 + f)])) (a := p2) (o := .tup [.int (x.1 + f), .int x.2]))
        rw [em] at h
        exact nd_mk h
    · have hw : ¬ 2 ≤ x.2 - x.1 := fun z => d (decide_eq_true (by omega))
      refine ⟨(by show 0 ≤ sizeLine; decide), fun l hl => ?_⟩
      exact q l [] _ (same_new hl) hl upd_same (by rw [hv_one hw]; exact .nil)
/-! ### _law_under, _law_grown -/
abbrev sUnder : Stmt := top 35
theorem scUnder : FnScope ["_law_knot", "_law_found", "_law_left", "_law_here"] ["_law_knot"] (C8.fnScope sUnder) := C8.fnScope_by (by decide +kernel)
def spUnder : Sp := fun vs H Q _ => ∃ v x, vs = [v] ∧ Im H v (ndP x) ∧ Ok x ∧
  ∀ (p : Addr) (ys : List V) (gs : List Nd) (H' : Hp), Same H H' → H p = none → H' p = some (.lst ys) → ImAll H' ys (gs.map ndP) → gs.length ≤ 35 → 1 ≤ gs.length → (∀ y, y ∈ gs ↔ Below y x) → Q (.ref p) H'
theorem sumM_hv {y : Nd} (o : Ok y) : sumM (hv y) + 1 ≤ (2 * (y.2 - y.1) - 1).toNat := by
  by_cases h : 2 ≤ y.2 - y.1
  · rw [hv_two h]
    exact Nat.le_of_eq (sumM_parts h)
  · rw [hv_one h]
    have := o.l
    simp only [sumM, List.map_nil, List.sum_nil]
    omega
theorem hv_ok {y z : Nd} (o : Ok y) (h : z ∈ hv y) : Ok z := by
  by_cases hw : 2 ≤ y.2 - y.1
  · rw [hv_two hw] at h
    rcases List.mem_cons.mp h with rfl | h
    · exact o.lo hw
    · rw [List.mem_singleton.mp h]; exact o.hi hw
  · rw [hv_one hw] at h
    exact absurd h List.not_mem_nil
theorem hv_len (y : Nd) : (hv y).length ≤ 2 := by
  unfold hv
  split
  · exact Nat.le_refl 2
  · exact Nat.zero_le 2
theorem ok_lenM {W : List Nd} (h : ∀ y, y ∈ W → Ok y) : W.length ≤ sumM W := by
  induction W with
  | nil => exact Nat.le_refl 0
  | cons y W ih =>
    have := ih fun z hz => h z (List.mem_cons_of_mem _ hz)
    have o := (h y List.mem_cons_self).l
    simp only [sumM, List.map_cons, List.sum_cons, List.length_cons] at *
    omega
theorem ok_under (D : DD K mg "_law_under" sUnder) (B : Bt mg) (c1 : C8.Cal P w K mg base 1 "_law_halves" spHalves []) : C8.Cal P w K mg base 2 "_law_under" spUnder [] := by
  refine cal_of D (fun _ _ _ _ _ _ us hl => match us, hl with | [_], _ => rfl) scUnder (fun vs H Q E h => ?_) (fun f cdv A outer s H vs Q E hr h => ?_)
  · obtain ⟨v, x, rfl, _⟩ := h
    rfl
  obtain ⟨v, x, rfl, hx, o, q⟩ := h
  refine ⟨_, pss_cons (ps_par (i := 1) (j := 2) (by rfl) scUnder.nd rfl rfl (by decide) rfl rfl (pa_cons (pe_lst pa_nil) (pa_cons (pe_lst (pa_cons (pv 0) pa_nil)) pa_nil)) (by rfl))
    (pss_cons (ps_while PassesOwn.never (pt_cmpR (op_neD hr.units) (pv 2) (pe_lst pa_nil) (nomark _))
      (pss_cons (ps_set (i := 3) scUnder.nd rfl (Or.inl rfl) (pe_bm0 PySem.F.plainAttrs_list PySem.F.slot_list_pop PySem.F.type_list_pop mt_pop (pv 2)))
      (pss_cons (ps_expr (pe_bm PySem.F.plainAttrs_list PySem.F.slot_list_append PySem.F.type_list_append mt_append (pv 1) (pa_cons (pv 3) pa_nil)))
      (pss_one (ps_set (i := 2) scUnder.nd rfl (Or.inl rfl) (pe_op op_cat (pv 2) (C8.pe_c c1 hr (by decide) rfl (pa_cons (pv 3) pa_nil))))))))
    (pss_one (ps_ret (pe_callB (cr_sortT (d := 2) (B := 64) (by decide)) (by rfl) B.sorted (by decide +kernel) (pa_cons (pv 1) pa_nil))))), ?_⟩
  refine ⟨(by show 0 ≤ sizeLine; decide), fun fr hfr => ?_⟩
  have k1 := same_new hfr (o := .lst [])
  refine ⟨_, rfl, (by show 1 ≤ sizeLine; decide), fun wr hwr => ?_⟩
  have k2 := same_new hwr (o := .lst [v])
  refine ⟨_, _, rfl, ?_⟩
  refine ⟨fun m σ H' => ∃ (wr : Addr) (u : Option V) (fs ws : List V) (F W : List Nd), σ = [some v, some (.ref fr), some (.ref wr), u] ∧ fr ≠ wr ∧ H wr = none ∧ Same H H' ∧ H' fr = some (.lst fs) ∧ H' wr = some (.lst ws) ∧ ImAll H' fs (F.map ndP) ∧ ImAll H' ws (W.map ndP) ∧
      (∀ y, y ∈ W → Ok y) ∧ (∀ y, y ∈ F → Ok y) ∧ F.length + sumM W ≤ 35 ∧ m = sumM W ∧ ∀ y, Below y x ↔ y ∈ F ∨ ∃ z, z ∈ W ∧ Below y z,
    ⟨_, wr, none, [], [v], [], [x], rfl, (fun e => by rw [← e, upd_same] at hwr; cases hwr), Same.free k1 hwr, k1.trans k2, k2 _ _ upd_same, upd_same, .nil, .cons (hx.sm (k1.trans k2)) .nil, fun y hy => by rw [List.mem_singleton.mp hy]; exact o, fun y hy => absurd hy List.not_mem_nil,
      by rw [sumM_one]; have := o.z; have := o.u; simp only [List.length_nil]; omega, rfl, fun y => ⟨fun b => .inr ⟨x, List.mem_singleton.mpr rfl, b⟩, fun z => z.elim (fun z => absurd z List.not_mem_nil) fun ⟨z, hz, b⟩ => by rw [List.mem_singleton.mp hz] at b; exact b⟩⟩, ?_⟩
  rintro m σ H2 ⟨wr, u, fs, ws, F, W, rfl, nef, hwr0, k, hF, hW, iF, iW, oW, oF, hlen, rfl, hmem⟩
  refine ⟨_, rfl, (by show 0 ≤ sizeLine; decide), fun p hp => ?_⟩
  have k3 := same_new hp (o := .lst [])
  have hF3 := k3 _ _ hF
  have hW3 := k3 _ _ hW
  have iF3 := iF.sm k3
  have iW3 := iW.sm k3
  have kk3 := k.trans k3
  have hp3 : (upd H2 p (.lst [])) p = some (.lst []) := upd_same
  generalize upd H2 p (.lst []) = H3 at k3 hF3 hW3 iF3 iW3 kk3 hp3
  refine ne_nil (ds := W.map ndP) hW3 (ImAll.dp _ _ iW3) hp3 (gv_plain W) (by have := gv_depth W; omega) ⟨_, rfl, ?_⟩
  refine ite2 (fun c => ?_) (fun c => ?_)
  · have hpos : 0 < ws.length := by
      rw [iW.len, List.length_map]
      cases W with
      | nil => simp at c
      | cons y W => simp
    obtain ⟨W', y, ws', u', rfl, rfl, iW', iy⟩ := imall_last iW3 hpos
    refine ⟨fun σ' H' => ∃ m', m' < sumM (W' ++ [y]) ∧ ∃ (wr : Addr) (u : Option V) (fs ws : List V) (F W : List Nd), σ' = [some v, some (.ref fr), some (.ref wr), u] ∧ fr ≠ wr ∧ H wr = none ∧ Same H H' ∧ H' fr = some (.lst fs) ∧ H' wr = some (.lst ws) ∧ ImAll H' fs (F.map ndP) ∧ ImAll H' ws (W.map ndP) ∧
      (∀ y, y ∈ W → Ok y) ∧ (∀ y, y ∈ F → Ok y) ∧ F.length + sumM W ≤ 35 ∧ m' = sumM W ∧ ∀ y, Below y x ↔ y ∈ F ∨ ∃ z, z ∈ W ∧ Below y z, fun _ _ h => h, ?_⟩
    refine ⟨_, rfl, .inl ⟨rfl, _, SqL.of hW3⟩, wr, _, u', rfl, rfl, hW3, by simp, ?_⟩
    rw [List.dropLast_concat]
    have oy : Ok y := oW y (List.mem_append_right _ (List.mem_singleton.mpr rfl))
    have oW' : ∀ z, z ∈ W' → Ok z := fun z hz => oW z (List.mem_append_left _ hz)
    have t1 := kt_lst (o := .lst ws') hW3
    have e4F : (upd H3 wr (.lst ws')) fr = some (.lst fs) := by rw [upd_ne nef]; exact hF3
    have e4W : (upd H3 wr (.lst ws')) wr = some (.lst ws') := upd_same
    have k4 : Same H (upd H3 wr (.lst ws')) := same_mut kk3 hwr0
    have iF4 := iF3.by t1
    have iW4 := iW'.by t1
    have iy4 := iy.by t1
    generalize upd H3 wr (.lst ws') = H4 at t1 e4F e4W k4 iF4 iW4 iy4
    have hM : sumM (W' ++ [y]) = sumM W' + (2 * (y.2 - y.1) - 1).toNat := by rw [sumM_app, sumM_one]
    rw [hM] at hlen
    have hle : fs.length = F.length := by rw [iF4.len, List.length_map]
    refine ⟨_, rfl, .inl ⟨rfl, _, SqL.of e4F⟩, _, rfl, fr, fs, u', rfl, rfl, e4F, small1000 (by omega), ?_⟩
    have t2 := kt_lst (o := .lst (fs ++ [u'])) e4F
    have e5W : (upd H4 fr (.lst (fs ++ [u']))) wr = some (.lst ws') := by rw [upd_ne (Ne.symm nef)]; exact e4W
    have e5F : (upd H4 fr (.lst (fs ++ [u']))) fr = some (.lst (fs ++ [u'])) := upd_same
    have k5 : Same H (upd H4 fr (.lst (fs ++ [u']))) := same_mut k4 hfr
    have iF5 := (iF4.by t2).snoc (iy4.by t2)
    have iW5 := iW4.by t2
    have iy5 := iy4.by t2
    generalize upd H4 fr (.lst (fs ++ [u'])) = H5 at t2 e5W e5F k5 iF5 iW5 iy5
    refine ⟨_, rfl, _, rfl, u', y, rfl, iy5, oy.l, by have := oy.z; have := oy.u; omega, fun r ys H6 k6 hr6 hr6' hys => ?_⟩
    have hyl : ys.length ≤ 2 := by rw [hys.len, List.length_map]; exact hv_len y
    have hwl : ws'.length ≤ 35 := by rw [iW5.len, List.length_map]; have := ok_lenM oW'; omega
    refine ⟨wr, r, ws', ys, rfl, rfl, k6 _ _ e5W, hr6', sz_of' (by omega), fun t ht => ?_⟩
    have k7 := same_new ht (o := .lst (ws' ++ ys))
    have hS := sumM_hv oy
    refine ⟨sumM (W' ++ hv y), by rw [sumM_app, hM]; omega, t, _, fs ++ [u'], ws' ++ ys, F ++ [y], W' ++ hv y, rfl, (fun e => by rw [← e, k6 _ _ e5F] at ht; cases ht), Same.free (k5.trans k6) ht, k5.trans (k6.trans k7), k7 _ _ (k6 _ _ e5F), upd_same, ?_, ?_, fun z hz => ?_, fun z hz => ?_, ?_, rfl, fun z => ?_⟩
    · rw [List.map_append]
      exact (iF5.sm k6).sm k7
    · rw [List.map_append]
      exact ((iW5.sm k6).sm k7).append (hys.sm k7)
    · rcases List.mem_append.mp hz with hz | hz
      · exact oW' z hz
      · exact hv_ok oy hz
    · rcases List.mem_append.mp hz with hz | hz
      · exact oF z hz
      · rw [List.mem_singleton.mp hz]; exact oy
    · rw [List.length_append, List.length_singleton, sumM_app]; omega
    · rw [hmem z, List.mem_append, List.mem_singleton]
      constructor
      · rintro (h | ⟨t, ht, b⟩)
        · exact .inl (.inl h)
        · rcases List.mem_append.mp ht with ht | ht
          · exact .inr ⟨t, List.mem_append_left _ ht, b⟩
          · rw [List.mem_singleton.mp ht] at b
            rcases below_iff.mp b with rfl | ⟨z', hz', b'⟩
            · exact .inl (.inr rfl)
            · exact .inr ⟨z', List.mem_append_right _ hz', b'⟩
      · rintro ((h | rfl) | ⟨t, ht, b⟩)
        · exact .inl h
        · exact .inr ⟨z, List.mem_append_right _ (List.mem_singleton.mpr rfl), .here _⟩
        · rcases List.mem_append.mp ht with ht | ht
          · exact .inr ⟨t, List.mem_append_left _ ht, b⟩
          · exact .inr ⟨y, List.mem_append_right _ (List.mem_singleton.mpr rfl), below_iff.mpr (.inr ⟨t, ht, b⟩)⟩
  · have hnil : W = [] := by
      cases W with
      | nil => rfl
      | cons y W => simp at c
    subst hnil
    refine ⟨_, rfl, sort_nodes hF3 iF3 (by omega) oF fun p ys g' hp hperm hA => ?_⟩
    have k9 := same_new hp (o := .lst ys)
    have hmF : ∀ y, y ∈ F ↔ Below y x := fun y => by rw [hmem y]; exact ⟨.inl, fun z => z.elim id fun ⟨t, ht, _⟩ => absurd ht List.not_mem_nil⟩
    refine q p ys g' _ (kk3.trans k9) (Same.free kk3 hp) upd_same (hA.sm k9) (by rw [hperm.length_eq]; omega) ?_ fun y => by rw [hperm.mem_iff]; exact hmF y
    exact List.length_pos_of_mem (hperm.mem_iff.mpr ((hmF x).mpr (.here x)))
abbrev sGrown : Stmt := top 36
theorem scGrown : FnScope ["_law_n_so"] ["_law_n_so"] (C8.fnScope sGrown) := C8.fnScope_by (by decide +kernel)
def spGrown : Sp := fun vs H Q _ => ∃ n : Int, vs = [.int n] ∧ 1 ≤ n ∧ n ≤ 18 ∧
  ∀ (p : Addr) (ys : List V) (gs : List Nd) (H' : Hp), Same H H' → H p = none → H' p = some (.lst ys) → ImAll H' ys (gs.map ndP) → gs.length ≤ 35 → 1 ≤ gs.length → (∀ y, y ∈ gs ↔ Below y (0, n)) → Q (.ref p) H'
theorem ok_grown (D : DD K mg "_law_grown" sGrown) (c1 : C8.Cal P w K mg base 2 "_law_under" spUnder []) : C8.Cal P w K mg base 3 "_law_grown" spGrown [] := by
  refine cal_of D (fun _ _ _ _ _ _ us hl => match us, hl with | [_], _ => rfl) scGrown (fun vs H Q E h => ?_) (fun f cdv A outer s H vs Q E hr h => ?_)
  · obtain ⟨n, rfl, _⟩ := h
    rfl
  obtain ⟨n, rfl, n1, n2, q⟩ := h
  refine ⟨_, pss_one (ps_ret (pe_ifExp (pt_cmpR op_gt (pv 0) pe_int (nomark _)) (C8.pe_c c1 hr (by decide) rfl (pa_cons (pe_tup (pa_cons pe_int (pa_cons (pv 0) pa_nil))) pa_nil)) (pe_lst pa_nil))), ?_⟩
  refine ⟨_, rfl, _, _, rfl, rfl, _, rfl, ?_⟩
  rw [decide_eq_true (show (0 : Int) < n by omega)]
  refine iteT ⟨_, rfl, (by show 2 ≤ sizeLine; decide), fun t ht => ?_⟩
  have k1 := same_new ht (o := .tup [.int 0, .int n])
  exact ⟨_, (0, n), rfl, nd_mk upd_same, (Al.head n1 n2).toOk, fun p ys gs H' k hp => q p ys gs H' (k1.trans k) (Same.free k1 hp)⟩
end
end Mk

set_option Elab.async false
set_option maxRecDepth 100000
set_option maxHeartbeats 4000000
set_option linter.all false
namespace Mk
open PySem PySem.Spec PyProof.Rows L2
/-- [n for n in numbers if ..] -/
theorem lc_fint {J : It} {tt : TT} {j : Nat} {vs : List Nat} {σ : L2.St} {H1 : Hp} {D : Addr} {Qd : Hp → Prop} {ns : List Int} (S : Src H1 J (ns.map V.int)) (hD : H1 D = none) (hz : ns.length ≤ 1000) (p : Int → Bool)
    (hw : ∀ x, wipe ((wipe σ vs).set j (some x)) vs = wipe σ vs) (hj : j < σ.length)
    (ht : ∀ n H, Same H1 H → ∀ Q : Bool → Hp → Prop, Q (p n) H → tt ((wipe σ vs).set j (some (.int n))) H Q)
    (hd : ∀ H, Same H1 H → H D = some (.lst ((ns.filter p).map V.int)) → Qd H) :
    ∃ W : Nat → Nat → Hp → Prop, (∃ m, W 0 m (upd H1 D (.lst []))) ∧ ∀ i m H, W i m H →
      (J.stop i H ∧ Qd H) ∨ (J.go i H ∧ ∃ Nx : Hp → Prop, (∀ H', Nx H' → ∃ m', m' < m ∧ W (i + 1) m' H') ∧ ∀ x H', J.yld i H x H' → gName j x (wipe σ vs) H' fun σ2 H2 => wipe σ2 vs = wipe σ vs ∧ tt σ2 H2 fun b H3 =>
        if b = true then tVar j σ2 H3 fun y H4 => ∃ acc, H4 D = some (.lst acc) ∧ acc.length < sizeLine ∧ Nx (upd H4 D (.lst (acc ++ [y]))) else Nx H3) := by
  refine lc_src S hD (by rw [List.length_map]; exact hz) (fun i H acc => acc = ((ns.take i).filter p).map V.int) (fun H => rfl) (fun i H acc t => ?_) (fun i x H acc hx e hA t Q1 Q0 q1 q0 => ?_) (fun H acc e hA t => ?_)
  · rw [t, List.length_map]
    refine Nat.le_trans (List.length_filter_le _ _) ?_
    rw [List.length_take]; omega
  · rw [List.getElem?_map] at hx
    cases hn : ns[i]? with
    | none => rw [hn] at hx; cases hx
    | some n =>
      rw [hn] at hx
      cases hx
      refine ⟨hw _, ht n H e _ ?_⟩
      have hget : ((wipe σ vs).set j (some (V.int n)))[j]? = some (some (V.int n)) := List.getElem?_set_self (by rw [wipe_length]; exact hj)
      cases hp : p n with
      | true =>
        refine iteT ⟨_, hget, q1 _ H (Same.refl H) ?_⟩
        rw [take_fil_yes hn hp, List.map_append, t]; rfl
      | false =>
        refine iteF (q0 H (Same.refl H) ?_)
        rw [take_fil_no hn hp, t]
  · rw [List.length_map, List.take_length] at t
    refine hd H e ?_
    rw [← t]; exact hA
theorem plain_ints (ns : List Int) : plainDs (ns.map PyData.int) = true := plains_all _ fun d hd => by
  obtain ⟨x, _, rfl⟩ := List.mem_map.mp hd
  simp only [plainD]
theorem depth_ints (ns : List Int) : PyData.depthAll (ns.map PyData.int) ≤ 0 := depths_le _ fun d hd => by
  obtain ⟨x, _, rfl⟩ := List.mem_map.mp hd
  simp [PyData.depth]
theorem hv_none {x : Nd} : (!((hv x).map ndP).isEmpty) = decide (2 ≤ x.2 - x.1) := by
  by_cases h : 2 ≤ x.2 - x.1
  · rw [hv_two h, decide_eq_true h]; rfl
  · rw [hv_one h, decide_eq_false h]; rfl
/-- what lies within -/
def inn (es ss : List Int) (y : Nd) : List Int := es.filter (fun e => decide (y.1 ≤ e ∧ e < y.2)) ++ ss.filter (fun e => decide (y.1 < e ∧ e < y.2))
theorem inn_cut {es ss : List Int} {y : Nd} : (!((inn es ss y).map PyData.int).isEmpty) = true ↔ Cut es ss y := by
  have h : (!((inn es ss y).map PyData.int).isEmpty) = true ↔ ∃ e, e ∈ inn es ss y := by
    cases inn es ss y with
    | nil => simp
    | cons e l => simp
  rw [h]
  unfold inn Cut
  simp only [List.mem_append, List.mem_filter, decide_eq_true_eq]
  constructor
  · rintro ⟨e, h | h⟩
    · exact .inl ⟨e, h⟩
    · exact .inr ⟨e, h⟩
  · rintro (⟨e, h⟩ | ⟨e, h⟩)
    · exact ⟨e, .inl h⟩
    · exact ⟨e, .inr h⟩
section
variable {P : Program} {w : World} {K : PySem.W.Frag} {mg : Str → Option Value} {base : Heap}
/-! ### _law_split -/
abbrev sSplit : Stmt := top 37
abbrev nSplit : List Str := ["_law_roots", "_law_want_so", "_law_found", "_law_left", "_law_here", "_law_inner", "_law_both", "_law_own"]
theorem scSplit : FnScope nSplit ["_law_roots", "_law_want_so"] (C8.fnScope sSplit) := C8.fnScope_by (by decide +kernel)
/-- between two turns -/
def SplI (C : Nd → Prop) (x : Nd) (H : Hp) (r : Addr) (wv : V) (fr : Addr) (m : Nat) (σ : L2.St) (H' : Hp) : Prop := ∃ (wr : Addr) (u1 u2 u3 : Option V) (fs ws : List V) (F W : List Nd), σ = [some (.ref r), some wv, some (.ref fr), some (.ref wr), u1, u2, u3, none] ∧
  fr ≠ wr ∧ H wr = none ∧ Same H H' ∧ H' fr = some (.lst fs) ∧ H' wr = some (.lst ws) ∧ ImAll H' fs (F.map ndP) ∧ ImAll H' ws (W.map ndP) ∧
  (∀ y, y ∈ W → Ok y) ∧ (∀ y, y ∈ F → Ok y) ∧ F.length + sumW W ≤ 18 ∧ m = sumM W ∧ ∀ y, Leaf C y x ↔ y ∈ F ∨ ∃ z, z ∈ W ∧ Leaf C y z
theorem ok_split (D : DD K mg "_law_split" sSplit) (B : Bt mg) (c1 : C8.Cal P w K mg base 1 "_law_halves" spHalves []) : C8.Cal P w K mg base 2 "_law_split" spDiv [] := by
  refine cal_of D (fun _ _ _ _ _ _ us hl => match us, hl with | [_, _], _ => rfl) scSplit (fun vs H Q E h => ?_) (fun f cdv A outer s H vs Q E hr h => ?_)
  · obtain ⟨r, u, wv, x, es, ss, rfl, _⟩ := h
    rfl
  obtain ⟨r, u, wv, x, es, ss, rfl, hr0, hu, o, hw, l1, l2, q⟩ := h
  refine ⟨_, pss_cons (ps_par (i := 2) (j := 3) (by rfl) scSplit.nd rfl rfl (by decide) rfl rfl (pa_cons (pe_lst pa_nil) (pa_cons (pe_callTy call_list_of (by rfl) B.list (by decide +kernel) (pa_cons (pv 0) pa_nil)) pa_nil)) (by rfl))
    (pss_cons (ps_while PassesOwn.never (pt_cmpR (op_neD hr.units) (pv 3) (pe_lst pa_nil) (nomark _))
      (pss_cons (ps_set (i := 4) scSplit.nd rfl (Or.inr rfl) (pe_bm0 PySem.F.plainAttrs_list PySem.F.slot_list_pop PySem.F.type_list_pop mt_pop (pv 3)))
      (pss_cons (ps_setLc (i := 5) (own := [("_law_own", 7)]) (g := gName 7) (tt := tTest (tChain (rI0 fun i j => .bl (decide (i ≤ j))) (rI0 fun i j => .bl (decide (i < j))) (tOp (rIxT K) (tVar 4) (tC (.int 0))) (tVar 7) (tOp (rIxT K) (tVar 4) (tC (.int 1)))))
        rfl scSplit.nd rfl rfl (sw_true rfl rfl rfl (by decide +kernel)) (pi_tup (pe_ix ix_tup (pv 1) pe_int (fun _ _ => rfl)))
        (blkOk_by (N := nSplit) (sc := C8.fnScope sSplit) (by decide +kernel)) (fun _ _ _ _ _ => pg_name (i := 7) scSplit.nd rfl (Or.inl rfl))
        (fun _ _ _ _ _ => pts_one (pt_chain op_le op_lt (pe_ix ix_tup (pv 4) pe_int (fun _ _ => rfl)) (pv 7) (pe_ix ix_tup (pv 4) pe_int (fun _ _ => rfl)))) (fun _ _ _ _ _ => pv 7))
      (pss_cons (ps_set (i := 5) scSplit.nd rfl (Or.inl rfl) (pe_op op_cat (pv 5) (pe_lc (own := [("_law_own", 7)]) (g := gName 7) (tt := tTest (tChain (rI0 fun i j => .bl (decide (i < j))) (rI0 fun i j => .bl (decide (i < j))) (tOp (rIxT K) (tVar 4) (tC (.int 0))) (tVar 7) (tOp (rIxT K) (tVar 4) (tC (.int 1)))))
        rfl scSplit.nd (pi_tup (pe_ix ix_tup (pv 1) pe_int (fun _ _ => rfl)))
        (blkOk_by (N := nSplit) (sc := C8.fnScope sSplit) (by decide +kernel)) (fun _ _ _ _ _ => pg_name (i := 7) scSplit.nd rfl (Or.inl rfl))
        (fun _ _ _ _ _ => pts_one (pt_chain op_lt op_lt (pe_ix ix_tup (pv 4) pe_int (fun _ _ => rfl)) (pv 7) (pe_ix ix_tup (pv 4) pe_int (fun _ _ => rfl)))) (fun _ _ _ _ _ => pv 7))))
      (pss_cons (ps_set (i := 6) scSplit.nd rfl (Or.inl rfl) (C8.pe_c c1 hr (by decide) rfl (pa_cons (pv 4) pa_nil)))
      (pss_one (ps_if (PW.pt (pw_and (pt_cmpR (op_neD hr.units) (pv 6) (pe_lst pa_nil) (nomark _)) (pw_and1 (pt_cmpR (op_neD hr.units) (pv 5) (pe_lst pa_nil) (nomark _)))))
        (pss_one (ps_set (i := 3) scSplit.nd rfl (Or.inl rfl) (pe_op op_cat (pv 3) (pv 6))))
        (pss_one (ps_expr (pe_bm PySem.F.plainAttrs_list PySem.F.slot_list_append PySem.F.type_list_append mt_append (pv 2) (pa_cons (pv 4) pa_nil)))))))))))
    (pss_one (ps_ret (pe_callB (cr_sortT (d := 2) (B := 64) (by decide)) (by rfl) B.sorted (by decide +kernel) (pa_cons (pv 2) pa_nil))))), ?_⟩
  refine ⟨(by show 0 ≤ sizeLine; decide), fun fr hfr => ?_⟩
  have k1 := same_new hfr (o := .lst [])
  refine ⟨_, rfl, r, _, rfl, .inl (SqL.of (k1 _ _ hr0)), fun wr hwr => ?_⟩
  have k2 := same_new hwr (o := .lst [u])
  refine ⟨_, _, rfl, ?_⟩
  refine ⟨fun m σ H' => SplI (Cut es ss) x H r wv fr m σ H', ⟨_, wr, none, none, none, [], [u], [], [x], rfl, (fun e => by rw [← e, upd_same] at hwr; cases hwr), Same.free k1 hwr, k1.trans k2, k2 _ _ upd_same, upd_same, .nil, .cons (hu.sm (k1.trans k2)) .nil, fun y hy => by rw [List.mem_singleton.mp hy]; exact o, fun y hy => absurd hy List.not_mem_nil,
      by rw [sumW_one]; have := o.z; have := o.u; simp only [List.length_nil]; omega, rfl, fun y => ⟨fun b => .inr ⟨x, List.mem_singleton.mpr rfl, b⟩, fun z => z.elim (fun z => absurd z List.not_mem_nil) fun ⟨z, hz, b⟩ => by rw [List.mem_singleton.mp hz] at b; exact b⟩⟩, ?_⟩
  rintro m σ H2 ⟨wr, u1, u2, u3, fs, ws, F, W, rfl, nef, hwr0, k, hF, hW, iF, iW, oW, oF, hlen, rfl, hmem⟩
  refine ⟨_, rfl, (by show 0 ≤ sizeLine; decide), fun p hp => ?_⟩
  have k3 := same_new hp (o := .lst [])
  have hF3 := k3 _ _ hF
  have hW3 := k3 _ _ hW
  have iF3 := iF.sm k3
  have iW3 := iW.sm k3
  have kk3 := k.trans k3
  have hp3 : (upd H2 p (.lst [])) p = some (.lst []) := upd_same
  generalize upd H2 p (.lst []) = H3 at k3 hF3 hW3 iF3 iW3 kk3 hp3
  refine ne_nil (ds := W.map ndP) hW3 (ImAll.dp _ _ iW3) hp3 (gv_plain W) (by have := gv_depth W; omega) ⟨_, rfl, ?_⟩
  refine ite2 (fun c => ?_) (fun c => ?_)
  · have hpos : 0 < ws.length := by
      rw [iW.len, List.length_map]
      cases W with
      | nil => simp at c
      | cons y W => simp
    obtain ⟨W', y, ws', u', rfl, rfl, iW', iy⟩ := imall_last iW3 hpos
    refine ⟨fun σ' H' => ∃ m', m' < sumM (W' ++ [y]) ∧ SplI (Cut es ss) x H r wv fr m' σ' H', fun _ _ h => h, ?_⟩
    refine ⟨_, rfl, .inl ⟨rfl, _, SqL.of hW3⟩, wr, _, u', rfl, rfl, hW3, by simp, ?_⟩
    rw [List.dropLast_concat]
    have oy : Ok y := oW y (List.mem_append_right _ (List.mem_singleton.mpr rfl))
    have oW' : ∀ z, z ∈ W' → Ok z := fun z hz => oW z (List.mem_append_left _ hz)
    have t1 := kt_lst (o := .lst ws') hW3
    have e4F : (upd H3 wr (.lst ws')) fr = some (.lst fs) := by rw [upd_ne nef]; exact hF3
    have e4W : (upd H3 wr (.lst ws')) wr = some (.lst ws') := upd_same
    have k4 : Same H (upd H3 wr (.lst ws')) := same_mut kk3 hwr0
    have iF4 := iF3.by t1
    have iW4 := iW'.by t1
    have iy4 := iy.by t1
    generalize upd H3 wr (.lst ws') = H4 at t1 e4F e4W k4 iF4 iW4 iy4
    have hM : sumM (W' ++ [y]) = sumM W' + (2 * (y.2 - y.1) - 1).toNat := by rw [sumM_app, sumM_one]
    rw [sumW_app, sumW_one] at hlen
    have hle : fs.length = F.length := by rw [iF4.len, List.length_map]
    have hWl := ok_len oW'
    have hwl : ws'.length = W'.length := by rw [iW4.len, List.length_map]
    have oyl := oy.l
    obtain ⟨ya, rfl, hya⟩ := nd_inv iy4
    obtain ⟨a, b, c, rfl, ha, hb, hc⟩ := wi_inv (hw.sm k4)
    refine ⟨_, rfl, _, _, _, _, rfl, rfl, SqT.of ha, rfl, b, rfl, ⟨_, SqT.of hb⟩, fun D1 hD1 => ?_⟩
    refine lc_fint (src_tup hb) hD1 l1 (fun e => decide (y.1 ≤ e ∧ e < y.2)) (fun _ => rfl) (by show 7 < 8; decide) (fun n H5 k5 Q1 q1 => ?_) (fun H5 k5 h5 => ?_)
    · have hy5 := k5 _ _ hya
      refine ⟨_, rfl, _, _, _, _, rfl, rfl, SqT.of hy5, rfl, _, rfl, _, _, rfl, rfl, _, rfl, ?_⟩
      refine ite2 (fun c => ?_) (fun c => ?_)
      · have c' : y.1 ≤ n := of_decide_eq_true c
        refine ⟨_, rfl, _, _, _, _, rfl, rfl, SqT.of hy5, rfl, _, _, rfl, rfl, _, rfl, ?_⟩
        have e : decide (y.1 ≤ n ∧ n < y.2) = decide (n < y.2) := decide_eq_decide.mpr ⟨fun z => z.2, fun z => ⟨c', z⟩⟩
        rw [e] at q1
        exact q1
      · have c' : ¬ y.1 ≤ n := fun z => c (decide_eq_true z)
        have e : decide (y.1 ≤ n ∧ n < y.2) = false := decide_eq_false fun z => c' z.1
        rw [e] at q1
        exact ⟨_, rfl, q1⟩
    have hc5 := k5 _ _ hc
    refine ⟨_, rfl, _, rfl, _, _, _, _, rfl, rfl, SqT.of (k5 _ _ ha), rfl, c, rfl, ⟨_, SqT.of hc5⟩, fun D2 hD2 => ?_⟩
    refine lc_fint (src_tup hc5) hD2 l2 (fun e => decide (y.1 < e ∧ e < y.2)) (fun _ => rfl) (by show 7 < 8; decide) (fun n H6 k6 Q1 q1 => ?_) (fun H6 k6 h6 => ?_)
    · have hy5 := k6 _ _ (k5 _ _ hya)
      refine ⟨_, rfl, _, _, _, _, rfl, rfl, SqT.of hy5, rfl, _, rfl, _, _, rfl, rfl, _, rfl, ?_⟩
      refine ite2 (fun c => ?_) (fun c => ?_)
      · have c' : y.1 < n := of_decide_eq_true c
        refine ⟨_, rfl, _, _, _, _, rfl, rfl, SqT.of hy5, rfl, _, _, rfl, rfl, _, rfl, ?_⟩
        have e : decide (y.1 < n ∧ n < y.2) = decide (n < y.2) := decide_eq_decide.mpr ⟨fun z => z.2, fun z => ⟨c', z⟩⟩
        rw [e] at q1
        exact q1
      · have c' : ¬ y.1 < n := fun z => c (decide_eq_true z)
        have e : decide (y.1 < n ∧ n < y.2) = false := decide_eq_false fun z => c' z.1
        rw [e] at q1
        exact ⟨_, rfl, q1⟩
    have f1 := List.length_filter_le (fun e => decide (y.1 ≤ e ∧ e < y.2)) es
    have f2 := List.length_filter_le (fun e => decide (y.1 < e ∧ e < y.2)) ss
    refine ⟨D1, D2, _, _, rfl, rfl, k6 _ _ h5, h6, sz_of' (by rw [List.length_map, List.length_map]; omega), fun t ht => ?_⟩
    rw [← List.map_append]
    have k7 := same_new ht (o := .lst ((inn es ss y).map V.int))
    have k47 := k5.trans (k6.trans k7)
    have e7I : (upd H6 t (.lst ((inn es ss y).map V.int))) t = some (.lst ((inn es ss y).map V.int)) := upd_same
    show tSeq _ _ _ _ (upd H6 t (.lst ((inn es ss y).map V.int)))
    generalize upd H6 t (.lst ((inn es ss y).map V.int)) = H7 at k7 k47 e7I
    refine ⟨_, rfl, .ref ya, y, rfl, iy4.sm k47, oyl, by have := oy.z; have := oy.u; omega, fun r2 ys H8 k8 hr8 hr8' hys => ?_⟩
    have k48 := k47.trans k8
    have e8F := k48 _ _ e4F
    have e8W := k48 _ _ e4W
    have hyl : ys.length ≤ 2 := by rw [hys.len, List.length_map]; exact hv_len y
    refine ⟨_, rfl, (by show 0 ≤ sizeLine; decide), fun p2 hp2 => ?_⟩
    have k9 := same_new hp2 (o := .lst [])
    refine ne_nil (ds := (hv y).map ndP) (k9 _ _ hr8') (ImAll.dp _ _ (hys.sm k9)) upd_same (gv_plain _) (by have := gv_depth (hv y); omega) ⟨_, rfl, ?_⟩
    rw [hv_none]
    have k49 := k48.trans k9
    -- where nothing is split
    have stop : ∀ H9, Same H4 H9 → ¬ (Cut es ss y ∧ 2 ≤ y.2 - y.1) → tDrop (tBM K "list" rAppend (tVar 2) (tCons (tVar 4) tNil)) { nx := fun σ' H' => ∃ m', m' < sumM (W' ++ [y]) ∧ SplI (Cut es ss) x H r (.ref a) fr m' σ' H', rt := Q } [some (.ref r), some (.ref a), some (.ref fr), some (.ref wr), some (.ref ya), some (.ref t), some (.ref r2), none] H9 := fun H9 k9 hst => by
      have e9F := k9 _ _ e4F
      refine ⟨_, rfl, .inl ⟨rfl, _, SqL.of e9F⟩, _, rfl, fr, fs, .ref ya, rfl, rfl, e9F, small1000 (by omega), ?_⟩
      have t2 := kt_lst (o := .lst (fs ++ [.ref ya])) e9F
      refine ⟨sumM W', by rw [hM]; omega, wr, _, _, _, _, ws', F ++ [y], W', rfl, nef, hwr0, same_mut (k4.trans k9) hfr, upd_same, by rw [upd_ne (Ne.symm nef)]; exact k9 _ _ e4W, ?_, (iW4.sm k9).by t2, oW', fun z hz => ?_, ?_, rfl, fun z => ?_⟩
      · rw [List.map_append]
        exact ((iF4.sm k9).by t2).snoc ((iy4.sm k9).by t2)
      · rcases List.mem_append.mp hz with hz | hz
        · exact oF z hz
        · rw [List.mem_singleton.mp hz]; exact oy
      · rw [List.length_append, List.length_singleton]; omega
      · rw [hmem z, List.mem_append, List.mem_singleton]
        constructor
        · rintro (h | ⟨t, ht, l⟩)
          · exact .inl (.inl h)
          · rcases List.mem_append.mp ht with ht | ht
            · exact .inr ⟨t, ht, l⟩
            · rw [List.mem_singleton.mp ht] at l
              exact .inl (.inr ((leaf_stop hst).mp l))
        · rintro ((h | rfl) | ⟨t, ht, l⟩)
          · exact .inl h
          · exact .inr ⟨z, List.mem_append_right _ (List.mem_singleton.mpr rfl), (leaf_stop hst).mpr rfl⟩
          · exact .inr ⟨t, List.mem_append_left _ ht, l⟩
    refine ite2 (fun c2 => ?_) (fun c2 => ?_)
    · have h2 : 2 ≤ y.2 - y.1 := of_decide_eq_true c2
      refine ⟨_, rfl, (by show 0 ≤ sizeLine; decide), fun p3 hp3 => ?_⟩
      have k10 := same_new hp3 (o := .lst [])
      refine ne_nil (ds := (inn es ss y).map PyData.int) ((k8.trans (k9.trans k10)) _ _ e7I) (ints_dp _) upd_same (plain_ints _) (by have := depth_ints (inn es ss y); omega) ⟨_, rfl, ?_⟩
      have k410 := k49.trans k10
      refine ite2 (fun c3 => ?_) (fun c3 => ?_)
      · have hC := inn_cut.mp c3
        have g1 := md_gt y
        have g2 := md_lt h2
        refine ⟨_, rfl, _, rfl, wr, r2, ws', ys, rfl, rfl, k410 _ _ e4W, (k9.trans k10) _ _ hr8', sz_of' (by omega), fun t3 ht3 => ?_⟩
        have k11 := same_new ht3 (o := .lst (ws' ++ ys))
        have kk := k410.trans k11
        refine ⟨sumM (W' ++ [lo y, hi y]), by rw [sumM_app, hM]; have := sumM_parts h2; omega, t3, _, _, _, fs, ws' ++ ys, F, W' ++ [lo y, hi y], rfl, (fun e => by rw [← e, k410 _ _ e4F] at ht3; cases ht3), Same.free (k4.trans k410) ht3, k4.trans kk, kk _ _ e4F, upd_same, iF4.sm kk, ?_, fun z hz => ?_, oF, ?_, rfl, fun z => ?_⟩
        · rw [hv_two h2] at hys
          rw [List.map_append]
          exact (iW4.sm kk).append (hys.sm (k9.trans (k10.trans k11)))
        · rcases List.mem_append.mp hz with hz | hz
          · exact oW' z hz
          · rcases List.mem_cons.mp hz with e | hz
            · rw [e]; exact oy.lo h2
            · rw [List.mem_singleton.mp hz]; exact oy.hi h2
        · rw [sumW_app, sumW_parts h2]; omega
        · rw [hmem z]
          constructor
          · rintro (h | ⟨t, ht, l⟩)
            · exact .inl h
            · rcases List.mem_append.mp ht with ht | ht
              · exact .inr ⟨t, List.mem_append_left _ ht, l⟩
              · rw [List.mem_singleton.mp ht] at l
                rcases (leaf_split hC h2).mp l with l | l
                · exact .inr ⟨lo y, List.mem_append_right _ List.mem_cons_self, l⟩
                · exact .inr ⟨hi y, List.mem_append_right _ (List.mem_cons_of_mem _ List.mem_cons_self), l⟩
          · rintro (h | ⟨t, ht, l⟩)
            · exact .inl h
            · rcases List.mem_append.mp ht with ht | ht
              · exact .inr ⟨t, List.mem_append_left _ ht, l⟩
              · refine .inr ⟨y, List.mem_append_right _ (List.mem_singleton.mpr rfl), (leaf_split hC h2).mpr ?_⟩
                rcases List.mem_cons.mp ht with e | ht
                · rw [e] at l; exact .inl l
                · rw [List.mem_singleton.mp ht] at l; exact .inr l
      · exact stop _ k410 fun z => c3 (inn_cut.mpr z.1)
    · exact stop _ k49 fun z => c2 (decide_eq_true z.2)
  · have hnil : W = [] := by
      cases W with
      | nil => rfl
      | cons y W => simp at c
    subst hnil
    have hz : sumW [] = 0 := rfl
    refine ⟨_, rfl, sort_nodes hF3 iF3 (by omega) oF fun p ys g' hp hperm hA => ?_⟩
    have k9 := same_new hp (o := .lst ys)
    refine q p ys g' _ (kk3.trans k9) (Same.free kk3 hp) upd_same (hA.sm k9) (by rw [hperm.length_eq]; omega) fun y => ?_
    rw [hperm.mem_iff, hmem y]
    exact ⟨.inl, fun z => z.elim id fun ⟨t, ht, _⟩ => absurd ht List.not_mem_nil⟩
/-! ### _law_wanted -/
abbrev sWanted : Stmt := top 38
abbrev nWanted : List Str := ["_law_roots", "_law_want_so", "_law_mine_so", "_law_own"]
theorem scWanted : FnScope nWanted ["_law_roots", "_law_want_so"] (C8.fnScope sWanted) := C8.fnScope_by (by decide +kernel)
theorem ok_wanted (D : DD K mg "_law_wanted" sWanted) (c2 : C8.Cal P w K mg base 2 "_law_split" spDiv []) : C8.Cal P w K mg base 3 "_law_wanted" spAskF [] := by
  refine cal_of D (fun _ _ _ _ _ _ us hl => match us, hl with | [_, _], _ => rfl) scWanted (fun vs H Q E h => ?_) (fun f cdv A outer s H vs Q E hr h => ?_)
  · obtain ⟨r, u, wv, x, es, ss, rfl, _⟩ := h
    rfl
  obtain ⟨r, u, wv, x, es, ss, rfl, hr0, hu, o, hw, l1, l2, q⟩ := h
  refine ⟨_, pss_cons (ps_set (i := 2) scWanted.nd rfl (Or.inr rfl) (pe_op op_cat
      (pe_lc (own := [("_law_own", 3)]) (g := gName 3) (tt := tYes) rfl scWanted.nd (pi_tup (pe_ix ix_tup (pv 1) pe_int (fun _ _ => rfl))) (blkOk_by (N := nWanted) (sc := C8.fnScope sWanted) (by decide +kernel)) (fun _ _ _ _ _ => pg_name (i := 3) scWanted.nd rfl (Or.inl rfl)) (fun _ _ _ _ _ => pts_nil)
        (fun _ _ _ _ _ => pe_tup (pa_cons (pv 3) (pa_cons (pe_op op_add (pv 3) pe_int) pa_nil))))
      (pe_lc (own := [("_law_own", 3)]) (g := gName 3) (tt := tYes) rfl scWanted.nd (pi_tup (pe_ix ix_tup (pv 1) pe_int (fun _ _ => rfl))) (blkOk_by (N := nWanted) (sc := C8.fnScope sWanted) (by decide +kernel)) (fun _ _ _ _ _ => pg_name (i := 3) scWanted.nd rfl (Or.inl rfl)) (fun _ _ _ _ _ => pts_nil)
        (fun _ _ _ _ _ => pe_tup (pa_cons pe_int (pa_cons (pv 3) pa_nil))))))
    (pss_one (ps_ret (pe_lc (own := [("_law_own", 3)]) (g := gName 3) (tt := tTest (tOp (rNotInD K) (tVar 3) (tVar 2))) rfl scWanted.nd (pi_list (C8.pe_c c2 hr (by decide) rfl (pa_cons (pv 0) (pa_cons (pv 1) pa_nil))))
      (blkOk_by (N := nWanted) (sc := C8.fnScope sWanted) (by decide +kernel)) (fun _ _ _ _ _ => pg_name (i := 3) scWanted.nd rfl (Or.inl rfl))
      (fun _ _ _ _ _ => pts_one (pt_cmpR (r := rNotInD K) (op_notInD (hu65 hr)) (pv 3) (pv 2) (by rfl))) (fun _ _ _ _ _ => pv 3)))), ?_⟩
  obtain ⟨a, b, c, rfl, ha, hb, hc⟩ := wi_inv hw
  refine ⟨_, rfl, _, _, _, _, rfl, rfl, SqT.of ha, rfl, b, rfl, ⟨_, SqT.of hb⟩, fun D1 hD1 => ?_⟩
  refine lc_pairs (src_tup hb) hD1 l1 (fun e => (e, e + 1)) (fun _ => rfl) (fun n H1 k1 Q1 q1 => ?_) (fun H1 acc1 k1 h1 i1 => ?_)
  · exact ⟨_, rfl, _, rfl, _, _, rfl, rfl, (by show 2 ≤ sizeLine; decide), fun t ht => q1 _ _ (same_new ht) (nd_mk upd_same)⟩
  refine ⟨_, rfl, _, _, _, _, rfl, rfl, SqT.of (k1 _ _ ha), rfl, c, rfl, ⟨_, SqT.of (k1 _ _ hc)⟩, fun D2 hD2 => ?_⟩
  refine lc_pairs (src_tup (k1 _ _ hc)) hD2 l2 (fun e => (0, e)) (fun _ => rfl) (fun n H2 k2 Q1 q1 => ?_) (fun H2 acc2 k2 h2 i2 => ?_)
  · exact ⟨_, rfl, (by show 2 ≤ sizeLine; decide), fun t ht => q1 _ _ (same_new ht) (nd_mk upd_same)⟩
  have n1 : acc1.length = es.length := by rw [i1.len, List.length_map, List.length_map]
  have n2 : acc2.length = ss.length := by rw [i2.len, List.length_map, List.length_map]
  refine ⟨D1, D2, acc1, acc2, rfl, rfl, k2 _ _ h1, h2, sz_of' (by omega), fun t ht => ?_⟩
  have k3 := same_new ht (o := .lst (acc1 ++ acc2))
  have k03 := k1.trans (k2.trans k3)
  have hbr : ImAll (upd H2 t (.lst (acc1 ++ acc2))) (acc1 ++ acc2) ((br es ss).map ndP) := by
    unfold br
    rw [List.map_append]
    exact ((i1.sm k2).sm k3).append (i2.sm k3)
  have ht3 : (upd H2 t (.lst (acc1 ++ acc2))) t = some (.lst (acc1 ++ acc2)) := upd_same
  generalize upd H2 t (.lst (acc1 ++ acc2)) = H3 at k3 k03 hbr ht3
  refine ⟨_, rfl, _, rfl, r, u, .ref a, x, es, ss, rfl, k03 _ _ hr0, hu.sm k03, o, hw.sm k03, l1, l2, fun p ys gs H4 k4 hp hp4 hys hgl hgs => ?_⟩
  refine ⟨p, rfl, ⟨_, SqL.of hp4⟩, fun D3 hD3 => ?_⟩
  refine lc_fil (src_lst hp4) hD3 hys (by rw [hys.len, List.length_map]; omega) (fun z => !decide (z ∈ br es ss)) (fun _ => rfl) (by show 3 < 4; decide) (fun i v z H5 hz hv k5 Q1 q1 => ?_) (fun H5 acc k5 h5 i5 => ?_)
  · have k45 := k4.trans k5
    exact ⟨_, rfl, _, rfl, notin_nodes hv (k45 _ _ ht3) (hbr.sm k45) ⟨_, rfl, q1 H5 (Same.refl H5)⟩⟩
  · refine q D3 acc _ H5 (k03.trans (k4.trans k5)) (Same.free (k03.trans k4) hD3) h5 i5 (Nat.le_trans (List.length_filter_le _ _) hgl) fun y => ?_
    rw [List.mem_filter, hgs y]
    simp
end
end Mk

set_option Elab.async false
set_option maxRecDepth 100000
set_option maxHeartbeats 4000000
set_option linter.all false
namespace Mk
open PySem PySem.Spec PyProof.Rows L2
theorem sameB_mut {b p : Addr} {H H' : Hp} {o : HO} (e : SameB b H H') (h : H p = none) : SameB b H (upd H' p o) := fun c u n hc => by
  rw [upd_ne (ne_of_none hc h)]
  exact e c u n hc
theorem Bx.mut {H : Hp} {b p : Addr} {m : Int} {o : HO} (h : Bx H b m) (n : b ≠ p) : Bx (upd H p o) b m := by
  obtain ⟨x, y, z, a, r⟩ := h
  exact ⟨x, y, z, by rw [upd_ne n]; exact a, r⟩
theorem smB {b : Addr} {H H' : Hp} (e : Same H H') : SameB b H H' := fun c o _ h => e c o h
theorem pick5 {i : Nat} {v : V} (h : [V.int 0, .int 1, .int 1, .int 2, .int 3][i]? = some v) : ∃ k : Int, v = .int k ∧ 0 ≤ k ∧ k ≤ 3 := by
  match i, h with
  | 0, h => cases h; exact ⟨0, rfl, by decide, by decide⟩
  | 1, h => cases h; exact ⟨1, rfl, by decide, by decide⟩
  | 2, h => cases h; exact ⟨1, rfl, by decide, by decide⟩
  | 3, h => cases h; exact ⟨2, rfl, by decide, by decide⟩
  | 4, h => cases h; exact ⟨3, rfl, by decide, by decide⟩
  | i + 5, h => simp at h
theorem pick4 {i : Nat} {v : V} (h : [V.int 0, .int 0, .int 1, .int 2][i]? = some v) : ∃ k : Int, v = .int k ∧ 0 ≤ k ∧ k ≤ 3 := by
  match i, h with
  | 0, h => cases h; exact ⟨0, rfl, by decide, by decide⟩
  | 1, h => cases h; exact ⟨0, rfl, by decide, by decide⟩
  | 2, h => cases h; exact ⟨1, rfl, by decide, by decide⟩
  | 3, h => cases h; exact ⟨2, rfl, by decide, by decide⟩
  | i + 4, h => simp at h
section
variable {P : Program} {w : World} {K : PySem.W.Frag} {mg : Str → Option Value} {base : Heap}
/-! ### _law_want -/
abbrev sWant : Stmt := top 39
abbrev nWant : List Str := ["_law_box_here", "_law_n_so", "_law_spots", "_law_cuts_so", "_law_turn"]
theorem scWant : FnScope nWant ["_law_box_here", "_law_n_so"] (C8.fnScope sWant) := C8.fnScope_by (by decide +kernel)
def spWant : Sp := fun vs H Q _ => ∃ (b : Addr) (n m : Int), vs = [.ref b, .int n] ∧ 1 ≤ n ∧ n ≤ 18 ∧ m ≤ 900000 ∧ Bx H b m ∧
  ∀ (v : V) (es ss : List Int) (H' : Hp), SameB b H H' → Bx H' b (m + 8) → Im H' v (wiP es ss) → (∀ e, e ∈ es → 0 ≤ e ∧ e < n) → (∀ s, s ∈ ss → 1 ≤ s ∧ s ≤ n) → es.length ≤ 60 → ss.length ≤ 60 → Q v H'
theorem ok_want (D : DD K mg "_law_want" sWant) (B : Bt mg) (c1 : C8.Cal P w K mg base 1 "_law_take" spTake []) (c2 : C8.Cal P w K mg base 2 "_law_of" spOf []) : C8.Cal P w K mg base 3 "_law_want" spWant [] := by
  refine cal_of D (fun _ _ _ _ _ _ us hl => match us, hl with | [_, _], _ => rfl) scWant (fun vs H Q E h => ?_) (fun f cdv A outer s H vs Q E hr h => ?_)
  · obtain ⟨b, n, m, rfl, _⟩ := h
    rfl
  obtain ⟨b, n, m, rfl, n1, n2, m1, hB, q⟩ := h
  refine ⟨_, pss_cons (ps_par (i := 2) (j := 3) (by rfl) scWant.nd rfl rfl (by decide) rfl rfl (pa_cons (pe_lst pa_nil) (pa_cons (pe_lst pa_nil) pa_nil)) (by rfl))
    (pss_cons (ps_for PassesOwn.never rfl (pi_range1 (by rfl) B.range (pa_cons (pe_op op_mul (C8.pe_c c2 hr (by decide) rfl (pa_cons (pv 0) (pa_cons (pe_lst (pa_cons pe_int (pa_cons pe_int (pa_cons pe_int (pa_cons pe_int (pa_cons pe_int pa_nil)))))) pa_nil)))
        (pe_callTy call_int1 (by rfl) B.int (by decide +kernel) (pa_cons (pe_cmpR op_gt (pv 1) pe_int (nomark _)) pa_nil))) pa_nil)) (pg_name (i := 4) scWant.nd rfl (Or.inl rfl))
      (pss_one (ps_expr (pe_bm PySem.F.plainAttrs_list PySem.F.slot_list_append PySem.F.type_list_append mt_append (pv 2) (pa_cons (C8.pe_c c1 hr (by decide) rfl (pa_cons (pv 0) (pa_cons (pv 1) pa_nil))) pa_nil)))))
    (pss_cons (ps_for PassesOwn.never rfl (pi_range1 (by rfl) B.range (pa_cons (pe_op op_mul (C8.pe_c c2 hr (by decide) rfl (pa_cons (pv 0) (pa_cons (pe_lst (pa_cons pe_int (pa_cons pe_int (pa_cons pe_int (pa_cons pe_int pa_nil))))) pa_nil)))
        (pe_callTy call_int1 (by rfl) B.int (by decide +kernel) (pa_cons (pe_cmpR op_gt (pv 1) pe_int (nomark _)) pa_nil))) pa_nil)) (pg_name (i := 4) scWant.nd rfl (Or.inl rfl))
      (pss_one (ps_expr (pe_bm PySem.F.plainAttrs_list PySem.F.slot_list_append PySem.F.type_list_append mt_append (pv 3) (pa_cons (pe_op op_add pe_int (C8.pe_c c1 hr (by decide) rfl (pa_cons (pv 0) (pa_cons (pv 1) pa_nil)))) pa_nil)))))
    (pss_one (ps_ret (pe_tup (pa_cons (pe_callTy (r := rTupL K) call_tuple_of (by rfl) B.tuple (by decide +kernel) (pa_cons (pe_callB (cr_sortedSet rfl) (by rfl) B.sorted (by decide +kernel) (pa_cons (pe_callTy (cr_setI rfl) (by rfl) B.set (by decide +kernel) (pa_cons (pv 2) pa_nil)) pa_nil)) pa_nil))
      (pa_cons (pe_callTy (r := rTupL K) call_tuple_of (by rfl) B.tuple (by decide +kernel) (pa_cons (pe_callB (cr_sortedSet rfl) (by rfl) B.sorted (by decide +kernel) (pa_cons (pe_callTy (cr_setI rfl) (by rfl) B.set (by decide +kernel) (pa_cons (pv 3) pa_nil)) pa_nil)) pa_nil)) pa_nil))))))), ?_⟩
  have one : (if decide ((0 : Int) < n) = true then (1 : Int) else 0) = 1 := if_pos (decide_eq_true (by omega))
  refine ⟨(by show 0 ≤ sizeLine; decide), fun sp hsp => ?_⟩
  have k1 := same_new hsp (o := .lst [])
  refine ⟨(by show 0 ≤ sizeLine; decide), fun cu hcu => ?_⟩
  have k2 := same_new hcu (o := .lst [])
  have nsb : b ≠ sp := Ne.symm (hB.ne hsp)
  have ncb : b ≠ cu := Ne.symm ((hB.sm k1).ne hcu)
  have nsc : sp ≠ cu := fun e => by rw [← e, upd_same] at hcu; cases hcu
  have hcu0 : H cu = none := Same.free k1 hcu
  refine ⟨_, _, rfl, ?_⟩
  have hB2 := (hB.sm k1).sm k2
  have b2 : SameB b H (upd (upd H sp (.lst [])) cu (.lst [])) := smB (k1.trans k2)
  have s2 : (upd (upd H sp (.lst [])) cu (.lst [])) sp = some (.lst (([] : List Int).map V.int)) := k2 _ _ upd_same
  have c2' : (upd (upd H sp (.lst [])) cu (.lst [])) cu = some (.lst (([] : List Int).map V.int)) := upd_same
  generalize upd (upd H sp (.lst [])) cu (.lst []) = H2 at hB2 b2 s2 c2'
  refine ⟨_, rfl, (by show 5 ≤ sizeLine; decide), fun l hl => ?_⟩
  have k3 := same_new hl (o := .lst [V.int 0, .int 1, .int 1, .int 2, .int 3])
  refine ⟨b, l, _, m, rfl, (hB2.ne hl), upd_same, by decide, by decide, by omega, hB2.sm k3, fun i v H4 b4 hB4 hx => ?_⟩
  obtain ⟨k, rfl, k0, k9⟩ := pick5 hx
  have b34 : SameB b H2 H4 := (smB k3).trans b4
  have b04 := b2.trans b34
  have s4 := b34 _ _ (Ne.symm nsb) s2
  have c4 := b34 _ _ (Ne.symm ncb) c2'
  refine ⟨_, rfl, _, _, rfl, rfl, .inr ⟨_, rfl, _, _, rfl, rfl, .inl ⟨by omega, by omega⟩, ?_⟩⟩
  refine ⟨k, ?_, by omega, by omega, ?_⟩
  · show [V.int (k * (if decide ((0 : Int) < n) = true then (1 : Int) else 0))] = _
    rw [one, Int.mul_one]
  refine for_by k.toNat (fun i σ H' => (∃ t, σ = [some (.ref b), some (.int n), some (.ref sp), some (.ref cu), t]) ∧ SameB b H H' ∧ Bx H' b (m + 1 + i) ∧ H' cu = some (.lst (([] : List Int).map V.int)) ∧ ∃ ns : List Int, H' sp = some (.lst (ns.map V.int)) ∧ ns.length = i ∧ ∀ e, e ∈ ns → 0 ≤ e ∧ e < n)
    ⟨⟨_, rfl⟩, b04, hB4.mono (by omega), c4, [], s4, rfl, fun e he => absurd he List.not_mem_nil⟩ (fun i σ H' _ => ⟨fun hi => hi, fun e => Nat.le_of_eq e.symm⟩) (fun i σ H5 v H6 hi ⟨⟨t, e⟩, b5, hB5, c5, ns, s5, e5, h5⟩ hy => ?_) (fun σ H5 ⟨⟨t, e⟩, b5, hB5, c5, ns, s5, e5, h5⟩ => ?_)
  · subst e
    obtain ⟨rfl, rfl⟩ := hy
    refine ⟨_, rfl, .inl ⟨rfl, _, SqL.of s5⟩, _, rfl, _, rfl, b, n, _, rfl, n1, by omega, by omega, hB5, fun d H7 b7 hB7 d0 d1 => ?_⟩
    have s7 := b7 _ _ (Ne.symm nsb) s5
    refine ⟨sp, _, _, rfl, rfl, s7, small1000 (by rw [List.length_map]; omega), ⟨⟨_, rfl⟩, sameB_mut (b5.trans b7) hsp, (hB7.mut nsb).mono (by omega), by rw [upd_ne (Ne.symm nsc)]; exact b7 _ _ (Ne.symm ncb) c5, ns ++ [d], by rw [upd_same, List.map_append]; rfl, by rw [List.length_append, e5]; rfl, fun e he => ?_⟩⟩
    rcases List.mem_append.mp he with he | he
    · exact h5 e he
    · rw [List.mem_singleton.mp he]; exact ⟨d0, d1⟩
  subst e
  refine ⟨_, rfl, (by show 4 ≤ sizeLine; decide), fun l2 hl2 => ?_⟩
  have k6 := same_new hl2 (o := .lst [V.int 0, .int 0, .int 1, .int 2])
  refine ⟨b, l2, _, _, rfl, (hB5.ne hl2), upd_same, by decide, by decide, by omega, hB5.sm k6, fun i v H7 b7 hB7 hx => ?_⟩
  obtain ⟨k', rfl, k0', k9'⟩ := pick4 hx
  have b57 : SameB b H5 H7 := (smB k6).trans b7
  have s7 := b57 _ _ (Ne.symm nsb) s5
  have c7 := b57 _ _ (Ne.symm ncb) c5
  refine ⟨_, rfl, _, _, rfl, rfl, .inr ⟨_, rfl, _, _, rfl, rfl, .inl ⟨by omega, by omega⟩, ?_⟩⟩
  refine ⟨k', ?_, by omega, by omega, ?_⟩
  · show [V.int (k' * (if decide ((0 : Int) < n) = true then (1 : Int) else 0))] = _
    rw [one, Int.mul_one]
  refine for_by k'.toNat (fun i σ H' => (∃ t, σ = [some (.ref b), some (.int n), some (.ref sp), some (.ref cu), t]) ∧ SameB b H H' ∧ Bx H' b (m + 5 + i) ∧ H' sp = some (.lst (ns.map V.int)) ∧ ∃ cs : List Int, H' cu = some (.lst (cs.map V.int)) ∧ cs.length = i ∧ ∀ e, e ∈ cs → 1 ≤ e ∧ e ≤ n)
    ⟨⟨_, rfl⟩, b5.trans b57, hB7.mono (by omega), s7, [], c7, rfl, fun e he => absurd he List.not_mem_nil⟩ (fun i σ H' _ => ⟨fun hi => hi, fun e => Nat.le_of_eq e.symm⟩) (fun i σ H8 v H9 hi ⟨⟨t, e⟩, b8, hB8, s8, cs, c8, e8, h8⟩ hy => ?_) (fun σ H8 ⟨⟨t, e⟩, b8, hB8, s8, cs, c8, e8, h8⟩ => ?_)
  · subst e
    obtain ⟨rfl, rfl⟩ := hy
    refine ⟨_, rfl, .inl ⟨rfl, _, SqL.of c8⟩, _, rfl, _, rfl, b, n, _, rfl, n1, by omega, by omega, hB8, fun d H10 b10 hB10 d0 d1 => ?_⟩
    have c10 := b10 _ _ (Ne.symm ncb) c8
    refine ⟨_, _, rfl, rfl, cu, _, _, rfl, rfl, c10, small1000 (by rw [List.length_map]; omega), ⟨⟨_, rfl⟩, sameB_mut (b8.trans b10) hcu0, (hB10.mut ncb).mono (by omega), by rw [upd_ne nsc]; exact b10 _ _ (Ne.symm nsb) s8, cs ++ [1 + d], by rw [upd_same, List.map_append]; rfl, by rw [List.length_append, e8]; rfl, fun e he => ?_⟩⟩
    rcases List.mem_append.mp he with he | he
    · exact h8 e he
    · rw [List.mem_singleton.mp he]; omega
  subst e
  refine ⟨_, rfl, sp, ns, rfl, s8, by omega, fun a1 i1 ha1 hi1 => ⟨a1, _, i1, rfl, upd_same, by omega, fun es q1 _ hm hml hq1 => ⟨q1, _, rfl, .inl ⟨SqL.of upd_same, fun p hp => ?_⟩⟩⟩⟩
  have k9 := (same_new ha1 (o := SetO w a1 (fun j => decide (j ∈ ns)) i1)).trans ((same_new hq1 (o := .lst (es.map V.int))).trans (same_new hp (o := .tup (es.map V.int))))
  refine ⟨_, rfl, ?_⟩
  refine ⟨cu, cs, rfl, k9 _ _ c8, by omega, fun a2 i2 ha2 hi2 => ⟨a2, _, i2, rfl, upd_same, by omega, fun ss q2 _ hm2 hml2 hq2 => ⟨q2, _, rfl, .inl ⟨SqL.of upd_same, fun p2 hp2 => ?_⟩⟩⟩⟩
  have k10 := (same_new (H := upd (upd (upd H8 a1 (SetO w a1 (fun j => decide (j ∈ ns)) i1)) q1 (.lst (es.map V.int))) p (.tup (es.map V.int))) ha2 (o := SetO w a2 (fun j => decide (j ∈ cs)) i2)).trans ((same_new hq2 (o := .lst (ss.map V.int))).trans (same_new hp2 (o := .tup (ss.map V.int))))
  refine ⟨(by show 2 ≤ sizeLine; decide), fun T hT => ?_⟩
  have k11 := same_new hT (o := .tup [.ref p, .ref p2])
  refine q _ es ss _ (b8.trans (smB (k9.trans (k10.trans k11)))) ((((hB8.sm k9).sm k10).sm k11).mono (by omega)) (wi_mk upd_same ((k10.trans k11) _ _ upd_same) (k11 _ _ upd_same)) (fun e he => h5 e (of_decide_eq_true ((hm e).mp he))) (fun e he => h8 e (of_decide_eq_true ((hm2 e).mp he))) (by omega) (by omega)
/-! ### _law_value -/
abbrev sVal : Stmt := top 41
theorem scVal : FnScope ["_law_tale", "_law_knot", "_law_both"] ["_law_tale", "_law_knot"] (C8.fnScope sVal) := C8.fnScope_by (by decide +kernel)
def spVal (n : Nat) : Sp := fun vs H Q _ => ∃ (k : Nat) (a : Addr) (tale : List Int) (v : V) (x : Nd), n = k + 1 ∧ vs = [.ref a, v] ∧ H a = some (.lst (tale.map V.int)) ∧ Im H v (ndP x) ∧ Ok x ∧ x.2 ≤ tale.length ∧ x.2 - x.1 ≤ 2 ^ k ∧
  ∀ v' H', Same H H' → Im H' v' (valD tale x) → Q v' H'
def spValA : Sp := fun vs H Q _ => ∃ (a : Addr) (tale : List Int) (v : V) (x : Nd), vs = [.ref a, v] ∧ H a = some (.lst (tale.map V.int)) ∧ Im H v (ndP x) ∧ Ok x ∧ x.2 ≤ tale.length ∧
  ∀ v' H', Same H H' → Im H' v' (valD tale x) → Q v' H'
theorem hv_emp {x : Nd} : ((hv x).map ndP).isEmpty = decide (¬ 2 ≤ x.2 - x.1) := by
  by_cases h : 2 ≤ x.2 - x.1
  · rw [hv_two h, decide_eq_false (fun z => z h)]; rfl
  · rw [hv_one h, decide_eq_true h]; rfl
theorem ok_val (D : DD K mg "_law_value" sVal) (c1 : C8.Cal P w K mg base 1 "_law_halves" spHalves []) : ∀ n, C8.Cal P w K mg base (2 + n) "_law_value" (spVal n) [] := by
  refine cal_rec D (ps := ["_law_tale", "_law_knot"]) (fun _ _ _ _ _ _ us hl => match us, hl with | [_, _], _ => rfl) (fun vs H Q E ⟨k, _, _, _, _, h, _⟩ => Nat.noConfusion h) (fun n c => ?_)
  refine cal_of D (fun _ _ _ _ _ _ us hl => match us, hl with | [_, _], _ => rfl) scVal (fun vs H Q E h => ?_) (fun f cdv A outer s H vs Q E hr h => ?_)
  · obtain ⟨k, a, tale, v, x, _, rfl, _⟩ := h
    rfl
  obtain ⟨k, a, tale, v, x, hk, rfl, ha, hv, o, hl, hw, q⟩ := h
  have ek : n = k := Nat.succ.inj hk
  subst ek
  refine ⟨_, pss_cons (ps_set (i := 2) scVal.nd rfl (Or.inl rfl) (C8.pe_c c1 hr (by omega) rfl (pa_cons (pv 1) pa_nil)))
    (pss_one (ps_ret (pe_ifExp (pt_cmpR (op_eqD hr.units) (pv 2) (pe_lst pa_nil) (nomark _)) (pe_ix ix_list (pv 0) (pe_ix ix_tup (pv 1) pe_int (fun _ _ => rfl)) (fun _ _ => rfl))
      (pe_tup (pa_cons (C8.pe_c c hr (Nat.le_refl _) rfl (pa_cons (pv 0) (pa_cons (pe_ix ix_list (pv 2) pe_int (fun _ _ => rfl)) pa_nil))) (pa_cons (C8.pe_c c hr (Nat.le_refl _) rfl (pa_cons (pv 0) (pa_cons (pe_ix ix_list (pv 2) pe_int (fun _ _ => rfl)) pa_nil))) pa_nil)))))), ?_⟩
  have o1 := o.z
  have o2 := o.l
  have o3 := o.u
  refine ⟨_, rfl, v, x, rfl, hv, o2, by omega, fun r ys H1 k1 _ hr1 hys => ?_⟩
  refine ⟨_, rfl, (by show 0 ≤ sizeLine; decide), fun p hp => ?_⟩
  have k2 := same_new hp (o := .lst [])
  have k02 := k1.trans k2
  refine eq_nil (ds := (Mk.hv x).map ndP) (k2 _ _ hr1) (ImAll.dp _ _ (hys.sm k2)) upd_same (gv_plain _) (by have := gv_depth (Mk.hv x); omega) ⟨_, rfl, ?_⟩
  rw [hv_emp]
  have hr2 := k2 _ _ hr1
  have hys2 := hys.sm k2
  generalize upd H1 p (.lst []) = H2 at k2 k02 hr2 hys2
  refine ite2 (fun c1 => ?_) (fun c1 => ?_)
  · have h2 : ¬ 2 ≤ x.2 - x.1 := of_decide_eq_true c1
    obtain ⟨t, rfl, ht⟩ := nd_inv (hv.sm k02)
    have hlt : x.1.toNat < tale.length := by omega
    have ex : x.1 = ((x.1.toNat : Nat) : Int) := by omega
    refine ⟨_, rfl, _, rfl, _, _, _, _, rfl, rfl, SqT.of ht, rfl, a, _, _, .int tale[x.1.toNat], rfl, rfl, SqL.of (k02 _ _ ha), at_of ex (by rw [List.getElem?_map, List.getElem?_eq_getElem hlt]; rfl), ?_⟩
    refine q _ _ k02 ?_
    rw [val_one h2, List.getD_eq_getElem?_getD, List.getElem?_eq_getElem hlt]
    exact .int _
  · have h2 : 2 ≤ x.2 - x.1 := Classical.byContradiction fun z => c1 (decide_eq_true z)
    rw [hv_two h2] at hys2
    obtain ⟨u1, u2, rfl, hu1, hu2⟩ := two_items hys2
    match n, hw, c, hr with
    | 0, hw, _, _ => exact absurd hw (by simp; omega)
    | n + 1, hw, _, _ =>
      obtain ⟨w1, w2⟩ := half_le h2 hw (by omega)
      have g1 := md_gt x
      have g2 := md_lt h2
      refine ⟨_, rfl, _, rfl, r, _, _, u1, rfl, rfl, SqL.of hr2, rfl, n, a, tale, u1, lo x, rfl, rfl, k02 _ _ ha, hu1, o.lo h2, by rw [lo2]; omega, w1, fun v1 H3 k3 hv1 => ?_⟩
      refine ⟨_, rfl, _, rfl, r, _, _, u2, rfl, rfl, SqL.of (k3 _ _ hr2), rfl, n, a, tale, u2, hi x, rfl, rfl, (k02.trans k3) _ _ ha, hu2.sm k3, o.hi h2, by rw [hi2]; omega, w2, fun v2 H4 k4 hv2 => ?_⟩
      refine ⟨(by show 2 ≤ sizeLine; decide), fun T hT => ?_⟩
      have k5 := same_new hT (o := .tup [v1, v2])
      refine q _ _ (k02.trans (k3.trans (k4.trans k5))) ?_
      rw [val_two h2]
      exact .tup upd_same (.cons (hv1.sm (k4.trans k5)) (.cons (hv2.sm k5) .nil))
theorem ok_valA (h : ∀ n, C8.Cal P w K mg base (2 + n) "_law_value" (spVal n) []) : C8.Cal P w K mg base 8 "_law_value" spValA [] := by
  obtain ⟨f, fd, ps, ds, F, r⟩ := (h 6).ex
  refine ⟨f, fd, ps, ds, F.imp fun vs H Q E z => ?_, r⟩
  obtain ⟨a, tale, v, x, h1, h2, h3, h4, h5, h6⟩ := z
  exact ⟨5, a, tale, v, x, rfl, h1, h2, h3, h4, h5, by have := h4.z; have := h4.u; show x.2 - x.1 ≤ 32; omega, h6⟩
/-! ### _law_put -/
abbrev sPut : Stmt := top 43
theorem scPut : FnScope ["_law_some", "_law_others"] ["_law_some", "_law_others"] (C8.fnScope sPut) := C8.fnScope_by (by decide +kernel)
/-- a list or a tuple of NODEs -/
def LT (H : Hp) (v : V) (g : List Nd) : Prop := ∃ a ys, v = .ref a ∧ (H a = some (.lst ys) ∨ H a = some (.tup ys)) ∧ ImAll H ys (g.map ndP)
theorem LT.sm {H H' : Hp} {v : V} {g : List Nd} (h : LT H v g) (e : Same H H') : LT H' v g := by
  obtain ⟨a, ys, e1, h1, h2⟩ := h
  exact ⟨a, ys, e1, h1.imp (e _ _) (e _ _), h2.sm e⟩
def spPut : Sp := fun vs H Q _ => ∃ v1 v2 g1 g2, vs = [v1, v2] ∧ LT H v1 g1 ∧ LT H v2 g2 ∧ g1.length + g2.length ≤ 5000 ∧ (∀ y, y ∈ g1 → Al y) ∧ (∀ y, y ∈ g2 → Al y) ∧
  ∀ (v : V) (g' : List Nd) (H' : Hp), Same H H' → Im H' v (gvP g') → (∀ y, y ∈ g' ↔ y ∈ g1 ∨ y ∈ g2) → g'.length ≤ 53 → Q v H'
theorem sq_or {K : PySem.W.Frag} {H : Hp} {a : Addr} {ys : List V} (h : H a = some (.lst ys) ∨ H a = some (.tup ys)) : SqL K H a ys ∨ SqT K H a ys := h.imp SqL.of SqT.of
theorem ok_put (D : DD K mg "_law_put" sPut) (B : Bt mg) : C8.Cal P w K mg base 1 "_law_put" spPut [] := by
  refine cal_of D (fun _ _ _ _ _ _ us hl => match us, hl with | [_, _], _ => rfl) scPut (fun vs H Q E h => ?_) (fun f cdv A outer s H vs Q E hr h => ?_)
  · obtain ⟨v1, v2, g1, g2, rfl, _⟩ := h
    rfl
  obtain ⟨v1, v2, g1, g2, rfl, h1, h2, hl, a1, a2, q⟩ := h
  refine ⟨_, pss_one (ps_ret (pe_callTy (r := rTupL K) call_tuple_of (by rfl) B.tuple (by decide +kernel) (pa_cons (pe_callB (cr_sortedT rfl) (by rfl) B.sorted (by decide +kernel) (pa_cons (pe_callTy (cr_setN rfl (hu65 hr)) (by rfl) B.set (by decide +kernel) (pa_cons
    (pe_op op_cat (pe_callTy call_list_of (by rfl) B.list (by decide +kernel) (pa_cons (pv 0) pa_nil)) (pe_callTy call_list_of (by rfl) B.list (by decide +kernel) (pa_cons (pv 1) pa_nil))) pa_nil)) pa_nil)) pa_nil))), ?_⟩
  obtain ⟨p1, y1, rfl, e1, i1⟩ := h1
  obtain ⟨p2, y2, rfl, e2, i2⟩ := h2
  refine ⟨_, rfl, p1, y1, rfl, sq_or e1, fun l1 hl1 => ?_⟩
  have k1 := same_new hl1 (o := .lst y1)
  refine ⟨_, rfl, p2, y2, rfl, sq_or (e2.imp (k1 _ _) (k1 _ _)), fun l2 hl2 => ?_⟩
  have k2 := same_new hl2 (o := .lst y2)
  refine ⟨l1, l2, y1, y2, rfl, rfl, k2 _ _ upd_same, upd_same, sz_of' (by rw [i1.len, i2.len, List.length_map, List.length_map]; exact hl), fun t ht => ?_⟩
  have k3 := same_new ht (o := .lst (y1 ++ y2))
  have k := k1.trans (k2.trans k3)
  refine tss (g := g1 ++ g2) upd_same (by rw [List.map_append]; exact (i1.sm k).append (i2.sm k)) (fun y hy => (List.mem_append.mp hy).elim (a1 y) (a2 y)) fun v g' H' k4 hv hm hl' => ?_
  exact q v g' H' (k.trans k4) hv (fun y => by rw [hm y, List.mem_append]) hl'
end
end Mk

set_option Elab.async false
set_option maxRecDepth 100000
set_option maxHeartbeats 4000000
set_option linter.all false
namespace Mk
open PySem PySem.Spec PyProof.Rows L2
theorem ImAll.drop {H : Hp} : ∀ {vs : List V} {ds : List PyData} (n : Nat), ImAll H vs ds → ImAll H (vs.drop n) (ds.drop n)
  | _, _, 0, h => h
  | _, _, n + 1, .nil => .nil
  | _, _, n + 1, .cons _ t => ImAll.drop n t
theorem cut_im {H : Hp} {xs : List V} {g : List Nd} (h : ImAll H xs (g.map ndP)) (lo hi : Option Int) : ∃ g' : List Nd, ImAll H (cutV xs lo hi) (g'.map ndP) ∧ ∀ y, y ∈ g' → y ∈ g := by
  unfold cutV
  have k : ∀ a c : Nat, ImAll H ((xs.drop a).take c) (((g.drop a).take c).map ndP) := fun a c => by
    rw [List.map_take, List.map_drop]
    exact (h.drop a).take c
  exact ⟨_, k _ _, fun y hy => List.mem_of_mem_drop (List.mem_of_mem_take hy)⟩
section
variable {P : Program} {w : World} {K : PySem.W.Frag} {mg : Str → Option Value} {base : Heap}
/-! ### _law_bag -/
abbrev sBag : Stmt := top 40
abbrev nBag : List Str := ["_law_box_here", "_law_n_so", "_law_found", "_law_turn", "_law_own"]
theorem scBag : FnScope nBag ["_law_box_here", "_law_n_so"] (C8.fnScope sBag) := C8.fnScope_by (by decide +kernel)
/-- NODEs of a log of n entries -/
def InLog (n : Int) (g : List Nd) : Prop := ∀ y, y ∈ g → Al y ∧ y.2 ≤ n
def spBag : Sp := fun vs H Q _ => ∃ (b : Addr) (n m : Int), vs = [.ref b, .int n] ∧ 1 ≤ n ∧ n ≤ 18 ∧ m ≤ 900000 ∧ Bx H b m ∧
  ∀ (v : V) (g : List Nd) (H' : Hp), SameB b H H' → Bx H' b (m + 50) → Im H' v (gvP g) → InLog n g → g.length ≤ 53 → Q v H'
theorem grown_in {n k : Int} {gs : List Nd} (n1 : 1 ≤ k) (hk : k ≤ n) (n2 : n ≤ 18) (h : ∀ y, y ∈ gs ↔ Below y (0, k)) : InLog n gs := fun y hy => by
  have b := (h y).mp hy
  have w := b.within
  exact ⟨b.al (Al.head n1 (by omega)), by have := w.2; show y.2 ≤ n; simp only at this; omega⟩
theorem ok_bag (D : DD K mg "_law_bag" sBag) (B : Bt mg) (c1 : C8.Cal P w K mg base 1 "_law_take" spTake []) (c2 : C8.Cal P w K mg base 2 "_law_of" spOf []) (c3 : C8.Cal P w K mg base 3 "_law_grown" spGrown []) : C8.Cal P w K mg base 4 "_law_bag" spBag [] := by
  refine cal_of D (fun _ _ _ _ _ _ us hl => match us, hl with | [_, _], _ => rfl) scBag (fun vs H Q E h => ?_) (fun f cdv A outer s H vs Q E hr h => ?_)
  · obtain ⟨b, n, m, rfl, _⟩ := h
    rfl
  obtain ⟨b, n, m, rfl, n1, n2, m1, hB, q⟩ := h
  refine ⟨_, pss_cons (ps_setLc (i := 2) (own := [("_law_own", 4)]) (g := gName 4) (tt := tTest (tOp rEq (tCall spTake [] C8.E0 (tCons (tVar 0) (tCons (tC (.int 4)) tNil))) (tC (.int 0)))) (te := tVar 4)
        rfl scBag.nd rfl rfl (sw_true rfl rfl rfl (by decide +kernel)) (pi_list (C8.pe_c c3 hr (by decide) rfl (pa_cons (pv 1) pa_nil)))
        (blkOk_by (N := nBag) (sc := C8.fnScope sBag) (by decide +kernel)) (fun _ _ _ _ _ => pg_name (i := 4) scBag.nd rfl (Or.inl rfl))
        (fun _ _ _ _ _ => pts_one (pt_cmpR op_eq (C8.pe_c c1 hr (by decide) rfl (pa_cons (pv 0) (pa_cons pe_int pa_nil))) pe_int (nomark _))) (fun _ _ _ _ _ => pv 4))
    (pss_cons (ps_for PassesOwn.never rfl (pi_range1 (by rfl) B.range (pa_cons (pe_op op_mul (C8.pe_c c1 hr (by decide) rfl (pa_cons (pv 0) (pa_cons pe_int pa_nil)))
        (pe_callTy call_int1 (by rfl) B.int (by decide +kernel) (pa_cons (pe_cmpR op_gt (pv 1) pe_int (nomark _)) pa_nil))) pa_nil)) (pg_name (i := 3) scBag.nd rfl (Or.inl rfl))
      (pss_one (ps_expr (pe_bm PySem.F.plainAttrs_list PySem.F.slot_list_append PySem.F.type_list_append mt_append (pv 2) (pa_cons (C8.pe_c c2 hr (by decide) rfl (pa_cons (pv 0) (pa_cons (C8.pe_c c3 hr (by decide) rfl (pa_cons (pe_op op_add pe_int (C8.pe_c c1 hr (by decide) rfl (pa_cons (pv 0) (pa_cons (pv 1) pa_nil)))) pa_nil)) pa_nil))) pa_nil)))))
    (pss_one (ps_ret (pe_callTy (r := rTupL K) call_tuple_of (by rfl) B.tuple (by decide +kernel) (pa_cons (pe_callB (cr_sortedT rfl) (by rfl) B.sorted (by decide +kernel) (pa_cons (pe_callTy (cr_setN rfl (hu65 hr)) (by rfl) B.set (by decide +kernel) (pa_cons
      (pe_slice sl_list (pv 2) (po_some (pe_un un_neg pe_int)) po_none) pa_nil)) pa_nil)) pa_nil))))), ?_⟩
  have one : (if decide ((0 : Int) < n) = true then (1 : Int) else 0) = 1 := if_pos (decide_eq_true (by omega))
  refine ⟨_, rfl, n, rfl, n1, n2, fun p ys gs H1 k1 hp hp1 hys gl _ hgs => ?_⟩
  have npb : p ≠ b := hB.ne hp
  have ing := grown_in n1 (Int.le_refl n) n2 hgs
  have hyl : ys.length ≤ 35 := by rw [hys.len, List.length_map]; exact gl
  refine ⟨p, rfl, ⟨_, SqL.of hp1⟩, fun D1 hD1 => ?_⟩
  have nD : D1 ≠ b := (hB.sm k1).ne hD1
  have nDp : p ≠ D1 := fun e => by rw [← e, hp1] at hD1; cases hD1
  have k2 := same_new hD1 (o := .lst [])
  refine loop_by ys (fun i H' => SameB b H1 H' ∧ Bx H' b (m + i) ∧ ∃ acc g', H' D1 = some (.lst acc) ∧ ImAll H' acc (g'.map ndP) ∧ g'.length ≤ i ∧ InLog n g') ⟨smB k2, by have := (hB.sm k1).sm k2; simpa using this, [], [], upd_same, .nil, Nat.le_refl 0, fun y hy => absurd hy List.not_mem_nil⟩
    (fun i H' ⟨b', _, _⟩ => it_lst (b' _ _ npb hp1) i) (fun i x H2 hx ⟨b2, hB2, acc, g', hA, iA, gl', ig'⟩ => ?_) (fun H2 ⟨b2, hB2, acc, g', hA, iA, gl', ig'⟩ => ?_)
  · obtain ⟨d, hd1, hd2⟩ := hys.get hx
    have hi : i < ys.length := (List.getElem?_eq_some_iff.mp hx).1
    rw [List.getElem?_map] at hd1
    cases hg : gs[i]? with
    | none => rw [hg] at hd1; cases hd1
    | some z =>
      rw [hg] at hd1
      cases hd1
      refine ⟨rfl, ?_⟩
      refine ⟨_, rfl, b, 4, _, rfl, by decide, by decide, by omega, hB2, fun d H3 b3 hB3 d0 d1 => ?_⟩
      refine ⟨rfl, _, rfl, ?_⟩
      have kt3 := hB2.kt b3
      have hA3 := b3 _ _ nD hA
      refine ite2 (fun c => ?_) (fun c => ?_)
      · refine ⟨x, rfl, acc, hA3, small1000 (by rw [iA.len, List.length_map]; omega), ?_⟩
        have kt4 := kt_lst (o := .lst (acc ++ [x])) hA3
        refine ⟨sameB_mut (b2.trans b3) hD1, (hB3.mut (Ne.symm nD)).mono (by omega), acc ++ [x], g' ++ [z], upd_same, ?_, by rw [List.length_append, List.length_singleton]; omega, fun y hy => ?_⟩
        · rw [List.map_append]
          have kt12 : Kt H1 H2 := (hB.sm k1).kt b2
          exact ((iA.by kt3).by kt4).snoc (((hd2.by kt12).by kt3).by kt4)
        · rcases List.mem_append.mp hy with hy | hy
          · exact ig' y hy
          · rw [List.mem_singleton.mp hy]; exact ing z (List.mem_of_getElem? hg)
      · exact ⟨b2.trans b3, hB3.mono (by omega), acc, g', hA3, iA.by kt3, by omega, ig'⟩
  -- the second loop
  refine ⟨_, rfl, b, 3, _, rfl, by decide, by decide, by omega, hB2, fun t H3 b3 hB3 t0 t1 => ?_⟩
  have hA3 := b3 _ _ nD hA
  have iA3 := iA.by (hB2.kt b3)
  refine ⟨_, rfl, _, _, rfl, rfl, .inr ⟨_, rfl, _, _, rfl, rfl, .inl ⟨by omega, by omega⟩, ?_⟩⟩
  refine ⟨t, ?_, by omega, by omega, ?_⟩
  · show [V.int (t * (if decide ((0 : Int) < n) = true then (1 : Int) else 0))] = _
    rw [one, Int.mul_one]
  have hD0 : H D1 = none := Same.free k1 hD1
  refine for_by t.toNat (fun i σ H' => (∃ u, σ = [some (.ref b), some (.int n), some (.ref D1), u, none]) ∧ SameB b H H' ∧ Bx H' b (m + 36 + 2 * i) ∧ ∃ acc g', H' D1 = some (.lst acc) ∧ ImAll H' acc (g'.map ndP) ∧ g'.length ≤ 35 + i ∧ InLog n g')
    ⟨⟨_, rfl⟩, (smB k1).trans (b2.trans b3), hB3.mono (by omega), acc, g', hA3, iA3, by omega, ig'⟩ (fun i σ H' _ => ⟨fun hi => hi, fun e => Nat.le_of_eq e.symm⟩) (fun i σ H5 v H6 hi ⟨⟨u, e⟩, b5, hB5, acc5, g5, h5, i5, l5, in5⟩ hy => ?_) (fun σ H5 ⟨⟨u, e⟩, b5, hB5, acc5, g5, h5, i5, l5, in5⟩ => ?_)
  · subst e
    obtain ⟨rfl, rfl⟩ := hy
    refine ⟨_, rfl, .inl ⟨rfl, _, SqL.of h5⟩, _, rfl, _, rfl, _, rfl, b, n, _, rfl, n1, by omega, by omega, hB5, fun d H7 b7 hB7 d0 d1 => ?_⟩
    refine ⟨_, _, rfl, rfl, _, rfl, by omega, by omega, fun p8 ys8 gs8 H8 k8 hp8 hp8' hys8 gl8 gl8' hgs8 => ?_⟩
    have in8 := grown_in (n := n) (by omega) (by omega) n2 hgs8
    have yl8 : ys8.length = gs8.length := by rw [hys8.len, List.length_map]
    refine ⟨b, p8, ys8, _, rfl, hB7.ne hp8, hp8', by omega, by omega, by omega, hB7.sm k8, fun j v H9 b9 hB9 hv => ?_⟩
    obtain ⟨dd, hd1, hd2⟩ := hys8.get hv
    rw [List.getElem?_map] at hd1
    cases hg : gs8[j]? with
    | none => rw [hg] at hd1; cases hd1
    | some z =>
      rw [hg] at hd1
      cases hd1
      have kt57 := hB5.kt b7
      have kt89 := (hB7.sm k8).kt b9
      have b59 : SameB b H6 H9 := b7.trans ((smB k8).trans b9)
      have h9 := b59 _ _ nD h5
      have i9 := ((i5.by kt57).sm k8).by kt89
      refine ⟨D1, acc5, v, rfl, rfl, h9, small1000 (by rw [i5.len, List.length_map]; omega), ?_⟩
      have kt10 := kt_lst (o := .lst (acc5 ++ [v])) h9
      refine ⟨⟨_, rfl⟩, sameB_mut (b5.trans b59) hD0, (hB9.mut (Ne.symm nD)).mono (by omega), acc5 ++ [v], g5 ++ [z], upd_same, ?_, by rw [List.length_append, List.length_singleton]; omega, fun y hy => ?_⟩
      · rw [List.map_append]
        exact (i9.by kt10).snoc ((hd2.by kt89).by kt10)
      · rcases List.mem_append.mp hy with hy | hy
        · exact in5 y hy
        · rw [List.mem_singleton.mp hy]; exact in8 z (List.mem_of_getElem? hg)
  subst e
  refine ⟨_, rfl, _, rfl, _, rfl, D1, _, rfl, SqL.of h5, fun c hc => ?_⟩
  obtain ⟨g6, i6, m6⟩ := cut_im i5 (some (-24)) none
  have k7 := same_new hc (o := .lst (cutV acc5 (some (-24)) none))
  refine tss (g := g6) upd_same (i6.sm k7) (fun y hy => (in5 y (m6 y hy)).1) fun v g' H' k8 hv hm hl' => ?_
  exact q v g' H' (b5.trans (smB (k7.trans k8))) (((hB5.sm k7).sm k8).mono (by omega)) hv (fun y hy => in5 y (m6 y ((hm y).mp hy))) hl'
end
end Mk

set_option Elab.async false
set_option maxRecDepth 100000
set_option maxHeartbeats 4000000
set_option linter.all false
namespace Mk
open PySem PySem.Spec PyProof.Rows L2
open Classical in
/-- the mark that comes of what one knows -/
noncomputable def fo (tale : List Int) (g : Nd → Prop) (x : Nd) : List PyData := if Had g x then [valD tale x] else []
theorem fo_yes {tale : List Int} {g : Nd → Prop} {x : Nd} (h : Had g x) : fo tale g x = [valD tale x] := if_pos h
theorem fo_no {tale : List Int} {g : Nd → Prop} {x : Nd} (h : ¬ Had g x) : fo tale g x = [] := if_neg h
theorem fo_plain (tale : List Int) (g : Nd → Prop) {x : Nd} (o : Ok x) : plainDs (fo tale g x) = true := by
  by_cases h : Had g x
  · rw [fo_yes h]; simp only [plainDs, val_plain tale x o.l, Bool.and_self]
  · rw [fo_no h]; simp only [plainDs]
theorem fo_depth (tale : List Int) (g : Nd → Prop) {x : Nd} (o : Ok x) : PyData.depthAll (fo tale g x) ≤ 5 := by
  by_cases h : Had g x
  · rw [fo_yes h]; have := val_dep (tale := tale) o; simp only [PyData.depthAll]; omega
  · rw [fo_no h]; simp [PyData.depthAll]
theorem fo_nil (tale : List Int) (g : Nd → Prop) (x : Nd) : PyData.eqv (.list (fo tale g x)) (.list []) = true ↔ ¬ Had g x := by
  by_cases h : Had g x
  · rw [fo_yes h]; simp [PyData.eqv, PyData.eqvAll, h]
  · rw [fo_no h]; simp [PyData.eqv, PyData.eqvAll, h]
section
variable {P : Program} {w : World} {K : PySem.W.Frag} {mg : Str → Option Value} {base : Heap}
/-! ### _law_folded -/
abbrev sFold : Stmt := top 42
abbrev nFold : List Str := ["_law_known", "_law_knot", "_law_both", "_law_found", "_law_own"]
theorem scFold : FnScope nFold ["_law_known", "_law_knot"] (C8.fnScope sFold) := C8.fnScope_by (by decide +kernel)
def spFold (n : Nat) : Sp := fun vs H Q _ => ∃ (k : Nat) (d : Addr) (kvs : List (List Key × V)) (tale : List Int) (g : Nd → Prop) (v : V) (x : Nd), n = k + 1 ∧ vs = [.ref d, v] ∧ H d = some (.dT kvs) ∧ KvOk tale H g kvs ∧ Im H v (ndP x) ∧ Ok x ∧ x.2 - x.1 ≤ 2 ^ k ∧
  ∀ (r : Addr) (ys : List V) (H' : Hp), Same H H' → H r = none → H' r = some (.lst ys) → ImAll H' ys (fo tale g x) → Q (.ref r) H'
def spFoldA : Sp := fun vs H Q _ => ∃ (d : Addr) (kvs : List (List Key × V)) (tale : List Int) (g : Nd → Prop) (v : V) (x : Nd), vs = [.ref d, v] ∧ H d = some (.dT kvs) ∧ KvOk tale H g kvs ∧ Im H v (ndP x) ∧ Ok x ∧
  ∀ (r : Addr) (ys : List V) (H' : Hp), Same H H' → H r = none → H' r = some (.lst ys) → ImAll H' ys (fo tale g x) → Q (.ref r) H'
theorem KvOk.sm {tale : List Int} {H H' : Hp} {g : Nd → Prop} {kvs : List (List Key × V)} (h : KvOk tale H g kvs) (k : Same H H') : KvOk tale H' g kvs := h.kt (kt_same k)
theorem ok_fold (D : DD K mg "_law_folded" sFold) (c1 : C8.Cal P w K mg base 1 "_law_halves" spHalves []) : ∀ n, C8.Cal P w K mg base (2 + n) "_law_folded" (spFold n) [] := by
  refine cal_rec D (ps := ["_law_known", "_law_knot"]) (fun _ _ _ _ _ _ us hl => match us, hl with | [_, _], _ => rfl) (fun vs H Q E ⟨k, _, _, _, _, _, _, h, _⟩ => Nat.noConfusion h) (fun n c => ?_)
  refine cal_of D (fun _ _ _ _ _ _ us hl => match us, hl with | [_, _], _ => rfl) scFold (fun vs H Q E h => ?_) (fun f cdv A outer s H vs Q E hr h => ?_)
  · obtain ⟨k, d, kvs, tale, g, v, x, _, rfl, _⟩ := h
    rfl
  obtain ⟨k, d, kvs, tale, g, v, x, hk, rfl, hd, hkv, hv, o, hw, q⟩ := h
  have ek : n = k := Nat.succ.inj hk
  subst ek
  refine ⟨_, pss_cons (ps_if (pt_cmp (pc_din (hu_of hr) (pv 1) (pv 0))) (pss_one (ps_ret (pe_lst (pa_cons (pe_dget (hu_of hr) (pv 0) (pv 1) (fun _ _ => rfl)) pa_nil)))) pss_nil)
    (pss_cons (ps_set (i := 2) scFold.nd rfl (Or.inl rfl) (C8.pe_c c1 hr (by omega) rfl (pa_cons (pv 1) pa_nil)))
    (pss_cons (ps_setLc (i := 3) (own := [("_law_own", 4)]) (g := gName 4) (tt := tYes) rfl scFold.nd rfl rfl (sw_true rfl rfl rfl (by decide +kernel)) (pi_list (pv 2))
        (blkOk_by (N := nFold) (sc := C8.fnScope sFold) (by decide +kernel)) (fun _ _ _ _ _ => pg_name (i := 4) scFold.nd rfl (Or.inl rfl)) (fun _ _ _ _ _ => pts_nil)
        (fun _ _ _ _ _ => C8.pe_c c hr (Nat.le_refl _) rfl (pa_cons (pv 0) (pa_cons (pv 4) pa_nil))))
    (pss_one (ps_ret (pe_ifExp (PW.pt (pw_and (pt_cmpR (op_neD hr.units) (pv 2) (pe_lst pa_nil) (nomark _)) (pw_and1 (pt_cmpR (op_notInD (hu65 hr)) (pe_lst pa_nil) (pv 3) (by rfl)))))
      (pe_lst (pa_cons (pe_tup (pa_cons (pe_ix ix_list (pe_ix ix_list (pv 3) pe_int (fun _ _ => rfl)) pe_int (fun _ _ => rfl)) (pa_cons (pe_ix ix_list (pe_ix ix_list (pv 3) pe_int (fun _ _ => rfl)) pe_int (fun _ _ => rfl)) pa_nil))) pa_nil)) (pe_lst pa_nil)))))), ?_⟩
  have o1 := o.z
  have o2 := o.l
  have o3 := o.u
  obtain ⟨t, rfl, ht⟩ := nd_inv hv
  refine ⟨_, rfl, _, rfl, d, _, rfl, DGet.t (k := nk x) hd ht, _, rfl, ?_⟩
  refine ite2 (fun c0 => ?_) (fun c0 => ?_)
  · obtain ⟨u, hu⟩ := Option.isSome_iff_exists.mp c0
    have hg := hkv.get hu
    refine ⟨_, rfl, _, rfl, d, u, rfl, (by rw [← hu]; exact DGet.t (k := nk x) hd ht), (by show 1 ≤ sizeLine; decide), fun p hp => ?_⟩
    have k1 := same_new hp (o := .lst [u])
    refine q p [u] _ k1 hp upd_same ?_
    rw [fo_yes (.here hg.1)]
    exact .cons (hg.2.sm k1) .nil
  have ng : ¬ g x := fun z => c0 ((hkv.some x).mpr z)
  refine ⟨_, rfl, .ref t, x, rfl, hv, o2, by omega, fun r ys H1 k1 _ hr1 hys => ?_⟩
  refine ⟨_, rfl, r, rfl, ⟨_, SqL.of hr1⟩, fun D1 hD1 => ?_⟩
  have hyl : ys.length = (Mk.hv x).length := by rw [hys.len, List.length_map]
  have hvl := hv_len x
  refine lc_src (src_lst hr1) hD1 (by omega) (fun i H' acc => acc.length = i ∧ ∀ j, j < i → ∃ (r2 : Addr) (zs : List V) (z : Nd), acc[j]? = some (.ref r2) ∧ r2 ≠ D1 ∧ H' r2 = some (.lst zs) ∧ (Mk.hv x)[j]? = some z ∧ ImAll H' zs (fo tale g z))
    (fun H' => ⟨rfl, fun j hj => absurd hj (Nat.not_lt_zero j)⟩) (fun i H' acc h => Nat.le_of_eq h.1) (fun i u H2 acc hu k2 hD2 ⟨e1, h1⟩ Q1 Q0 q1 q0 => ?_) (fun H2 acc k2 hD2 ⟨e1, h1⟩ => ?_)
  · obtain ⟨dd, hd1, hd2⟩ := hys.get hu
    rw [List.getElem?_map] at hd1
    cases hz : (Mk.hv x)[i]? with
    | none => rw [hz] at hd1; cases hd1
    | some z =>
      rw [hz] at hd1
      cases hd1
      have h2 : 2 ≤ x.2 - x.1 := Classical.byContradiction fun y => by rw [hv_one y] at hz; simp at hz
      have oz : Ok z := hv_ok o (List.mem_of_getElem? hz)
      match n, hw, c, hr with
      | 0, hw, _, _ => exact absurd hw (by simp; omega)
      | n + 1, hw, _, _ =>
        obtain ⟨w1, w2⟩ := half_le h2 hw (by omega)
        have wz : z.2 - z.1 ≤ 2 ^ n := by
          have m := List.mem_of_getElem? hz
          rw [hv_two h2] at m
          rcases List.mem_cons.mp m with rfl | m
          · rw [lo1, lo2]; exact w1
          · rw [List.mem_singleton.mp m, hi1, hi2]; exact w2
        refine ⟨rfl, _, rfl, _, rfl, n, d, kvs, tale, g, u, z, rfl, rfl, (k1.trans k2) _ _ hd, hkv.sm (k1.trans k2), hd2.sm k2, oz, wz, fun r2 zs H4 k4 hr2 hr2' hzs => ?_⟩
        have n2 : r2 ≠ D1 := fun e => by rw [e, hD2] at hr2; cases hr2
        have kt4 := kt_lst (o := .lst (acc ++ [.ref r2])) (k4 _ _ hD2)
        refine q1 _ H4 k4 ⟨by rw [List.length_append, e1]; rfl, fun j hj => ?_⟩
        by_cases hji : j < i
        · obtain ⟨r3, zs3, z3, a1, a2, a3, a4, a5⟩ := h1 j hji
          exact ⟨r3, zs3, z3, by rw [List.getElem?_append_left (by omega)]; exact a1, a2, by rw [upd_ne a2]; exact k4 _ _ a3, a4, (a5.sm k4).by kt4⟩
        · have e : j = acc.length := by omega
          refine ⟨r2, zs, z, by rw [e, List.getElem?_concat_length], n2, by rw [upd_ne n2]; exact hr2', by rw [e, e1]; exact hz, hzs.by kt4⟩
  have k02 := k1.trans k2
  refine ⟨_, rfl, (by show 0 ≤ sizeLine; decide), fun p hp => ?_⟩
  have k3 := same_new hp (o := .lst [])
  refine ne_nil (ds := (Mk.hv x).map ndP) (k3 _ _ (k2 _ _ hr1)) (ImAll.dp _ _ ((hys.sm k2).sm k3)) upd_same (gv_plain _) (by have := gv_depth (Mk.hv x); omega) ⟨_, rfl, ?_⟩
  rw [hv_none]
  have k03 := k02.trans k3
  have hD3 := k3 _ _ hD2
  have h3 : ∀ j, j < ys.length → ∃ (r2 : Addr) (zs : List V) (z : Nd), acc[j]? = some (.ref r2) ∧ (upd H2 p (.lst [])) r2 = some (.lst zs) ∧ (Mk.hv x)[j]? = some z ∧ ImAll (upd H2 p (.lst [])) zs (fo tale g z) := fun j hj => by
    obtain ⟨r3, zs3, z3, a1, a2, a3, a4, a5⟩ := h1 j hj
    exact ⟨r3, zs3, z3, a1, k3 _ _ a3, a4, a5.sm k3⟩
  generalize upd H2 p (.lst []) = H3 at k3 k03 hD3 h3
  -- the empty answer
  have empty : ∀ H4, Same H3 H4 → ¬ Had g x → tLst tNil [some (.ref d), some (.ref t), some (.ref r), some (.ref D1), none] H4 Q := fun H4 k4 nh => by
    refine ⟨(by show 0 ≤ sizeLine; decide), fun p5 hp5 => ?_⟩
    have k5 := same_new hp5 (o := .lst [])
    refine q p5 [] _ (k03.trans (k4.trans k5)) (Same.free (k03.trans k4) hp5) upd_same ?_
    rw [fo_no nh]
    exact .nil
  refine ite2 (fun c2 => ?_) (fun c2 => ?_)
  · have h2 : 2 ≤ x.2 - x.1 := of_decide_eq_true c2
    rw [hv_two h2] at hyl h3
    have el : ys.length = 2 := hyl
    obtain ⟨r1, zs1, z1, a1, a2, a3, a4⟩ := h3 0 (by omega)
    obtain ⟨r2, zs2, z2, b1, b2, b3, b4⟩ := h3 1 (by omega)
    cases a3
    cases b3
    have eacc : acc = [.ref r1, .ref r2] := by
      match acc, e1, a1, b1 with
      | [u, u'], _, a1, b1 =>
        simp at a1 b1
        rw [a1, b1]
      | [], e1, _, _ => simp at e1; omega
      | [_], e1, _, _ => simp at e1; omega
      | _ :: _ :: _ :: _, e1, _, _ => simp at e1; omega
    subst eacc
    have ol := o.lo h2
    have oh := o.hi h2
    refine ⟨(by show 0 ≤ sizeLine; decide), fun p4 hp4 => ?_⟩
    have k4 := same_new hp4 (o := .lst [])
    refine ⟨_, rfl, .list [], [.list (fo tale g (lo x)), .list (fo tale g (hi x))], .lst (SqL.of upd_same) .nil, .lst (SqL.of (k4 _ _ hD3)) (.cons (.lst (SqL.of (k4 _ _ a2)) (ImAll.dp _ _ (a4.sm k4))) (.cons (.lst (SqL.of (k4 _ _ b2)) (ImAll.dp _ _ (b4.sm k4))) .nil)),
      shaped_of (by simp [plainD, plainDs]) (by simp [PyData.depth, PyData.depthAll]), shaped_of (by simp only [plainD, plainDs, fo_plain tale g ol, fo_plain tale g oh, Bool.and_self]) (by have f1 := fo_depth tale g ol; have f2 := fo_depth tale g oh; simp only [PyData.depth, PyData.depthAll]; omega), _, rfl, ?_⟩
    have key : (!([PyData.list (fo tale g (lo x)), .list (fo tale g (hi x))].any fun z => PyData.eqv z (.list []))) = true ↔ Had g (lo x) ∧ Had g (hi x) := by
      have f1 := fo_nil tale g (lo x)
      have f2 := fo_nil tale g (hi x)
      simp only [List.any_cons, List.any_nil, Bool.or_false, Bool.not_eq_true', Bool.or_eq_false_iff]
      rw [Bool.eq_false_iff, Bool.eq_false_iff, Ne, Ne, f1, f2, Classical.not_not, Classical.not_not]
    refine ite2 (fun c3 => ?_) (fun c3 => ?_)
    · obtain ⟨m1, m2⟩ := key.mp c3
      rw [fo_yes m1] at a4
      rw [fo_yes m2] at b4
      cases a4 with
      | @cons u1 _ _ _ a4 a5 =>
        cases a5
        cases b4 with
        | @cons u2 _ _ _ b4 b5 =>
          cases b5
          refine ⟨_, rfl, _, _, _, _, rfl, rfl, SqL.of (k4 _ _ hD3), rfl, _, _, _, _, rfl, rfl, SqL.of (k4 _ _ a2), rfl, _, rfl, _, _, _, _, rfl, rfl, SqL.of (k4 _ _ hD3), rfl, _, _, _, _, rfl, rfl, SqL.of (k4 _ _ b2), rfl, (by show 2 ≤ sizeLine; decide), fun T hT => ⟨(by show 1 ≤ sizeLine; decide), fun p5 hp5 => ?_⟩⟩
          have k5 := same_new hT (o := .tup [u1, u2])
          have k6 := same_new hp5 (o := .lst [.ref T])
          refine q p5 [.ref T] _ (k03.trans (k4.trans (k5.trans k6))) (Same.free (k03.trans (k4.trans k5)) hp5) upd_same ?_
          rw [fo_yes (.parts h2 m1 m2), val_two h2]
          exact .cons (.tup (k6 _ _ upd_same) (.cons (a4.sm (k4.trans (k5.trans k6))) (.cons (b4.sm (k4.trans (k5.trans k6))) .nil))) .nil
    · refine empty _ k4 fun z => ?_
      rcases had_iff.mp z with z | z
      · exact ng z
      · exact c3 (key.mpr z.2)
  · refine empty _ (Same.refl H3) fun z => ?_
    rcases had_iff.mp z with z | z
    · exact ng z
    · exact c2 (decide_eq_true z.1)
theorem ok_foldA (h : ∀ n, C8.Cal P w K mg base (2 + n) "_law_folded" (spFold n) []) : C8.Cal P w K mg base 8 "_law_folded" spFoldA [] := by
  obtain ⟨f, fd, ps, ds, F, r⟩ := (h 6).ex
  refine ⟨f, fd, ps, ds, F.imp fun vs H Q E z => ?_, r⟩
  obtain ⟨d, kvs, tale, g, v, x, h1, h2, h3, h4, h5, h6⟩ := z
  exact ⟨5, d, kvs, tale, g, v, x, rfl, h1, h2, h3, h4, h5, by have := h5.z; have := h5.u; show x.2 - x.1 ≤ 32; omega, h6⟩
end
end Mk

set_option Elab.async false
set_option maxRecDepth 100000
set_option maxHeartbeats 4000000
set_option linter.all false
namespace Mk
open PySem PySem.Spec PyProof.Rows L2
/-! ### what the heads know -/
def Kg (es ss : List Int) (n : Int) (z : Nd) : Prop := Asked es ss n z ∨ (∃ e, e ∈ es ∧ z = (e, e + 1)) ∨ ∃ s, s ∈ ss ∧ z = (0, s)
theorem mem_br {es ss : List Int} {z : Nd} : z ∈ br es ss ↔ (∃ e, e ∈ es ∧ z = (e, e + 1)) ∨ ∃ s, s ∈ ss ∧ z = (0, s) := by
  unfold br
  rw [List.mem_append, List.mem_map, List.mem_map]
  constructor
  · rintro (⟨e, h, rfl⟩ | ⟨e, h, rfl⟩)
    · exact .inl ⟨e, h, rfl⟩
    · exact .inr ⟨e, h, rfl⟩
  · rintro (⟨e, h, rfl⟩ | ⟨e, h, rfl⟩)
    · exact .inl ⟨e, h, rfl⟩
    · exact .inr ⟨e, h, rfl⟩
theorem kg_leaf {es ss : List Int} {n : Int} {z : Nd} (l : Leaf (Cut es ss) z (0, n)) : Kg es ss n z := by
  by_cases h : z ∈ br es ss
  · exact .inr (mem_br.mp h)
  · exact .inl ⟨l, h⟩
theorem kg_all {es ss : List Int} {n : Int} (n1 : 1 ≤ n) : Had (Kg es ss n) (0, n) := had_leaves (0, n) (by show 0 < n; omega) fun y l => kg_leaf l
/-- without the head itself: had as far as it is no leaf -/
theorem kg_rest {es ss : List Int} {n s : Int} (n1 : 1 ≤ n) (n2 : n ≤ 18) (hs : s ∈ ss) (s1 : 1 ≤ s) (s2 : s ≤ n) (he : ∀ e, e ∈ es → 0 ≤ e) :
    Had (fun z => Kg es ss n z ∧ z ≠ (0, s)) (0, s) ↔ ¬ Leaf (Cut es ss) (0, s) (0, n) := by
  have on : Ok (0, n) := (Al.head n1 n2).toOk
  constructor
  · intro h l
    rcases had_iff.mp h with h | ⟨hw, _, h2⟩
    · exact h.2 rfl
    · obtain ⟨y, ⟨hy, hne⟩, y1, y2⟩ := h2.some
      rw [hi1] at y1
      rw [hi2] at y2
      have g := md_gt (0, s)
      simp only at g y2
      rcases hy with hy | ⟨e, h1, rfl⟩ | ⟨s', _, rfl⟩
      · have o := (hy.1.und.ok on).l
        rcases l.apart hy.1 with e | e | e
        · exact hne e.symm
        · simp only at e; omega
        · simp only at e; omega
      · refine l.stop ⟨.inl ⟨e, h1, he e h1, ?_⟩, hw⟩
        simp only at y2 ⊢
        omega
      · simp only at y1; omega
  · intro nl
    have key : ∀ y, Leaf (Cut es ss) y (0, n) → Kg es ss n y ∧ y ≠ (0, s) := fun y l => ⟨kg_leaf l, fun e => nl (e ▸ l)⟩
    by_cases h : s = n
    · subst h
      exact had_leaves (0, s) (by show 0 < s; omega) key
    · exact had_cut hs (0, n) (by show 0 < n; omega) (by show n - 0 ≤ 18; omega) (by show 0 < s; omega) (by show s < n; omega) fun y l _ => key y l
theorem mem_take_succ {α : Type} {l : List α} {i : Nat} {x e : α} (h : l[i]? = some x) : e ∈ l.take (i + 1) ↔ e ∈ l.take i ∨ e = x := by
  rw [List.take_succ, h, List.mem_append]
  simp
/-! ### the marks -/
theorem eqv_fo {tale : List Int} {g : Nd → Prop} {x : Nd} (o : Ok x) : PyData.eqv (.list (fo tale g x)) (.list [valD tale x]) = true ↔ Had g x := by
  by_cases h : Had g x
  · rw [fo_yes h]
    have p : plainD (.list [valD tale x]) = true := by simp only [plainD, plainDs, val_plain tale x o.l, Bool.and_self]
    simp only [h, iff_true]
    exact (eqv_plain _ _ p p).mpr rfl
  · rw [fo_no h]; simp [PyData.eqv, PyData.eqvAll, h]
theorem ne_lists {K : PySem.W.Frag} {H : Hp} {r p : Addr} {xs ys : List V} {ds es : List PyData} {Q : VK} (hr : H r = some (.lst xs)) (hA : ImAll H xs ds) (hp : H p = some (.lst ys)) (hB : ImAll H ys es) (h1 : plainDs ds = true) (h2 : PyData.depthAll ds ≤ 60) (h3 : plainDs es = true) (h4 : PyData.depthAll es ≤ 60)
    (q : Q (.bl (!PyData.eqv (.list ds) (.list es))) H) : rNeD K (.ref r) (.ref p) H Q :=
  ⟨.list ds, .list es, .lst (SqL.of hr) (ImAll.dp _ _ hA), .lst (SqL.of hp) (ImAll.dp _ _ hB), shaped_of (by simp only [plainD]; exact h1) (by simp only [PyData.depth]; omega), shaped_of (by simp only [plainD]; exact h3) (by simp only [PyData.depth]; omega), q⟩
theorem eq_lists {K : PySem.W.Frag} {H : Hp} {r p : Addr} {xs ys : List V} {ds es : List PyData} {Q : VK} (hr : H r = some (.lst xs)) (hA : ImAll H xs ds) (hp : H p = some (.lst ys)) (hB : ImAll H ys es) (h1 : plainDs ds = true) (h2 : PyData.depthAll ds ≤ 60) (h3 : plainDs es = true) (h4 : PyData.depthAll es ≤ 60)
    (q : Q (.bl (PyData.eqv (.list ds) (.list es))) H) : rEqD K (.ref r) (.ref p) H Q :=
  ⟨.list ds, .list es, .lst (SqL.of hr) (ImAll.dp _ _ hA), .lst (SqL.of hp) (ImAll.dp _ _ hB), shaped_of (by simp only [plainD]; exact h1) (by simp only [PyData.depth]; omega), shaped_of (by simp only [plainD]; exact h3) (by simp only [PyData.depth]; omega), q⟩
theorem one_plain {tale : List Int} {x : Nd} (o : Ok x) : plainDs [valD tale x] = true := by simp only [plainDs, val_plain tale x o.l, Bool.and_self]
theorem one_depth {tale : List Int} {x : Nd} (o : Ok x) : PyData.depthAll [valD tale x] ≤ 60 := by have := val_dep (tale := tale) o; simp only [PyData.depthAll]; omega
theorem fo_depth' (tale : List Int) (g : Nd → Prop) {x : Nd} (o : Ok x) : PyData.depthAll (fo tale g x) ≤ 60 := Nat.le_trans (fo_depth tale g o) (by decide)
/-- [(y, its mark) for y in NODEs] -/
theorem lc_prs {J : It} {te : TE} {j : Nat} {vs : List Nat} {σ : L2.St} {H1 : Hp} {D : Addr} {Qd : Hp → Prop} {xs : List V} {g : List Nd} {tale : List Int} (S : Src H1 J xs) (hD : H1 D = none) (hA : ImAll H1 xs (g.map ndP)) (hz : xs.length ≤ 1000)
    (hw : ∀ x, wipe ((wipe σ vs).set j (some x)) vs = wipe σ vs)
    (ht : ∀ z x H, z ∈ g → Im H x (ndP z) → Same H1 H → ∀ Q : V → Hp → Prop, (∀ v H', Same H H' → Im H' v (prP tale z) → Q v H') → te ((wipe σ vs).set j (some x)) H Q)
    (hd : ∀ H acc, Same H1 H → H D = some (.lst acc) → ImAll H acc (g.map (prP tale)) → Qd H) :
    ∃ W : Nat → Nat → Hp → Prop, (∃ m, W 0 m (upd H1 D (.lst []))) ∧ ∀ i m H, W i m H →
      (J.stop i H ∧ Qd H) ∨ (J.go i H ∧ ∃ Nx : Hp → Prop, (∀ H', Nx H' → ∃ m', m' < m ∧ W (i + 1) m' H') ∧ ∀ x H', J.yld i H x H' → gName j x (wipe σ vs) H' fun σ2 H2 => wipe σ2 vs = wipe σ vs ∧ tYes σ2 H2 fun b H3 =>
        if b = true then te σ2 H3 fun y H4 => ∃ acc, H4 D = some (.lst acc) ∧ acc.length < sizeLine ∧ Nx (upd H4 D (.lst (acc ++ [y]))) else Nx H3) := by
  have hlen : xs.length = g.length := by rw [hA.len, List.length_map]
  refine lc_im S hD hz (fun i => (g.take i).map (prP tale)) rfl (fun i => by rw [List.length_map, List.length_take]; omega) (fun i x H hx e Q1 Q0 q1 q0 => ?_) (fun H acc e h1 h2 => hd H acc e h1 ?_)
  · obtain ⟨d, h1, h2⟩ := hA.get hx
    rw [List.getElem?_map] at h1
    cases hg : g[i]? with
    | none => rw [hg] at h1; cases h1
    | some z =>
      rw [hg] at h1
      cases h1
      refine ⟨hw x, ht z x H (List.mem_of_getElem? hg) (h2.sm e) e _ fun v H' e' hv => q1 v H' _ e' hv ?_⟩
      rw [List.take_succ, hg, List.map_append]; rfl
  · rw [hlen, List.take_length] at h2
    exact h2
/-- the keys of a dict of marks -/
theorem KvOk.nodes {tale : List Int} {H : Hp} {g : Nd → Prop} {kvs : List (List Key × V)} (h : KvOk tale H g kvs) : ∃ ks : List Nd, kvs.map (·.1) = ks.map nk ∧ ∀ y, y ∈ ks ↔ g y := by
  have conv : ∀ L : List (List Key × V), (∀ p, p ∈ L → ∃ y, p.1 = nk y) → ∃ ks : List Nd, L.map (·.1) = ks.map nk := by
    intro L
    induction L with
    | nil => exact fun _ => ⟨[], rfl⟩
    | cons p L ih =>
      intro hL
      obtain ⟨ks, e⟩ := ih fun q hq => hL q (List.mem_cons_of_mem _ hq)
      obtain ⟨y, ey⟩ := hL p List.mem_cons_self
      exact ⟨y :: ks, by rw [List.map_cons, List.map_cons, e, ey]⟩
  obtain ⟨ks, e⟩ := conv kvs fun p hp => let ⟨y, a, _⟩ := h.keys p hp; ⟨y, a⟩
  refine ⟨ks, e, fun y => ⟨fun hy => ?_, fun hy => ?_⟩⟩
  · have m : nk y ∈ kvs.map (·.1) := by rw [e]; exact List.mem_map.mpr ⟨y, hy, rfl⟩
    obtain ⟨p, hp, ep⟩ := List.mem_map.mp m
    obtain ⟨z, a, b, _⟩ := h.keys p hp
    rw [nk_inj (ep.symm.trans a)]; exact b
  · obtain ⟨v, hv⟩ := h.all y hy
    have m : nk y ∈ kvs.map (·.1) := List.mem_map.mpr ⟨_, valV_mem hv, rfl⟩
    rw [e] at m
    obtain ⟨z, hz, ez⟩ := List.mem_map.mp m
    rw [← nk_inj ez]; exact hz
/-- [(k, d[k]) for k in d if ..], the dict locked -/
theorem lc_keys {te : TE} {tt : TT} {j : Nat} {vs : List Nat} {σ : L2.St} {H1 : Hp} {D d : Addr} {o : Obj} {Qd : Hp → Prop} {tale : List Int} {g : Nd → Prop} {kvs : List (List Key × V)} {ks : List Nd} (hd1 : H1 d = some (.frz o (.dT kvs))) (hD : H1 D = none)
    (ek : kvs.map (·.1) = ks.map nk) (hz : kvs.length ≤ 1000) (p : Nd → Bool) (hw : ∀ x, wipe ((wipe σ vs).set j (some x)) vs = wipe σ vs)
    (ht : ∀ (q : Addr) z H, z ∈ ks → H q = some (.tup ((nk z).map kV)) → Same H1 H → ∀ Q : Bool → Hp → Prop, (∀ H', Same H H' → Q (p z) H') → tt ((wipe σ vs).set j (some (.ref q))) H Q)
    (he : ∀ (q : Addr) z H, z ∈ ks → H q = some (.tup ((nk z).map kV)) → Same H1 H → ∀ Q : V → Hp → Prop, (∀ v H', Same H H' → Im H' v (prP tale z) → Q v H') → te ((wipe σ vs).set j (some (.ref q))) H Q)
    (hd : ∀ H acc, Same H1 H → H D = some (.lst acc) → ImAll H acc ((ks.filter p).map (prP tale)) → Qd H) :
    ∃ W : Nat → Nat → Hp → Prop, (∃ m, W 0 m (upd H1 D (.lst []))) ∧ ∀ i m H, W i m H →
      ((Itkt d o kvs).stop i H ∧ Qd H) ∨ ((Itkt d o kvs).go i H ∧ ∃ Nx : Hp → Prop, (∀ H', Nx H' → ∃ m', m' < m ∧ W (i + 1) m' H') ∧ ∀ x H', (Itkt d o kvs).yld i H x H' → gName j x (wipe σ vs) H' fun σ2 H2 => wipe σ2 vs = wipe σ vs ∧ tt σ2 H2 fun b H3 =>
        if b = true then te σ2 H3 fun y H4 => ∃ acc, H4 D = some (.lst acc) ∧ acc.length < sizeLine ∧ Nx (upd H4 D (.lst (acc ++ [y]))) else Nx H3) := by
  have hlen : kvs.length = ks.length := by have := congrArg List.length ek; rwa [List.length_map, List.length_map] at this
  refine ⟨fun i m H => m = kvs.length - i ∧ i ≤ kvs.length ∧ Same H1 H ∧ ∃ acc, H D = some (.lst acc) ∧ ImAll H acc (((ks.take i).filter p).map (prP tale)), ⟨kvs.length, by simp, Nat.zero_le _, same_new hD, [], upd_same, .nil⟩, ?_⟩
  rintro i m H ⟨rfl, hi, e, acc, hA, iA⟩
  by_cases hlt : i < kvs.length
  · refine .inr ⟨⟨e _ _ hd1, hlt⟩, fun H' => i + 1 ≤ kvs.length ∧ Same H1 H' ∧ ∃ acc, H' D = some (.lst acc) ∧ ImAll H' acc (((ks.take (i + 1)).filter p).map (prP tale)), fun H' q => ⟨kvs.length - (i + 1), by omega, rfl, q⟩, ?_⟩
    rintro x H' ⟨rfl, k, v, q, h1, rfl, h2⟩
    have hk : ks[i]? = some ks[i] := List.getElem?_eq_getElem (by omega)
    have e1 : k = nk ks[i] := by
      have a : (kvs.map (·.1))[i]? = some k := by rw [List.getElem?_map, h1]; rfl
      rw [ek, List.getElem?_map, hk] at a
      exact (Option.some.inj a).symm
    subst e1
    have hm : ks[i] ∈ ks := List.mem_of_getElem? hk
    refine ⟨hw _, ht q ks[i] H' hm h2 e _ fun H3 e3 => ?_⟩
    have hal : acc.length ≤ i := by
      rw [iA.len, List.length_map]
      refine Nat.le_trans (List.length_filter_le _ _) ?_
      rw [List.length_take]; omega
    cases hp : p ks[i] with
    | true =>
      refine iteT (he q ks[i] H3 hm (e3 _ _ h2) (e.trans e3) _ fun y H4 e4 hy => ⟨acc, (e3.trans e4) _ _ hA, small1000 (by omega), hlt, same_mut (e.trans (e3.trans e4)) hD, acc ++ [y], upd_same, ?_⟩)
      rw [take_fil_yes hk hp, List.map_append]
      have kt := kt_lst (o := .lst (acc ++ [y])) ((e3.trans e4) _ _ hA)
      exact (((iA.sm (e3.trans e4)).by kt)).snoc (hy.by kt)
    | false =>
      refine iteF ⟨hlt, e.trans e3, acc, e3 _ _ hA, ?_⟩
      rw [take_fil_no hk hp]
      exact iA.sm e3
  · have e' : i = kvs.length := by omega
    subst e'
    refine .inl ⟨⟨e _ _ hd1, Nat.le_refl _⟩, hd H acc e hA ?_⟩
    rw [hlen, List.take_length] at iA
    exact iA
end Mk

set_option Elab.async false
set_option maxRecDepth 100000
set_option maxHeartbeats 4000000
set_option linter.all false
namespace Mk
open PySem PySem.Spec PyProof.Rows L2
section
variable {P : Program} {w : World} {K : PySem.W.Frag} {mg : Str → Option Value} {base : Heap}
/-! ### _law_heads_right -/
abbrev sHR : Stmt := top 44
abbrev nHR : List Str := ["_law_tale", "_law_n_so", "_law_want_so", "_law_bag_here", "_law_own", "_law_known", "_law_rest", "_law_is_one", "_law_given_so", "_law_its"]
theorem scHR : FnScope nHR ["_law_tale", "_law_n_so", "_law_want_so", "_law_bag_here"] (C8.fnScope sHR) := C8.fnScope_by (by decide +kernel)
/-- what both checks are called with -/
structure LawIn (H : Hp) (a : Addr) (tale : List Int) (n : Int) (wv gv : V) (es ss : List Int) (g : List Nd) : Prop where
  n1 : 1 ≤ n
  n2 : n ≤ 18
  ta : H a = some (.lst (tale.map V.int))
  tl : (tale.length : Int) = n
  wi : Im H wv (wiP es ss)
  gi : Im H gv (gvP g)
  ein : ∀ e, e ∈ es → 0 ≤ e ∧ e < n
  sin : ∀ s, s ∈ ss → 1 ≤ s ∧ s ≤ n
  el : es.length ≤ 60
  sl : ss.length ≤ 60
  gin : InLog n g
  gl : g.length ≤ 53
theorem LawIn.sm {H H' : Hp} {a : Addr} {tale : List Int} {n : Int} {wv gv : V} {es ss : List Int} {g : List Nd} (h : LawIn H a tale n wv gv es ss g) (k : Same H H') : LawIn H' a tale n wv gv es ss g :=
  ⟨h.n1, h.n2, k _ _ h.ta, h.tl, h.wi.sm k, h.gi.sm k, h.ein, h.sin, h.el, h.sl, h.gin, h.gl⟩
def spHR : Sp := fun vs H Q _ => ∃ (a : Addr) (tale : List Int) (n : Int) (wv gv : V) (es ss : List Int) (g : List Nd), vs = [.ref a, .int n, wv, gv] ∧ LawIn H a tale n wv gv es ss g ∧ (∀ y, Asked es ss n y → Had (Gn g) y) ∧ ∀ H', Same H H' → Q (.bl true) H'
theorem ok_HR (D : DD K mg "_law_heads_right" sHR) (B : Bt mg) (cA : C8.Cal P w K mg base 5 "asked_for" spAskd []) (cV : C8.Cal P w K mg base 8 "_law_value" spValA []) (cF : C8.Cal P w K mg base 8 "_law_folded" spFoldA [])
    (cS : C8.Cal P w K mg base 2 "_law_split" spDiv []) : C8.Cal P w K mg base 9 "_law_heads_right" spHR [] := by
  refine cal_of D (fun _ _ _ _ _ _ us hl => match us, hl with | [_, _, _, _], _ => rfl) scHR (fun vs H Q E h => ?_) (fun f cdv A outer s H vs Q E hr h => ?_)
  · obtain ⟨a, tale, n, wv, gv, es, ss, g, rfl, _⟩ := h
    rfl
  obtain ⟨ta, tale, n, wv, gv, es, ss, g, rfl, L, hall, q⟩ := h
  refine ⟨_, pss_cons (ps_set (i := 5) scHR.nd rfl (Or.inr rfl) (pe_callTy (cr_dictN rfl (hu65 hr)) (by rfl) B.dict (by decide +kernel) (pa_cons
      (pe_lc (own := [("_law_own", 4)]) (g := gName 4) (tt := tYes) (te := tTup (tCons (tVar 4) (tCons (tCall spValA [] C8.E0 (tCons (tVar 0) (tCons (tVar 4) tNil))) tNil))) rfl scHR.nd (pi_list (C8.pe_c cA hr (by decide) rfl (pa_cons (pv 1) (pa_cons (pv 2) pa_nil))))
        (blkOk_by (N := nHR) (sc := C8.fnScope sHR) (by decide +kernel)) (fun _ _ _ _ _ => pg_name (i := 4) scHR.nd rfl (Or.inl rfl)) (fun _ _ _ _ _ => pts_nil)
        (fun _ _ _ _ _ => pe_tup (pa_cons (pv 4) (pa_cons (C8.pe_c cV hr (by decide) rfl (pa_cons (pv 0) (pa_cons (pv 4) pa_nil))) pa_nil)))) pa_nil)))
    (pss_cons (ps_for PassesOwn.never rfl (pi_tup (pe_ix ix_tup (pv 2) pe_int (fun _ _ => rfl))) (pg_name (i := 4) scHR.nd rfl (Or.inr rfl))
      (pss_one (ps_dput (hu_of hr) (pv 5) (pe_tup (pa_cons (pv 4) (pa_cons (pe_op op_add (pv 4) pe_int) pa_nil))) (pe_ix ix_list (pv 0) (pv 4) (fun _ _ => rfl)) (by rfl))))
    (pss_cons (ps_for PassesOwn.never rfl (pi_tup (pe_ix ix_tup (pv 2) pe_int (fun _ _ => rfl))) (pg_name (i := 4) scHR.nd rfl (Or.inr rfl))
      (pss_one (ps_if (pt_cmp (pc_dnotin (hu_of hr) (pe_tup (pa_cons pe_int (pa_cons (pv 4) pa_nil))) (pv 5)) (by rfl))
        (pss_one (ps_dput (hu_of hr) (pv 5) (pe_tup (pa_cons pe_int (pa_cons (pv 4) pa_nil))) (C8.pe_c cV hr (by decide) rfl (pa_cons (pv 0) (pa_cons (pe_tup (pa_cons pe_int (pa_cons (pv 4) pa_nil))) pa_nil))) (by rfl))) pss_nil)))
    (pss_cons (ps_if (pt_cmpR (op_neD hr.units) (C8.pe_c cF hr (by decide) rfl (pa_cons (pv 5) (pa_cons (pe_tup (pa_cons pe_int (pa_cons (pv 1) pa_nil))) pa_nil))) (pe_lst (pa_cons (C8.pe_c cV hr (by decide) rfl (pa_cons (pv 0) (pa_cons (pe_tup (pa_cons pe_int (pa_cons (pv 1) pa_nil))) pa_nil))) pa_nil)) (nomark _))
      (pss_one (ps_ret pe_bl)) pss_nil)
    (pss_cons (ps_for PassesOwn.never rfl (pi_tup (pe_ix ix_tup (pv 2) pe_int (fun _ _ => rfl))) (pg_name (i := 4) scHR.nd rfl (Or.inr rfl))
      (pss_cons (ps_set (i := 6) scHR.nd rfl (Or.inl rfl) (pe_callTy (cr_dictN rfl (hu65 hr)) (by rfl) B.dict (by decide +kernel) (pa_cons (pe_lock
          (pe_lc (own := [("_law_its", 9)]) (g := gName 9) (tt := tTest (tOp (rNeD K) (tVar 9) (tTup (tCons (tC (.int 0)) (tCons (tVar 4) tNil))))) (te := tTup (tCons (tVar 9) (tCons (tDGet (tVar 5) (tVar 9)) tNil))) rfl scHR.nd (pi_keys (pv 5))
            (blkOk_by (N := nHR) (sc := C8.fnScope sHR) (by decide +kernel)) (fun _ _ _ _ _ => pg_name (i := 9) scHR.nd rfl (Or.inl rfl)) (fun _ _ _ _ _ => pts_one (pt_cmpR (r := rNeD K) (op_neD hr.units) (pv 9) (pe_tup (pa_cons pe_int (pa_cons (pv 4) pa_nil))) (nomark _)))
            (fun _ _ _ _ _ => pe_tup (pa_cons (pv 9) (pa_cons (pe_dget (hu_of hr) (pv 5) (pv 9) (fun _ _ => rfl)) pa_nil))))) pa_nil)))
      (pss_cons (ps_set (i := 7) scHR.nd rfl (Or.inl rfl) (pe_cmpR (op_inD (hu65 hr)) (pe_tup (pa_cons pe_int (pa_cons (pv 4) pa_nil))) (C8.pe_c cS hr (by decide) rfl (pa_cons (pe_lst (pa_cons (pe_tup (pa_cons pe_int (pa_cons (pv 1) pa_nil))) pa_nil)) (pa_cons (pv 2) pa_nil))) (by rfl)))
      (pss_one (ps_if (pt_cmpR (op_neD hr.units) (C8.pe_c cF hr (by decide) rfl (pa_cons (pv 6) (pa_cons (pe_tup (pa_cons pe_int (pa_cons (pv 4) pa_nil))) pa_nil)))
          (pe_ifExp (pt_val (pv 7)) (pe_lst pa_nil) (pe_lst (pa_cons (C8.pe_c cV hr (by decide) rfl (pa_cons (pv 0) (pa_cons (pe_tup (pa_cons pe_int (pa_cons (pv 4) pa_nil))) pa_nil))) pa_nil))) (nomark _))
        (pss_one (ps_ret pe_bl)) pss_nil)))))
    (pss_cons (ps_set (i := 8) scHR.nd rfl (Or.inr rfl) (pe_callTy (cr_dictN rfl (hu65 hr)) (by rfl) B.dict (by decide +kernel) (pa_cons
      (pe_lc (own := [("_law_own", 4)]) (g := gName 4) (tt := tYes) (te := tTup (tCons (tVar 4) (tCons (tCall spValA [] C8.E0 (tCons (tVar 0) (tCons (tVar 4) tNil))) tNil))) rfl scHR.nd (pi_tup (pv 3))
        (blkOk_by (N := nHR) (sc := C8.fnScope sHR) (by decide +kernel)) (fun _ _ _ _ _ => pg_name (i := 4) scHR.nd rfl (Or.inl rfl)) (fun _ _ _ _ _ => pts_nil)
        (fun _ _ _ _ _ => pe_tup (pa_cons (pv 4) (pa_cons (C8.pe_c cV hr (by decide) rfl (pa_cons (pv 0) (pa_cons (pv 4) pa_nil))) pa_nil)))) pa_nil)))
    (pss_one (ps_ret (pe_callB (cr_all rfl) (by rfl) B.all (by decide +kernel) (pa_cons
      (pe_lc (own := [("_law_own", 4)]) (g := gName 4) (tt := tYes) (te := tOp (rEqD K) (tCall spFoldA [] C8.E0 (tCons (tVar 8) (tCons (tVar 4) tNil))) (tLst (tCons (tCall spValA [] C8.E0 (tCons (tVar 0) (tCons (tVar 4) tNil))) tNil))) rfl scHR.nd (pi_list (C8.pe_c cA hr (by decide) rfl (pa_cons (pv 1) (pa_cons (pv 2) pa_nil))))
        (blkOk_by (N := nHR) (sc := C8.fnScope sHR) (by decide +kernel)) (fun _ _ _ _ _ => pg_name (i := 4) scHR.nd rfl (Or.inl rfl)) (fun _ _ _ _ _ => pts_nil)
        (fun _ _ _ _ _ => pe_cmpR (r := rEqD K) (op_eqD hr.units) (C8.pe_c cF hr (by decide) rfl (pa_cons (pv 8) (pa_cons (pv 4) pa_nil))) (pe_lst (pa_cons (C8.pe_c cV hr (by decide) rfl (pa_cons (pv 0) (pa_cons (pv 4) pa_nil))) pa_nil)) (nomark _))) pa_nil))))))))), ?_⟩
  have n1 := L.n1
  have n2 := L.n2
  have hle := L.el
  have hls := L.sl
  have htl := L.tl
  have on : Ok (0, n) := (Al.head n1 n2).toOk
  have okA : ∀ y, Asked es ss n y → Ok y := fun y h => h.1.und.ok on
  have upA : ∀ y, Asked es ss n y → y.2 ≤ n := fun y h => h.1.und.within.2
  have val_e : ∀ (H' : Hp) (e : Int), 0 ≤ e → ∀ hlt : e.toNat < tale.length, Im H' (.int tale[e.toNat]) (valD tale (e, e + 1)) := fun H' e e0 hlt => by
    rw [val_one (by show ¬ 2 ≤ e + 1 - e; omega), List.getD_eq_getElem?_getD]
    show Im H' _ (.int (tale[e.toNat]?.getD 0))
    rw [List.getElem?_eq_getElem hlt]
    exact .int _
  obtain ⟨wa, b, c, rfl, hwa, hb, hc⟩ := wi_inv L.wi
  refine ⟨_, rfl, _, rfl, n, _, es, ss, rfl, n1, n2, L.wi, by omega, by omega, fun p ys gs H1 k1 _ hp hys hgl hgs => ?_⟩
  have L1 := L.sm k1
  refine ⟨p, rfl, ⟨_, SqL.of hp⟩, fun D1 hD1 => ?_⟩
  refine lc_prs (tale := tale) (src_lst hp) hD1 hys (by rw [hys.len, List.length_map]; omega) (fun _ => rfl) (fun z x H2 hz hx k2 Q1 q1 => ?_) (fun H2 acc k2 hD2 iA => ?_)
  · have ha := (hgs z).mp hz
    refine ⟨_, rfl, _, rfl, _, rfl, ta, tale, x, z, rfl, (L1.sm k2).ta, hx, okA z ha, (by have := upA z ha; omega), fun v' H3 k3 hv => ⟨(by show 2 ≤ sizeLine; decide), fun T hT => ?_⟩⟩
    exact q1 _ _ (k3.trans (same_new hT)) (.tup upd_same (.cons ((hx.sm k3).sm (same_new hT)) (.cons (hv.sm (same_new hT)) .nil)))
  refine ⟨D1, acc, gs, tale, rfl, hD2, iA, by omega, fun d kvs hd hkv hkl => ?_⟩
  have k02 := k1.trans k2
  have hd0 : H d = none := Same.free k02 hd
  have k3 := same_new hd (o := .dT kvs)
  have k03 := k02.trans k3
  have hd3 : (upd H2 d (.dT kvs)) d = some (.dT kvs) := upd_same
  have hkv3 := (hkv.sm k3).iff fun y => (show Gn gs y ↔ Asked es ss n y from hgs y)
  show tSeq _ _ _ _ (upd H2 d (.dT kvs))
  generalize upd H2 d (.dT kvs) = H3 at k3 k03 hd3 hkv3
  -- the entries
  refine ⟨_, rfl, _, _, _, _, rfl, rfl, SqT.of (k03 _ _ hwa), rfl, b, rfl, ⟨_, SqT.of (k03 _ _ hb)⟩, ?_⟩
  refine for_by (es.map V.int).length (fun i σ H' => (∃ u, σ = [some (.ref ta), some (.int n), some (.ref wa), some gv, u, some (.ref d), none, none, none, none]) ∧ Same H H' ∧ ∃ kvs, H' d = some (.dT kvs) ∧ KvOk tale H' (fun z => Asked es ss n z ∨ ∃ e, e ∈ es.take i ∧ z = (e, e + 1)) kvs ∧ kvs.length ≤ 18 + i)
    ⟨⟨_, rfl⟩, k03, kvs, hd3, hkv3.iff fun y => ⟨fun z => .inl z, fun z => z.elim id fun ⟨e, he, _⟩ => absurd he (by simp)⟩, by omega⟩ (fun i σ H' ⟨_, k, _⟩ => ⟨(it_tup (k _ _ hb) i).1, (it_tup (k _ _ hb) i).2.1⟩) (fun i σ H4 v H5 hi ⟨⟨u, e⟩, k4, kvs4, hd4, hkv4, hl4⟩ hy => ?_) (fun σ H4 ⟨⟨u, e⟩, k4, kvs4, hd4, hkv4, hl4⟩ => ?_)
  · subst e
    obtain ⟨eH, hx⟩ := (it_tup (K := K) (k4 _ _ hb) i).2.2 v H5 hi hy
    subst eH
    rw [List.length_map] at hi
    have hei : es[i]? = some es[i] := List.getElem?_eq_getElem hi
    rw [List.getElem?_map, hei] at hx
    have hm := List.mem_of_getElem? hei
    generalize es[i] = e0 at hei hx hm
    cases hx
    obtain ⟨z0, z1⟩ := L.ein e0 hm
    have hlt : e0.toNat < tale.length := by omega
    have ez : e0 = ((e0.toNat : Nat) : Int) := by omega
    refine ⟨_, rfl, _, rfl, ta, _, _, .int tale[e0.toNat], rfl, rfl, SqL.of (k4 _ _ L.ta), at_of ez (by rw [List.getElem?_map, List.getElem?_eq_getElem hlt]; rfl), _, rfl, _, rfl, _, rfl, _, _, rfl, rfl, (by show 2 ≤ sizeLine; decide), fun T hT => ?_⟩
    have kT := same_new hT (o := .tup [.int e0, .int (e0 + 1)])
    refine ⟨d, _, rfl, DPut.t (k := nk (e0, e0 + 1)) (kT _ _ hd4) upd_same (small1000 (by omega)), ⟨_, rfl⟩, same_mut (k4.trans kT) hd0, _, upd_same, (((hkv4.sm kT).put (y := (e0, e0 + 1)) (val_e _ e0 z0 hlt) (by omega)).kt (kt_dT (kT _ _ hd4))).iff fun y => ?_, by have := length_putK kvs4 (nk (e0, e0 + 1)) (V.int tale[e0.toNat]); omega⟩
    constructor
    · rintro ((h | ⟨e, h1, h2⟩) | h)
      · exact .inl h
      · exact .inr ⟨e, (mem_take_succ hei).mpr (.inl h1), h2⟩
      · exact .inr ⟨e0, (mem_take_succ hei).mpr (.inr rfl), h⟩
    · rintro (h | ⟨e, h1, h2⟩)
      · exact .inl (.inl h)
      · rcases (mem_take_succ hei).mp h1 with h1 | rfl
        · exact .inl (.inr ⟨e, h1, h2⟩)
        · exact .inr h2
  subst e
  rw [List.length_map, List.take_length] at hkv4
  rw [List.length_map] at hl4
  -- the sizes
  have hc4 := k4 _ _ hc
  refine ⟨_, rfl, _, _, _, _, rfl, rfl, SqT.of (k4 _ _ hwa), rfl, c, rfl, ⟨_, SqT.of hc4⟩, ?_⟩
  refine for_by (ss.map V.int).length (fun i σ H' => (∃ u, σ = [some (.ref ta), some (.int n), some (.ref wa), some gv, u, some (.ref d), none, none, none, none]) ∧ Same H H' ∧ ∃ kvs, H' d = some (.dT kvs) ∧ KvOk tale H' (fun z => Asked es ss n z ∨ (∃ e, e ∈ es ∧ z = (e, e + 1)) ∨ ∃ e, e ∈ ss.take i ∧ z = (0, e)) kvs ∧ kvs.length ≤ 78 + i)
    ⟨⟨_, rfl⟩, k4, kvs4, hd4, hkv4.iff fun y => ⟨fun z => z.elim .inl fun z => .inr (.inl z), fun z => z.elim .inl fun z => z.elim .inr fun ⟨e, he, _⟩ => absurd he (by simp)⟩, by omega⟩ (fun i σ H' ⟨_, k, _⟩ => ⟨(it_tup (k _ _ hc) i).1, (it_tup (k _ _ hc) i).2.1⟩) (fun i σ H5 v H6 hi ⟨⟨u, e⟩, k5, kvs5, hd5, hkv5, hl5⟩ hy => ?_) (fun σ H5 ⟨⟨u, e⟩, k5, kvs5, hd5, hkv5, hl5⟩ => ?_)
  · subst e
    obtain ⟨eH, hx⟩ := (it_tup (K := K) (k5 _ _ hc) i).2.2 v H6 hi hy
    subst eH
    rw [List.length_map] at hi
    have hei : ss[i]? = some ss[i] := List.getElem?_eq_getElem hi
    rw [List.getElem?_map, hei] at hx
    have hm := List.mem_of_getElem? hei
    generalize ss[i] = s0 at hei hx hm
    cases hx
    obtain ⟨z0, z1⟩ := L.sin s0 hm
    refine ⟨_, rfl, (by show 2 ≤ sizeLine; decide), fun T hT => ?_⟩
    have kT := same_new hT (o := .tup [.int 0, .int s0])
    have e6 : (upd H6 T (.tup [.int 0, .int s0])) T = some (.tup [.int 0, .int s0]) := upd_same
    have k6 := k5.trans kT
    have hd6 := kT _ _ hd5
    have hkv6 := hkv5.sm kT
    refine ⟨_, rfl, d, _, rfl, DGet.t (k := nk (0, s0)) hd6 e6, _, rfl, ?_⟩
    generalize upd H6 T (.tup [.int 0, .int s0]) = H7 at kT e6 k6 hd6 hkv6
    refine ite2 (fun cc => ?_) (fun cc => ?_)
    · have os : Ok (0, s0) := (Al.head z0 (by omega)).toOk
      refine ⟨_, rfl, _, rfl, (by show 2 ≤ sizeLine; decide), fun T2 hT2 => ?_⟩
      have kT2 := same_new hT2 (o := .tup [.int 0, .int s0])
      refine ⟨ta, tale, _, (0, s0), rfl, kT2 _ _ (k6 _ _ L.ta), nd_mk upd_same, os, (by show s0 ≤ _; omega), fun v' H8 k8 hv' => ?_⟩
      refine ⟨_, rfl, _, rfl, (by show 2 ≤ sizeLine; decide), fun T3 hT3 => ?_⟩
      have kT3 := same_new hT3 (o := .tup [.int 0, .int s0])
      have k78 := kT2.trans (k8.trans kT3)
      have hd8 := k78 _ _ hd6
      refine ⟨d, _, rfl, DPut.t (k := nk (0, s0)) hd8 upd_same (small1000 (by omega)), ⟨_, rfl⟩, same_mut (k6.trans k78) hd0, _, upd_same, (((hkv6.sm k78).put (y := (0, s0)) (hv'.sm kT3) (by omega)).kt (kt_dT hd8)).iff fun y => ?_, by have := length_putK kvs5 (nk (0, s0)) v'; omega⟩
      constructor
      · rintro ((h | h | ⟨e, h1, h2⟩) | h)
        · exact .inl h
        · exact .inr (.inl h)
        · exact .inr (.inr ⟨e, (mem_take_succ hei).mpr (.inl h1), h2⟩)
        · exact .inr (.inr ⟨s0, (mem_take_succ hei).mpr (.inr rfl), h⟩)
      · rintro (h | h | ⟨e, h1, h2⟩)
        · exact .inl (.inl h)
        · exact .inl (.inr (.inl h))
        · rcases (mem_take_succ hei).mp h1 with h1 | rfl
          · exact .inl (.inr (.inr ⟨e, h1, h2⟩))
          · exact .inr h2
    · have inn0 := (hkv6.some (0, s0)).mp (by
        cases h : (valV kvs5 (nk (0, s0))).isSome with
        | true => rfl
        | false => exact absurd (by rw [h]; rfl) cc)
      refine ⟨⟨_, rfl⟩, k6, kvs5, hd6, hkv6.iff fun y => ?_, by omega⟩
      constructor
      · rintro (h | h | ⟨e, h1, h2⟩)
        · exact .inl h
        · exact .inr (.inl h)
        · exact .inr (.inr ⟨e, (mem_take_succ hei).mpr (.inl h1), h2⟩)
      · rintro (h | h | ⟨e, h1, h2⟩)
        · exact .inl h
        · exact .inr (.inl h)
        · rcases (mem_take_succ hei).mp h1 with h1 | rfl
          · exact .inr (.inr ⟨e, h1, h2⟩)
          · rw [h2]; exact inn0
  subst e
  rw [List.length_map, List.take_length] at hkv5
  rw [List.length_map] at hl5
  have hkv5 : KvOk tale H5 (Kg es ss n) kvs5 := hkv5
  -- the whole
  refine ⟨_, rfl, _, rfl, (by show 2 ≤ sizeLine; decide), fun T hT => ?_⟩
  have kT := same_new hT (o := .tup [.int 0, .int n])
  refine ⟨d, kvs5, tale, Kg es ss n, _, (0, n), rfl, kT _ _ hd5, hkv5.sm kT, nd_mk upd_same, on, fun r zs H7 k7 _ hr7 hzs => ?_⟩
  refine ⟨_, rfl, _, rfl, (by show 2 ≤ sizeLine; decide), fun T2 hT2 => ?_⟩
  have kT2 := same_new hT2 (o := .tup [.int 0, .int n])
  have k57 := kT.trans (k7.trans kT2)
  refine ⟨ta, tale, _, (0, n), rfl, k57 _ _ (k5 _ _ L.ta), nd_mk upd_same, on, (by show n ≤ _; omega), fun v' H8 k8 hv' => ⟨(by show 1 ≤ sizeLine; decide), fun p8 hp8 => ?_⟩⟩
  have kp8 := same_new hp8 (o := .lst [v'])
  have k78 := kT2.trans (k8.trans kp8)
  refine ne_lists (k78 _ _ hr7) (hzs.sm k78) upd_same (.cons (hv'.sm kp8) .nil) (fo_plain tale _ on) (fo_depth' tale _ on) (one_plain on) (one_depth on) ⟨_, rfl, ?_⟩
  rw [(eqv_fo on).mpr (kg_all n1)]
  refine iteF ?_
  have k9 := k57.trans (k8.trans kp8)
  have k09 := k5.trans k9
  have hd9 := k9 _ _ hd5
  have hkv9 := hkv5.sm k9
  show tSeq _ _ _ _ (upd H8 p8 (.lst [v']))
  generalize upd H8 p8 (.lst [v']) = H9 at k9 k09 hd9 hkv9
  obtain ⟨ks, ek, mk⟩ := hkv9.nodes
  have hkl5 : kvs5.length = ks.length := by have := congrArg List.length ek; rwa [List.length_map, List.length_map] at this
  -- each head without itself
  refine ⟨_, rfl, _, _, _, _, rfl, rfl, SqT.of (k09 _ _ hwa), rfl, c, rfl, ⟨_, SqT.of (k09 _ _ hc)⟩, ?_⟩
  refine for_by (ss.map V.int).length (fun i σ H' => (∃ u u2 u3, σ = [some (.ref ta), some (.int n), some (.ref wa), some gv, u, some (.ref d), u2, u3, none, none]) ∧ Same H9 H')
    ⟨⟨_, _, _, rfl⟩, Same.refl H9⟩ (fun i σ H' ⟨_, k⟩ => ⟨(it_tup (k _ _ (k09 _ _ hc)) i).1, (it_tup (k _ _ (k09 _ _ hc)) i).2.1⟩) (fun i σ H10 v H11 hi ⟨⟨u, u2, u3, e⟩, k10⟩ hy => ?_) (fun σ H10 ⟨⟨u, u2, u3, e⟩, k10⟩ => ?_)
  · subst e
    obtain ⟨eH, hx⟩ := (it_tup (K := K) (k10 _ _ (k09 _ _ hc)) i).2.2 v H11 hi hy
    subst eH
    rw [List.length_map] at hi
    have hei : ss[i]? = some ss[i] := List.getElem?_eq_getElem hi
    rw [List.getElem?_map, hei] at hx
    have hm := List.mem_of_getElem? hei
    generalize ss[i] = s0 at hei hx hm
    cases hx
    obtain ⟨z0, z1⟩ := L.sin s0 hm
    have os : Ok (0, s0) := (Al.head z0 (by omega)).toOk
    have hd11 := k10 _ _ hd9
    refine ⟨d, .dT kvs5, hd11, trivial, fun od => ?_⟩
    have kl : Kt H11 (upd H11 d (.frz od (.dT kvs5))) := kt_dT hd11
    have hkvL := (hkv9.sm k10).kt kl
    refine ⟨_, rfl, d, od, rfl, .inr ⟨kvs5, upd_same, fun D3 hD3 => ?_⟩⟩
    have hdL : (upd H11 d (.frz od (.dT kvs5))) d = some (.frz od (.dT kvs5)) := upd_same
    have nDd : D3 ≠ d := fun e => by rw [e, hdL] at hD3; cases hD3
    have hD30 : H11 D3 = none := by rw [upd_ne nDd] at hD3; exact hD3
    refine lc_keys (tale := tale) (g := Kg es ss n) hdL hD3 ek (by omega) (fun z => !decide (z = (0, s0))) (fun _ => rfl) (fun q1 z H12 hz hq k12 Q1 qq => ?_) (fun q1 z H12 hz hq k12 Q1 qq => ?_) (fun H12 acc k12 hD12 iA12 => ?_)
    · refine ⟨_, rfl, _, rfl, (by show 2 ≤ sizeLine; decide), fun T5 hT5 => ?_⟩
      have kT5 := same_new hT5 (o := .tup [.int 0, .int s0])
      refine ⟨ndP z, ndP (0, s0), Im.dp _ _ (nd_mk (kT5 _ _ hq)), Im.dp _ _ (nd_mk upd_same), nd_shaped _, nd_shaped _, _, rfl, ?_⟩
      rw [nd_eqv]
      exact qq _ kT5
    · have hg := (mk z).mp hz
      obtain ⟨v', hv'⟩ := hkvL.all z hg
      refine ⟨_, rfl, _, rfl, _, rfl, d, v', rfl, (by rw [← hv']; exact .inr ⟨kvs5, nk z, q1, .inr ⟨od, k12 _ _ hdL⟩, rfl, hq, rfl⟩), (by show 2 ≤ sizeLine; decide), fun T5 hT5 => ?_⟩
      have kT5 := same_new hT5 (o := .tup [.ref q1, v'])
      exact qq _ _ kT5 (.tup upd_same (.cons (nd_mk (kT5 _ _ hq)) (.cons (((hkvL.get hv').2.sm k12).sm kT5) .nil)))
    refine ⟨k12 _ _ hdL, ?_⟩
    have ktu : Kt H12 (upd H12 d (.dT kvs5)) := fun a xs ha => by rw [upd_ne (ne_of ha (k12 _ _ hdL) (by intro z; cases z))]; exact ha
    have k11u : Same H11 (upd H12 d (.dT kvs5)) := fun a o ha => by
      by_cases e : a = d
      · subst e; rw [hd11] at ha; cases ha; exact upd_same
      · rw [upd_ne e]; exact k12 _ _ (by rw [upd_ne e]; exact ha)
    have hDu : (upd H12 d (.dT kvs5)) D3 = some (.lst acc) := by rw [upd_ne nDd]; exact hD12
    have iAu := iA12.by ktu
    have fl := List.length_filter_le (fun z => !decide (z = (0, s0))) ks
    refine ⟨D3, acc, _, tale, rfl, hDu, iAu, Nat.le_trans (List.length_filter_le _ _) (by omega), fun d2 kvs2 hd2 hkv2 hkl2 => ?_⟩
    have kd2 := same_new hd2 (o := .dT kvs2)
    have k1113 := k11u.trans kd2
    have hd13 : (upd (upd H12 d (.dT kvs5)) d2 (.dT kvs2)) d2 = some (.dT kvs2) := upd_same
    have hkv13 := (hkv2.sm kd2).iff (g' := fun z => Kg es ss n z ∧ z ≠ (0, s0)) fun y => by
      show y ∈ ks.filter _ ↔ _
      rw [List.mem_filter, mk y]
      simp
    show tSeq _ _ _ _ (upd (upd H12 d (.dT kvs5)) d2 (.dT kvs2))
    generalize upd (upd H12 d (.dT kvs5)) d2 (.dT kvs2) = H13 at kd2 k1113 hd13 hkv13
    have k013 := k09.trans (k10.trans k1113)
    -- is it one that remains
    refine ⟨_, rfl, (by show 2 ≤ sizeLine; decide), fun T6 hT6 => ?_⟩
    have kT6 := same_new hT6 (o := .tup [.int 0, .int s0])
    refine ⟨_, rfl, (by show 2 ≤ sizeLine; decide), fun T7 hT7 => ⟨(by show 1 ≤ sizeLine; decide), fun p7 hp7 => ?_⟩⟩
    have kT7 := same_new hT7 (o := .tup [.int 0, .int n])
    have kp7 := same_new hp7 (o := .lst [.ref T7])
    have k67 := kT6.trans (kT7.trans kp7)
    refine ⟨_, rfl, p7, _, _, (0, n), es, ss, rfl, upd_same, nd_mk (kp7 _ _ upd_same), on, (L.wi.sm k013).sm k67, by omega, by omega, fun p14 ys14 gs14 H14 k14 hp14 hp14' hys14 _ hgs14 => ?_⟩
    have k1314 := k67.trans k14
    refine isin_nodes (n := (0, s0)) (nd_mk ((kT7.trans (kp7.trans k14)) _ _ upd_same)) hp14' hys14 ?_
    have hiff : decide ((0, s0) ∈ gs14) = true ↔ Leaf (Cut es ss) (0, s0) (0, n) := decide_eq_true_iff.trans (hgs14 (0, s0))
    generalize decide ((0, s0) ∈ gs14) = isl at hiff
    -- what comes of the rest
    have k014 := k013.trans k1314
    refine ⟨_, rfl, _, rfl, (by show 2 ≤ sizeLine; decide), fun T8 hT8 => ?_⟩
    have kT8 := same_new hT8 (o := .tup [.int 0, .int s0])
    refine ⟨d2, kvs2, tale, _, _, (0, s0), rfl, (k1314.trans kT8) _ _ hd13, hkv13.sm (k1314.trans kT8), nd_mk upd_same, os, fun r15 zs15 H15 k15 _ hr15 hzs15 => ?_⟩
    have rest := kg_rest n1 n2 hm z0 z1 (fun e he => (L.ein e he).1)
    refine ⟨_, rfl, isl, rfl, ?_⟩
    have k1115 := k1113.trans (k1314.trans (kT8.trans k15))
    have k015 := k014.trans (kT8.trans k15)
    cases isl with
    | true =>
      have lf := hiff.mp rfl
      refine iteT ⟨(by show 0 ≤ sizeLine; decide), fun p16 hp16 => ?_⟩
      have kp16 := same_new hp16 (o := .lst [])
      refine ne_lists (kp16 _ _ hr15) (hzs15.sm kp16) upd_same .nil (fo_plain tale _ os) (fo_depth' tale _ os) rfl (by decide) ⟨_, rfl, ?_⟩
      rw [(fo_nil tale _ (0, s0)).mpr fun z => rest.mp z lf]
      exact iteF ⟨⟨_, _, _, rfl⟩, k10.trans (k1115.trans kp16)⟩
    | false =>
      have nlf : ¬ Leaf (Cut es ss) (0, s0) (0, n) := fun z => Bool.noConfusion (hiff.mpr z)
      refine iteF ⟨_, rfl, _, rfl, (by show 2 ≤ sizeLine; decide), fun T9 hT9 => ?_⟩
      have kT9 := same_new hT9 (o := .tup [.int 0, .int s0])
      refine ⟨ta, tale, _, (0, s0), rfl, kT9 _ _ (k015 _ _ L.ta), nd_mk upd_same, os, (by show s0 ≤ _; omega), fun v' H16 k16 hv' => ⟨(by show 1 ≤ sizeLine; decide), fun p16 hp16 => ?_⟩⟩
      have kp16 := same_new hp16 (o := .lst [v'])
      have k1516 := kT9.trans (k16.trans kp16)
      refine ne_lists (k1516 _ _ hr15) (hzs15.sm k1516) upd_same (.cons (hv'.sm kp16) .nil) (fo_plain tale _ os) (fo_depth' tale _ os) (one_plain os) (one_depth os) ⟨_, rfl, ?_⟩
      rw [(eqv_fo os).mpr (rest.mpr nlf)]
      exact iteF ⟨⟨_, _, _, rfl⟩, k10.trans (k1115.trans k1516)⟩
  subst e
  -- the bag
  have k010 := k09.trans k10
  have L10 := L.sm k010
  obtain ⟨gp, gxs, rfl, hgp, hgxs⟩ := gv_inv L10.gi
  refine ⟨_, rfl, gp, rfl, ⟨_, SqT.of hgp⟩, fun D4 hD4 => ?_⟩
  have ggl := L.gl
  refine lc_prs (tale := tale) (src_tup hgp) hD4 hgxs (by rw [hgxs.len, List.length_map]; omega) (fun _ => rfl) (fun z x H2 hz hx k2 Q1 q1 => ?_) (fun H11 acc k11 hD11 iA11 => ?_)
  · have ha := L.gin z hz
    refine ⟨_, rfl, _, rfl, _, rfl, ta, tale, x, z, rfl, (L10.sm k2).ta, hx, ha.1.toOk, (by have := ha.2; omega), fun v' H3 k3 hv => ⟨(by show 2 ≤ sizeLine; decide), fun T hT => ?_⟩⟩
    exact q1 _ _ (k3.trans (same_new hT)) (.tup upd_same (.cons ((hx.sm k3).sm (same_new hT)) (.cons (hv.sm (same_new hT)) .nil)))
  refine ⟨D4, acc, g, tale, rfl, hD11, iA11, by omega, fun d3 kvs3 hd3' hkv3' hkl3 => ?_⟩
  have kd3 := same_new hd3' (o := .dT kvs3)
  have k012 := k010.trans (k11.trans kd3)
  have hd12 : (upd H11 d3 (.dT kvs3)) d3 = some (.dT kvs3) := upd_same
  have hkv12 := hkv3'.sm kd3
  generalize upd H11 d3 (.dT kvs3) = H12 at kd3 k012 hd12 hkv12
  have L12 := L.sm k012
  refine ⟨_, rfl, _, rfl, n, _, es, ss, rfl, n1, n2, L12.wi, by omega, by omega, fun p13 ys13 gs13 H13 k13 _ hp13 hys13 hgl13 hgs13 => ?_⟩
  refine ⟨p13, rfl, ⟨_, SqL.of hp13⟩, fun D5 hD5 => ?_⟩
  refine lc_bl (src_lst hp13) hD5 (by rw [hys13.len, List.length_map]; omega) (fun i b => b = true) (fun i u H14 hu k14 Q1 Q0 q1 => ?_) (fun H14 bs k14 hb14 hl14 hP14 => ?_)
  · obtain ⟨dd, hdd1, hdd2⟩ := hys13.get hu
    rw [List.getElem?_map] at hdd1
    cases hz : gs13[i]? with
    | none => rw [hz] at hdd1; cases hdd1
    | some z =>
      rw [hz] at hdd1
      cases hdd1
      have hask := (hgs13 z).mp (List.mem_of_getElem? hz)
      have oz := okA z hask
      have k1214 := k13.trans k14
      refine ⟨rfl, _, rfl, _, rfl, d3, kvs3, tale, Gn g, u, z, rfl, k1214 _ _ hd12, hkv12.sm k1214, hdd2.sm k14, oz, fun r15 zs15 H15 k15 _ hr15 hzs15 => ?_⟩
      refine ⟨_, rfl, _, rfl, ta, tale, u, z, rfl, (k1214.trans k15) _ _ L12.ta, (hdd2.sm k14).sm k15, oz, (by have := upA z hask; omega), fun v' H16 k16 hv' => ⟨(by show 1 ≤ sizeLine; decide), fun p16 hp16 => ?_⟩⟩
      have kp16 := same_new hp16 (o := .lst [v'])
      have k1516 := k16.trans kp16
      refine eq_lists (k1516 _ _ hr15) (hzs15.sm k1516) upd_same (.cons (hv'.sm kp16) .nil) (fo_plain tale _ oz) (fo_depth' tale _ oz) (one_plain oz) (one_depth oz) ?_
      exact q1 _ _ (k15.trans k1516) ((eqv_fo oz).mpr (hall z hask))
  have hbs : bs.all id = true := List.all_eq_true.mpr fun x hx => by
    obtain ⟨i, hi⟩ := List.getElem?_of_mem hx
    exact hP14 i x hi
  refine ⟨D5, bs, rfl, SqL.of hb14, ?_⟩
  rw [hbs]
  exact q H14 (k012.trans (k13.trans k14))
end
end Mk

set_option Elab.async false
set_option maxRecDepth 100000
set_option maxHeartbeats 4000000
set_option linter.all false
namespace Mk
open PySem PySem.Spec PyProof.Rows L2
noncomputable def nearB (own z : Nd) : Bool := @decide (Below z own) (Classical.propDecidable _)
theorem nearB_iff {own z : Nd} : nearB own z = true ↔ Below z own := by unfold nearB; exact @decide_eq_true_iff _ (Classical.propDecidable _)
theorem nearB_no {own z : Nd} (h : ¬ Below z own) : nearB own z = false := by
  cases e : nearB own z with
  | false => rfl
  | true => exact absurd (nearB_iff.mp e) h
theorem nearB_yes {own z : Nd} (h : Below z own) : nearB own z = true := nearB_iff.mpr h
theorem cut_lo {xs : List V} {k : Nat} (h : k ≤ xs.length) : cutV xs none (some (k : Int)) = xs.take k := by
  unfold cutV
  rw [HT.sIx_none, HT.sIx_nat, Nat.sub_zero, List.drop_zero, Nat.min_eq_left h]
theorem cut_hi {xs : List V} {k : Nat} (h : k ≤ xs.length) : cutV xs (some (k : Int)) none = xs.drop k := by
  unfold cutV
  rw [HT.sIx_none, HT.sIx_nat, Nat.min_eq_left h, ← List.length_drop, List.take_length]
theorem any_int (es : List Int) (e : Int) : ((es.map PyData.int).any fun z => PyData.eqv z (.int e)) = decide (e ∈ es) := by
  induction es with
  | nil => simp
  | cons y es ih =>
    rw [List.map_cons, List.any_cons, ih]
    by_cases h : y = e
    · subst h; simp [PyData.eqv]
    · have h' : ¬ e = y := fun q => h q.symm
      simp [PyData.eqv, h, h']
/-- the tale with another entry at k -/
def again (tale : List Int) (k : Nat) : List Int := tale.take k ++ [-1] ++ tale.drop (k + 1)
theorem again_len {tale : List Int} {k : Nat} (h : k < tale.length) : (again tale k).length = tale.length := by
  unfold again
  rw [List.length_append, List.length_append, List.length_take, List.length_drop, List.length_singleton]
  omega
theorem again_set {tale : List Int} {k : Nat} (h : k < tale.length) : again tale k = tale.set k (-1) := by
  rw [List.set_eq_take_append_cons_drop, if_pos h]
  unfold again
  rw [List.append_assoc]; rfl
theorem again_same {tale : List Int} {k i : Nat} (h : k < tale.length) (n : i ≠ k) : (again tale k).getD i 0 = tale.getD i 0 := by
  rw [again_set h, List.getD_eq_getElem?_getD, List.getD_eq_getElem?_getD, List.getElem?_set_ne (Ne.symm n)]
theorem again_here {tale : List Int} {k : Nat} (h : k < tale.length) : (again tale k).getD k 0 = -1 := by
  rw [again_set h, List.getD_eq_getElem?_getD, List.getElem?_set_self h]; rfl
theorem eqv_val {t u : List Int} {x : Nd} (hx : x.1 < x.2) (h : valD t x = valD u x) : PyData.eqv (valD t x) (valD u x) = true := (eqv_plain _ _ (val_plain t x hx) (val_plain u x hx)).mpr h
theorem eqv_val_no {t u : List Int} {x : Nd} (hx : x.1 < x.2) (h : valD t x ≠ valD u x) : PyData.eqv (valD t x) (valD u x) = false := by
  cases e : PyData.eqv (valD t x) (valD u x) with
  | false => rfl
  | true => exact absurd ((eqv_plain _ _ (val_plain t x hx) (val_plain u x hx)).mp e) h
theorem val_shaped (t : List Int) {x : Nd} (o : Ok x) : SeqAt.shaped (valD t x) = true := shaped_of (val_plain t x o.l) (by have := val_dep (tale := t) o; omega)
section
variable {P : Program} {w : World} {K : PySem.W.Frag} {mg : Str → Option Value} {base : Heap}
/-! ### _law_other_right -/
abbrev sOR : Stmt := top 45
abbrev nOR : List Str := ["_law_tale", "_law_n_so", "_law_want_so", "_law_bag_here", "_law_own", "_law_spots", "_law_spot", "_law_again", "_law_near", "_law_its"]
theorem scOR : FnScope nOR ["_law_tale", "_law_n_so", "_law_want_so", "_law_bag_here"] (C8.fnScope sOR) := C8.fnScope_by (by decide +kernel)
def spOR : Sp := fun vs H Q _ => ∃ (a : Addr) (tale : List Int) (n : Int) (wv gv : V) (es ss : List Int) (g : List Nd), vs = [.ref a, .int n, wv, gv] ∧ LawIn H a tale n wv gv es ss g ∧ (∀ t, t ∈ tale → t ≠ -1) ∧ ∀ H', Same H H' → Q (.bl true) H'
theorem ok_OR (D : DD K mg "_law_other_right" sOR) (B : Bt mg) (cM : C8.Cal P w K mg base 9 "missing_nodes" spMiss []) (cO : C8.Cal P w K mg base 5 "open_entries" spOpen []) (cU : C8.Cal P w K mg base 2 "_law_under" spUnder [])
    (cV : C8.Cal P w K mg base 8 "_law_value" spValA []) : C8.Cal P w K mg base 10 "_law_other_right" spOR [] := by
  refine cal_of D (fun _ _ _ _ _ _ us hl => match us, hl with | [_, _, _, _], _ => rfl) scOR (fun vs H Q E h => ?_) (fun f cdv A outer s H vs Q E hr h => ?_)
  · obtain ⟨a, tale, n, wv, gv, es, ss, g, rfl, _⟩ := h
    rfl
  obtain ⟨ta, tale, n, wv, gv, es, ss, g, rfl, L, hT, q⟩ := h
  refine ⟨_, pss_cons (ps_for PassesOwn.never rfl (pi_list (C8.pe_c cM hr (by decide) rfl (pa_cons (pv 1) (pa_cons (pv 2) (pa_cons (pv 3) pa_nil))))) (pg_name (i := 4) scOR.nd rfl (Or.inr rfl))
      (pss_cons (ps_set (i := 5) scOR.nd rfl (Or.inl rfl) (C8.pe_c cO hr (by decide) rfl (pa_cons (pv 3) (pa_cons (pv 4) pa_nil))))
      (pss_cons (ps_if (pt_cmpR (op_eqD hr.units) (pv 5) (pe_lst pa_nil) (nomark _)) (pss_one (ps_ret pe_bl)) pss_nil)
      (pss_cons (ps_set (i := 6) scOR.nd rfl (Or.inl rfl) (pe_ix ix_list (pv 5) pe_int (fun _ _ => rfl)))
      (pss_cons (ps_set (i := 7) scOR.nd rfl (Or.inr rfl) (pe_op op_cat (pe_op op_cat (pe_slice sl_list (pv 0) po_none (po_some (pv 6))) (pe_lst (pa_cons (pe_un un_neg pe_int) pa_nil))) (pe_slice sl_list (pv 0) (po_some (pe_op op_add (pv 6) pe_int)) po_none)))
      (pss_cons (ps_setLc (i := 8) (own := [("_law_its", 9)]) (g := gName 9)
          (tt := tAnd (tTest (tOp (rI0 fun i j => .bl (decide (i ≤ j))) (tOp (rIxT K) (tVar 4) (tC (.int 0))) (tOp (rIxT K) (tVar 9) (tC (.int 0))))) (tAnd (tTest (tOp (rI0 fun i j => .bl (decide (i ≤ j))) (tOp (rIxT K) (tVar 9) (tC (.int 1))) (tOp (rIxT K) (tVar 4) (tC (.int 1)))))
            (tTest (tOp (rInD K) (tVar 9) (tCall spUnder [] C8.E0 (tCons (tVar 4) tNil)))))) (te := tVar 9)
          rfl scOR.nd rfl rfl (sw_true rfl rfl rfl (by decide +kernel)) (pi_tup (pv 3)) (blkOk_by (N := nOR) (sc := C8.fnScope sOR) (by decide +kernel)) (fun _ _ _ _ _ => pg_name (i := 9) scOR.nd rfl (Or.inl rfl))
          (fun _ _ _ _ _ => pts_one (PW.pt (pw_and (pt_cmpR op_le (pe_ix ix_tup (pv 4) pe_int (fun _ _ => rfl)) (pe_ix ix_tup (pv 9) pe_int (fun _ _ => rfl)) (nomark _)) (pw_and (pt_cmpR op_le (pe_ix ix_tup (pv 9) pe_int (fun _ _ => rfl)) (pe_ix ix_tup (pv 4) pe_int (fun _ _ => rfl)) (nomark _))
            (pw_and1 (pt_cmpR (r := rInD K) (op_inD (hu65 hr)) (pv 9) (C8.pe_c cU hr (by decide) rfl (pa_cons (pv 4) pa_nil)) (by rfl))))))) (fun _ _ _ _ _ => pv 9))
      (pss_cons (ps_if (pt_cmpR (op_neD hr.units) (pe_lc (own := [("_law_its", 9)]) (g := gName 9) (tt := tTest (tOp (rNeD K) (tCall spValA [] C8.E0 (tCons (tVar 7) (tCons (tVar 9) tNil))) (tCall spValA [] C8.E0 (tCons (tVar 0) (tCons (tVar 9) tNil))))) (te := tVar 9) rfl scOR.nd (pi_list (pv 8))
            (blkOk_by (N := nOR) (sc := C8.fnScope sOR) (by decide +kernel)) (fun _ _ _ _ _ => pg_name (i := 9) scOR.nd rfl (Or.inl rfl)) (fun _ _ _ _ _ => pts_one (pt_cmpR (r := rNeD K) (op_neD hr.units) (C8.pe_c cV hr (by decide) rfl (pa_cons (pv 7) (pa_cons (pv 9) pa_nil))) (C8.pe_c cV hr (by decide) rfl (pa_cons (pv 0) (pa_cons (pv 9) pa_nil))) (nomark _))) (fun _ _ _ _ _ => pv 9))
          (pe_lst pa_nil) (nomark _)) (pss_one (ps_ret pe_bl)) pss_nil)
      (pss_one (ps_if (PW.pt (pw_or (pt_cmpR (op_eqD hr.units) (C8.pe_c cV hr (by decide) rfl (pa_cons (pv 7) (pa_cons (pv 4) pa_nil))) (C8.pe_c cV hr (by decide) rfl (pa_cons (pv 0) (pa_cons (pv 4) pa_nil))) (nomark _))
          (pw_or1 (pt_cmpR (op_inU (hu65 hr)) (pv 6) (pe_ix ix_tup (pv 2) pe_int (fun _ _ => rfl)) (by rfl))))) (pss_one (ps_ret pe_bl)) pss_nil)))))))))
    (pss_one (ps_ret pe_bl)), ?_⟩
  have n1 := L.n1
  have n2 := L.n2
  have hle := L.el
  have hls := L.sl
  have htl := L.tl
  have ggl := L.gl
  have on : Ok (0, n) := (Al.head n1 n2).toOk
  obtain ⟨wa, b, c, rfl, hwa, hb, hc⟩ := wi_inv L.wi
  refine ⟨_, rfl, _, rfl, _, rfl, n, _, gv, es, ss, g, rfl, n1, n2, L.wi, by omega, by omega, L.gi, by omega, fun p ys gs H1 k1 _ hp hys hgl hgs => ?_⟩
  refine ⟨p, rfl, ⟨_, SqL.of hp⟩, ?_⟩
  refine for_by ys.length (fun i σ H' => (∃ u1 u2 u3 u4 u5, σ = [some (.ref ta), some (.int n), some (.ref wa), some gv, u1, u2, u3, u4, u5, none]) ∧ Same H1 H')
    ⟨⟨_, _, _, _, _, rfl⟩, Same.refl H1⟩ (fun i σ H' ⟨_, k⟩ => ⟨(it_lst (k _ _ hp) i).1, (it_lst (k _ _ hp) i).2.1⟩) (fun i σ H2 v H3 hi ⟨⟨u1, u2, u3, u4, u5, e⟩, k2⟩ hy => ?_) (fun σ H2 ⟨⟨u1, u2, u3, u4, u5, e⟩, k2⟩ => ?_)
  · subst e
    obtain ⟨eH, hx⟩ := (it_lst (K := K) (k2 _ _ hp) i).2.2 v H3 hi hy
    subst eH
    obtain ⟨dd, hdd1, hdd2⟩ := hys.get hx
    rw [List.getElem?_map] at hdd1
    cases hz : gs[i]? with
    | none => rw [hz] at hdd1; cases hdd1
    | some own =>
      rw [hz] at hdd1
      cases hdd1
      obtain ⟨va, rfl, hva⟩ := nd_inv hdd2
      obtain ⟨hask, hmiss⟩ := (hgs own).mp (List.mem_of_getElem? hz)
      have oo : Ok own := hask.1.und.ok on
      have o1 := oo.z
      have o2 := oo.l
      have o3 := oo.u
      have o4 : own.2 ≤ n := hask.1.und.within.2
      have L2 := L.sm (k1.trans k2)
      refine ⟨_, rfl, _, rfl, gv, .ref va, g, own, rfl, L2.gi, by omega, hdd2.sm k2, oo, fun r5 sp H4 k4 _ hr5 hsp => ?_⟩
      have k24 := k2.trans k4
      have hv4 := hdd2.sm k24
      refine ⟨_, rfl, (by show 0 ≤ sizeLine; decide), fun p5 hp5 => ?_⟩
      have kp5 := same_new hp5 (o := .lst [])
      refine eq_lists (ds := sp.map PyData.int) (kp5 _ _ hr5) (ImAll.of_ints sp) upd_same .nil (plain_ints _) (by have := depth_ints sp; omega) rfl (by decide) ⟨_, rfl, ?_⟩
      obtain ⟨e0, he0⟩ := open_of own o2 hmiss
      match sp, hsp, hr5 with
      | [], hsp, _ => exact absurd ((hsp e0).mpr he0) List.not_mem_nil
      | e :: sp, hsp, hr5 =>
        have ho := (hsp e).mp List.mem_cons_self
        obtain ⟨h1, h2, h3⟩ := ho
        have enil : PyData.eqv (.list ((e :: sp).map PyData.int)) (.list []) = false := by simp [PyData.eqv, PyData.eqvAll]
        rw [enil]
        refine iteF ?_
        have k25 := k24.trans kp5
        have hr6 := kp5 _ _ hr5
        generalize upd H4 p5 (.lst []) = H5 at kp5 k25 hr6
        have L5 := L.sm (k1.trans k25)
        refine ⟨_, rfl, r5, _, _, .int e, rfl, rfl, SqL.of hr6, at_of (show (0 : Int) = ((0 : Nat) : Int) from rfl) rfl, ?_⟩
        -- the tale again
        have hk : e.toNat < tale.length := by omega
        have ek : e = ((e.toNat : Nat) : Int) := by omega
        have ek1 : e + 1 = ((e.toNat + 1 : Nat) : Int) := by omega
        have hml : (tale.map V.int).length = tale.length := List.length_map _
        refine ⟨_, rfl, _, rfl, _, rfl, ta, _, rfl, SqL.of L5.ta, fun p6 hp6 => ?_⟩
        have e6 : cutV (tale.map V.int) none (some e) = (tale.take e.toNat).map V.int := by
          rw [ek, cut_lo (by omega), List.map_take]; rfl
        rw [e6]
        have kp6 := same_new hp6 (o := .lst ((tale.take e.toNat).map V.int))
        refine ⟨_, rfl, (by show 1 ≤ sizeLine; decide), fun p7 hp7 => ?_⟩
        have kp7 := same_new hp7 (o := .lst [V.int (-1)])
        refine ⟨p6, p7, _, _, rfl, rfl, kp7 _ _ upd_same, upd_same, sz_of' (by rw [List.length_map, List.length_take]; show min e.toNat tale.length + 1 ≤ 5000; omega), fun p8 hp8 => ?_⟩
        have kp8 := same_new hp8 (o := .lst ((tale.take e.toNat).map V.int ++ [V.int (-1)]))
        have k58 := kp6.trans (kp7.trans kp8)
        have h8 : (upd (upd (upd H5 p6 (.lst ((tale.take e.toNat).map V.int))) p7 (.lst [V.int (-1)])) p8 (.lst ((tale.take e.toNat).map V.int ++ [V.int (-1)]))) p8 = some (.lst ((tale.take e.toNat).map V.int ++ [V.int (-1)])) := upd_same
        refine ⟨_, rfl, _, rfl, _, _, rfl, rfl, _, rfl, ta, _, rfl, SqL.of (k58 _ _ L5.ta), fun p9 hp9 => ?_⟩
        have e9 : cutV (tale.map V.int) (some (e + 1)) none = (tale.drop (e.toNat + 1)).map V.int := by
          rw [ek1, cut_hi (by omega), List.map_drop]
        rw [e9]
        generalize upd (upd (upd H5 p6 (.lst ((tale.take e.toNat).map V.int))) p7 (.lst [V.int (-1)])) p8 (.lst ((tale.take e.toNat).map V.int ++ [V.int (-1)])) = H8 at kp8 k58 h8 hp9
        have kp9 := same_new hp9 (o := .lst ((tale.drop (e.toNat + 1)).map V.int))
        refine ⟨p8, p9, _, _, rfl, rfl, kp9 _ _ h8, upd_same, sz_of' (by rw [List.length_append, List.length_map, List.length_map, List.length_take, List.length_drop]; show min e.toNat tale.length + 1 + (tale.length - (e.toNat + 1)) ≤ 5000; omega), fun ag hag => ?_⟩
        have eag : ((tale.take e.toNat).map V.int ++ [V.int (-1)]) ++ (tale.drop (e.toNat + 1)).map V.int = (again tale e.toNat).map V.int := by
          unfold again
          rw [List.map_append, List.map_append]; rfl
        rw [eag]
        have kag := same_new hag (o := .lst ((again tale e.toNat).map V.int))
        have k510 := k58.trans (kp9.trans kag)
        have h10 : (upd (upd H8 p9 (.lst ((tale.drop (e.toNat + 1)).map V.int))) ag (.lst ((again tale e.toNat).map V.int))) ag = some (.lst ((again tale e.toNat).map V.int)) := upd_same
        show tSeq _ _ _ _ (upd (upd H8 p9 (.lst ((tale.drop (e.toNat + 1)).map V.int))) ag (.lst ((again tale e.toNat).map V.int)))
        generalize upd (upd H8 p9 (.lst ((tale.drop (e.toNat + 1)).map V.int))) ag (.lst ((again tale e.toNat).map V.int)) = H10 at kag k510 h10
        have k210 := k25.trans k510
        have L10 := L5.sm k510
        have hv10 := hdd2.sm k210
        have hl10 : ((again tale e.toNat).length : Int) = n := by rw [again_len hk]; exact htl
        -- what is near
        obtain ⟨gp, gxs, rfl, hgp, hgxs⟩ := gv_inv L10.gi
        refine ⟨_, rfl, gp, rfl, ⟨_, SqT.of hgp⟩, fun D11 hD11 => ?_⟩
        refine lc_fil (src_tup hgp) hD11 hgxs (by rw [hgxs.len, List.length_map]; omega) (nearB own) (fun _ => rfl) (by show 9 < 10; decide) (fun i u z H12 hz hu k12 Q1 q1 => ?_) (fun H12 acc k12 hD12 iA12 => ?_)
        · have ht1 := (k210.trans k12) _ _ hva
          obtain ⟨t2, rfl, ht2⟩ := nd_inv hu
          refine ⟨_, rfl, _, _, _, _, rfl, rfl, SqT.of ht1, rfl, _, rfl, _, _, _, _, rfl, rfl, SqT.of ht2, rfl, _, _, rfl, rfl, _, rfl, ?_⟩
          refine ite2 (fun cc => ?_) (fun cc => ?_)
          · refine ⟨_, rfl, _, _, _, _, rfl, rfl, SqT.of ht2, rfl, _, rfl, _, _, _, _, rfl, rfl, SqT.of ht1, rfl, _, _, rfl, rfl, _, rfl, ?_⟩
            refine ite2 (fun cc2 => ?_) (fun cc2 => ?_)
            · refine ⟨_, rfl, _, rfl, .ref va, own, rfl, hv10.sm k12, oo, fun p13 ys13 gs13 H13 k13 _ hp13 hys13 _ _ hgs13 => ?_⟩
              refine isin_nodes (n := z) (hu.sm k13) hp13 hys13 ⟨_, rfl, ?_⟩
              have ee : decide (z ∈ gs13) = nearB own z := by
                by_cases hm : Below z own
                · rw [nearB_yes hm, decide_eq_true ((hgs13 z).mpr hm)]
                · rw [nearB_no hm, decide_eq_false fun q => hm ((hgs13 z).mp q)]
              rw [ee]
              exact q1 H13 k13
            · have ee := nearB_no (own := own) (z := z) fun b => cc2 (decide_eq_true b.within.2)
              rw [ee] at q1
              exact q1 H12 (Same.refl H12)
          · have ee := nearB_no (own := own) (z := z) fun b => cc (decide_eq_true b.within.1)
            rw [ee] at q1
            exact q1 H12 (Same.refl H12)
        have fl := List.length_filter_le (nearB own) g
        have k212 := k210.trans k12
        have L12 := L10.sm k12
        have h12 := k12 _ _ h10
        refine ⟨_, rfl, D11, rfl, ⟨_, SqL.of hD12⟩, fun D13 hD13 => ?_⟩
        refine lc_fil (src_lst hD12) hD13 iA12 (by rw [iA12.len, List.length_map]; omega) (fun _ => false) (fun _ => rfl) (by show 9 < 10; decide) (fun i u z H14 hz hu k14 Q1 q1 => ?_) (fun H14 acc2 k14 hD14 iA14 => ?_)
        · have hzm := List.mem_filter.mp (List.mem_of_getElem? hz)
          have hzb := nearB_iff.mp hzm.2
          have oz : Ok z := hzb.ok oo
          have hzw := hzb.within
          have ev : valD (again tale e.toNat) z = valD tale z := val_same z oz.l fun i i1 i2 => again_same hk fun q => h3 z hzb (by have := oz.z; omega) (by have := oz.z; omega) hzm.1
          refine ⟨_, rfl, _, rfl, ag, again tale e.toNat, u, z, rfl, k14 _ _ h12, hu, oz, by omega, fun v1 H15 k15 hv1 => ?_⟩
          refine ⟨_, rfl, _, rfl, ta, tale, u, z, rfl, (k14.trans k15) _ _ L12.ta, hu.sm k15, oz, by omega, fun v2 H16 k16 hv2 => ?_⟩
          refine ⟨_, _, Im.dp _ _ (hv1.sm k16), Im.dp _ _ hv2, val_shaped _ oz, val_shaped _ oz, _, rfl, ?_⟩
          rw [eqv_val oz.l ev]
          exact q1 H16 (k15.trans k16)
        have fnil : (List.filter (fun _ => false) (List.filter (nearB own) g)) = [] := by simp
        rw [fnil] at iA14
        refine ⟨(by show 0 ≤ sizeLine; decide), fun p15 hp15 => ?_⟩
        have kp15 := same_new hp15 (o := .lst [])
        refine ne_lists (kp15 _ _ hD14) (iA14.sm kp15) upd_same .nil rfl (by decide) rfl (by decide) ⟨_, rfl, ?_⟩
        have eee : PyData.eqv (.list (List.map ndP [])) (.list []) = true := by simp [PyData.eqv, PyData.eqvAll]
        rw [eee]
        refine iteF ?_
        have k1215 := k14.trans kp15
        have L15 := L12.sm k1215
        have h15 := k1215 _ _ h12
        have k215 := k212.trans k1215
        generalize upd H14 p15 (.lst []) = H15 at kp15 k1215 L15 h15 k215
        have ev : valD (again tale e.toNat) own ≠ valD tale own := by
          refine val_other (i := e) ?_ own o2 h1 h2
          rw [again_here hk, List.getD_eq_getElem?_getD, List.getElem?_eq_getElem hk]
          exact fun q => hT _ (List.getElem_mem hk) q.symm
        refine ⟨_, rfl, _, rfl, ag, again tale e.toNat, .ref va, own, rfl, h15, hdd2.sm k215, oo, by omega, fun v1 H16 k16 hv1 => ?_⟩
        refine ⟨_, rfl, _, rfl, ta, tale, .ref va, own, rfl, k16 _ _ L15.ta, (hdd2.sm k215).sm k16, oo, by omega, fun v2 H17 k17 hv2 => ?_⟩
        refine ⟨_, _, Im.dp _ _ (hv1.sm k17), Im.dp _ _ hv2, val_shaped _ oo, val_shaped _ oo, _, rfl, ?_⟩
        rw [eqv_val_no o2 ev]
        refine iteF ?_
        have k117 := k1.trans (k215.trans (k16.trans k17))
        refine ⟨_, rfl, _, rfl, _, _, _, _, rfl, rfl, SqT.of (k117 _ _ hwa), rfl, ?_⟩
        refine ⟨.int e, es.map PyData.int, .int e, .tup (SqT.of (k117 _ _ hb)) (ints_dp es), shaped_of rfl (by simp [PyData.depth]), shaped_of (by simp only [plainD]; exact plain_ints es) (by have := depth_ints es; simp only [PyData.depth]; omega), _, rfl, ?_⟩
        rw [any_int]
        have nes : ¬ e ∈ es := fun hm => by
          have st := hask.1.stop
          have h1s : ¬ 2 ≤ own.2 - own.1 := fun q => st ⟨.inl ⟨e, hm, h1, h2⟩, q⟩
          refine hask.2 (mem_br.mpr (.inl ⟨e, hm, Prod.ext ?_ ?_⟩))
          · show own.1 = e; omega
          · show own.2 = e + 1; omega
        rw [decide_eq_false nes]
        exact iteF ⟨⟨_, _, _, _, _, rfl⟩, k215.trans (k16.trans k17)⟩
  · subst e
    exact q H2 (k1.trans k2)
end
end Mk

set_option Elab.async false
set_option maxRecDepth 100000
set_option maxHeartbeats 4000000
set_option linter.all false
namespace Mk
open PySem PySem.Spec PyProof.Rows L2
/-- a statement, what holds behind it named -/
def tCut (t : TS) : TS := fun D σ H => ∃ I : L2.St → Hp → Prop, (∀ σ' H', I σ' H' → D.nx σ' H') ∧ t { D with nx := I } σ H
theorem ps_cut {X : Cx} {st : Stmt} {t : TS} (h : PS X st t) : PS X st (tCut t) := by
  refine ⟨fun pins s σ H D I hw => ?_⟩
  obtain ⟨J, hJ, hw⟩ := hw
  refine thn (h.run pins s σ H _ I hw) fun f s1 q => ?_
  cases f with
  | next => obtain ⟨σ', H', I2, q⟩ := q; exact ⟨σ', H', I2, hJ σ' H' q⟩
  | brk => exact q
  | cont => exact q
  | ret v => exact q
/-- the tale of a log of n entries -/
def taleOf (n : Int) : List Int := (List.range n.toNat).map fun i => 100 + ((i : Nat) : Int)
theorem tale_rg (n : Int) : rgV 100 (100 + n) = (taleOf n).map V.int := by
  unfold rgV taleOf
  rw [List.map_map, show (100 + n - 100) = n by omega]
  rfl
theorem tale_len (n : Int) : (taleOf n).length = n.toNat := by unfold taleOf; rw [List.length_map, List.length_range]
theorem tale_pos (n : Int) : ∀ t, t ∈ taleOf n → t ≠ -1 := fun t ht => by
  obtain ⟨i, _, rfl⟩ := List.mem_map.mp ht
  omega
theorem any_fo {tale : List Int} {g : Nd → Prop} {y : Nd} (o : Ok y) : ([PyData.list [], .list [valD tale y]].any fun z => PyData.eqv z (.list (fo tale g y))) = true := by
  by_cases h : Had g y
  · rw [fo_yes h]
    have p : plainD (.list [valD tale y]) = true := by simp only [plainD, plainDs, val_plain tale y o.l, Bool.and_self]
    have e : PyData.eqv (.list [valD tale y]) (.list [valD tale y]) = true := (eqv_plain _ _ p p).mpr rfl
    simp only [List.any_cons, e, Bool.or_true, Bool.true_or]
  · rw [fo_no h]; simp [PyData.eqv, PyData.eqvAll]
theorem sameB_fresh {b : Addr} {H H1 H2 : Hp} (e : Same H H1) (f : SameB b H1 H2) (n : H b = none) : Same H H2 := fun c o h => f c o (fun q => by rw [q, n] at h; cases h) (e c o h)
section
variable {P : Program} {w : World} {K : PySem.W.Frag} {mg : Str → Option Value} {base : Heap}
/-! ### _law_right -/
abbrev sRt : Stmt := top 46
abbrev nRt : List Str := ["_law_box_here", "_law_turn", "_law_n_so", "_law_tale", "_law_bag_here", "_law_want_so", "_law_own", "_law_given_so", "_law_all_so", "_law_made_so", "_law_leaf"]
theorem scRt : FnScope nRt ["_law_box_here"] (C8.fnScope sRt) := C8.fnScope_by (by decide +kernel)
def spRt : Sp := fun vs H Q _ => ∃ (b : Addr) (m : Int), vs = [.ref b] ∧ m ≤ 1000 ∧ Bx H b m ∧ ∀ H', SameB b H H' → Q (.bl true) H'
def spHadI : Sp := fun vs H Q _ => ∃ gv v g x, vs = [gv, v] ∧ Im H gv (gvP g) ∧ g.length ≤ 1000 ∧ Im H v (ndP x) ∧ Ok x ∧ ∀ (b : Bool) H', Same H H' → (b = true ↔ Had (Gn g) x) → Q (.bl b) H'
theorem ok_right (D : DD K mg "_law_right" sRt) (B : Bt mg) (cT : C8.Cal P w K mg base 1 "_law_take" spTake []) (cB : C8.Cal P w K mg base 4 "_law_bag" spBag []) (cW : C8.Cal P w K mg base 3 "_law_want" spWant []) (cP : C8.Cal P w K mg base 1 "_law_put" spPut [])
    (cWd : C8.Cal P w K mg base 3 "_law_wanted" spAskF []) (cV : C8.Cal P w K mg base 8 "_law_value" spValA []) (cA : C8.Cal P w K mg base 9 "all_had" spAll []) (cG : C8.Cal P w K mg base 3 "_law_grown" spGrown []) (cF : C8.Cal P w K mg base 8 "_law_folded" spFoldA [])
    (cPa : C8.Cal P w K mg base 14 "paper_of" spPaperA []) (cI : C8.Cal P w K mg base 9 "is_had" spHadI []) (cS : C8.Cal P w K mg base 10 "shows" spShows []) (cM : C8.Cal P w K mg base 9 "missing_nodes" spMiss [])
    (cH : C8.Cal P w K mg base 9 "_law_heads_right" spHR []) (cO : C8.Cal P w K mg base 10 "_law_other_right" spOR []) : C8.Cal P w K mg base 15 "_law_right" spRt [] := by
  refine cal_of D (fun _ _ _ _ _ _ us hl => match us, hl with | [_], _ => rfl) scRt (fun vs H Q E h => ?_) (fun f cdv A outer s H vs Q E hr h => ?_)
  · obtain ⟨b, m, rfl, _⟩ := h
    rfl
  obtain ⟨b, m, rfl, m1, hB, q⟩ := h
  refine ⟨_, pss_cons (ps_for PassesOwn.never rfl (pi_range1 (by rfl) B.range (pa_cons pe_int pa_nil)) (pg_name (i := 1) scRt.nd rfl (Or.inl rfl))
      (pss_cons (ps_set (i := 2) scRt.nd rfl (Or.inl rfl) (pe_op op_add pe_int (C8.pe_c cT hr (by decide) rfl (pa_cons (pv 0) (pa_cons pe_int pa_nil)))))
      (pss_cons (ps_asg (pe_tup (pa_cons (pe_listRg rfl (by rfl) B.list (prg_2 (by rfl) B.range pe_int (pe_op op_add pe_int (pv 2)))) (pa_cons (C8.pe_c cB hr (by decide) rfl (pa_cons (pv 0) (pa_cons (pv 2) pa_nil))) (pa_cons (C8.pe_c cW hr (by decide) rfl (pa_cons (pv 0) (pa_cons (pv 2) pa_nil))) pa_nil))))
        (pg_tup (by rfl) (pgs_cons (pg_name (i := 3) scRt.nd rfl (Or.inr rfl)) (pgs_cons (pg_name (i := 4) scRt.nd rfl (Or.inl rfl)) (pgs_cons (pg_name (i := 5) scRt.nd rfl (Or.inl rfl)) pgs_nil)))))
      (pss_cons (ps_cut (ps_if (pt_cmpR op_eq (C8.pe_c cT hr (by decide) rfl (pa_cons (pv 0) (pa_cons pe_int pa_nil))) pe_int (nomark _))
        (pss_one (ps_set (i := 4) scRt.nd rfl (Or.inl rfl) (C8.pe_c cP hr (by decide) rfl (pa_cons (pv 4) (pa_cons (C8.pe_c cWd hr (by decide) rfl (pa_cons (pe_lst (pa_cons (pe_tup (pa_cons pe_int (pa_cons (pv 2) pa_nil))) pa_nil)) (pa_cons (pv 5) pa_nil))) pa_nil))))) pss_nil))
      (pss_cons (ps_par (i := 7) (j := 8) (by rfl) scRt.nd rfl rfl (by decide) rfl rfl (pa_cons (pe_callTy (cr_dictN rfl (hu65 hr)) (by rfl) B.dict (by decide +kernel) (pa_cons
          (pe_lc (own := [("_law_own", 6)]) (g := gName 6) (tt := tYes) (te := tTup (tCons (tVar 6) (tCons (tCall spValA [] C8.E0 (tCons (tVar 3) (tCons (tVar 6) tNil))) tNil))) rfl scRt.nd (pi_tup (pv 4))
            (blkOk_by (N := nRt) (sc := C8.fnScope sRt) (by decide +kernel)) (fun _ _ _ _ _ => pg_name (i := 6) scRt.nd rfl (Or.inl rfl)) (fun _ _ _ _ _ => pts_nil)
            (fun _ _ _ _ _ => pe_tup (pa_cons (pv 6) (pa_cons (C8.pe_c cV hr (by decide) rfl (pa_cons (pv 3) (pa_cons (pv 6) pa_nil))) pa_nil)))) pa_nil)) (pa_cons (C8.pe_c cA hr (by decide) rfl (pa_cons (pv 4) pa_nil)) pa_nil)) (by rfl))
      (pss_cons (ps_for PassesOwn.never rfl (pi_tup (C8.pe_c cP hr (by decide) rfl (pa_cons (pv 8) (pa_cons (C8.pe_c cG hr (by decide) rfl (pa_cons (pv 2) pa_nil)) pa_nil)))) (pg_name (i := 6) scRt.nd rfl (Or.inl rfl))
        (pss_cons (ps_set (i := 9) scRt.nd rfl (Or.inl rfl) (C8.pe_c cF hr (by decide) rfl (pa_cons (pv 7) (pa_cons (pv 6) pa_nil))))
        (pss_cons (ps_if (PW.pt (pw_or (pt_cmpR op_ne (pe_cmpR (op_inD (hu65 hr)) (pv 6) (pv 8) (by rfl)) (pe_cmpR (op_neD hr.units) (pv 9) (pe_lst pa_nil) (nomark _)) (nomark _))
            (pw_or1 (pt_cmpR (op_notInU (hu65 hr)) (pv 9) (pe_tup (pa_cons (pe_lst pa_nil) (pa_cons (pe_lst (pa_cons (C8.pe_c cV hr (by decide) rfl (pa_cons (pv 3) (pa_cons (pv 6) pa_nil))) pa_nil)) pa_nil))) (by rfl))))) (pss_one (ps_ret pe_bl)) pss_nil)
        (pss_cons (ps_cut (ps_set (i := 10) scRt.nd rfl (Or.inl rfl) (C8.pe_c cPa hr (by decide) rfl (pa_cons (pv 4) (pa_cons (pv 6) pa_nil)))))
        (pss_one (ps_if (PW.pt (pw_or (pt_cmpR op_ne (pe_cmpR op_isN (pv 10) pe_non (nomark _)) (pe_cmpR (op_eqD hr.units) (pv 9) (pe_lst pa_nil) (nomark _)) (nomark _))
            (pw_or1 (pt_cmpR op_ne (C8.pe_c cI hr (by decide) rfl (pa_cons (pv 4) (pa_cons (pv 6) pa_nil))) (pe_cmpR (op_inD (hu65 hr)) (pv 6) (pv 8) (by rfl)) (nomark _))))) (pss_one (ps_ret pe_bl)) pss_nil))))))
      (pss_one (ps_if (pt_val (C8.pe_c cS hr (by decide) rfl (pa_cons (pv 2) (pa_cons (pv 5) (pa_cons (pv 4) pa_nil)))))
        (pss_one (ps_if (PW.pt (pw_or (pt_cmpR (op_neD hr.units) (C8.pe_c cM hr (by decide) rfl (pa_cons (pv 2) (pa_cons (pv 5) (pa_cons (pv 4) pa_nil)))) (pe_lst pa_nil) (nomark _)) (pw_or1 (pt_not (pt_val (C8.pe_c cH hr (by decide) rfl (pa_cons (pv 3) (pa_cons (pv 2) (pa_cons (pv 5) (pa_cons (pv 4) pa_nil)))))))))) (pss_one (ps_ret pe_bl)) pss_nil))
        (pss_one (ps_if (PW.pt (pw_or (pt_cmpR (op_eqD hr.units) (C8.pe_c cM hr (by decide) rfl (pa_cons (pv 2) (pa_cons (pv 5) (pa_cons (pv 4) pa_nil)))) (pe_lst pa_nil) (nomark _)) (pw_or1 (pt_not (pt_val (C8.pe_c cO hr (by decide) rfl (pa_cons (pv 3) (pa_cons (pv 2) (pa_cons (pv 5) (pa_cons (pv 4) pa_nil)))))))))) (pss_one (ps_ret pe_bl)) pss_nil))))))))))
    (pss_one (ps_ret pe_bl)), ?_⟩
  refine ⟨3, rfl, by decide, by decide, ?_⟩
  refine for_by (3 : Int).toNat (fun i σ H' => (∃ u1 u2 u3 u4 u5 u6 u7 u8 u9 u10, σ = [some (.ref b), u1, u2, u3, u4, u5, u6, u7, u8, u9, u10]) ∧ SameB b H H' ∧ Bx H' b (m + 100 * i))
    ⟨⟨_, _, _, _, _, _, _, _, _, _, rfl⟩, SameB.refl b H, hB.mono (by omega)⟩ (fun i σ H' _ => ⟨fun hi => hi, fun e => Nat.le_of_eq e.symm⟩) (fun i σ H1 v H2 hi ⟨⟨u1, u2, u3, u4, u5, u6, u7, u8, u9, u10, e⟩, b2, hB2⟩ hy => ?_) (fun σ H1 ⟨_, b1, _⟩ => q H1 b1)
  subst e
  obtain ⟨rfl, rfl⟩ := hy
  have hi3 : i < 3 := hi
  refine ⟨_, rfl, b, 18, _, rfl, by decide, by decide, by omega, hB2, fun d H3 b3 hB3 d0 d1 => ⟨_, _, rfl, rfl, ?_⟩⟩
  have n1 : 1 ≤ 1 + d := by omega
  have n2 : 1 + d ≤ 18 := by omega
  have on : Ok (0, 1 + d) := (Al.head n1 n2).toOk
  refine ⟨_, rfl, _, _, rfl, rfl, _, _, rfl, rfl, RgOk.of_le (by decide) (by omega) (by decide) (by omega), fun lt hlt => ?_⟩
  rw [tale_rg (1 + d)]
  have nlb : lt ≠ b := hB3.ne hlt
  have k4 := same_new hlt (o := .lst ((taleOf (1 + d)).map V.int))
  refine ⟨_, rfl, _, rfl, b, 1 + d, _, rfl, n1, n2, by omega, hB3.sm k4, fun gv g H5 b5 hB5 hg hin hgl => ?_⟩
  have l5 := b5 _ _ nlb upd_same
  refine ⟨_, rfl, _, rfl, b, 1 + d, _, rfl, n1, n2, by omega, hB5, fun wv es ss H6 b6 hB6 hw hes hss hel hsl => ⟨(by show 3 ≤ sizeLine; decide), fun T hT => ?_⟩⟩
  have l6 := b6 _ _ nlb l5
  have g6 := hg.by (hB5.kt b6)
  have k7 := same_new hT (o := .tup [.ref lt, gv, wv])
  refine ⟨T, _, rfl, SqT.of upd_same, rfl, _, _, rfl, _, _, rfl, _, _, rfl, rfl, ?_⟩
  have b07 : SameB b H (upd H6 T (.tup [.ref lt, gv, wv])) := b2.trans (b3.trans ((smB k4).trans (b5.trans (b6.trans (smB k7)))))
  have l7 := k7 _ _ l6
  have g7 := g6.sm k7
  have w7 := hw.sm k7
  have hB7 := hB6.sm k7
  show tSeq _ _ _ _ (upd H6 T (.tup [.ref lt, gv, wv]))
  generalize upd H6 T (.tup [.ref lt, gv, wv]) = H7 at k7 b07 l7 g7 w7 hB7
  refine ⟨fun σ' H' => ∃ gv' g', σ' = [some (.ref b), some (.int (0 + ((i : Nat) : Int))), some (.int (1 + d)), some (.ref lt), some gv', some wv, u6, u7, u8, u9, u10] ∧ SameB b H H' ∧ Bx H' b (m + 100 * i + 70) ∧ H' lt = some (.lst ((taleOf (1 + d)).map V.int)) ∧ Im H' wv (wiP es ss) ∧
    Im H' gv' (gvP g') ∧ InLog (1 + d) g' ∧ g'.length ≤ 53, fun σ' H' hI => ?_, ?_⟩
  rotate_left
  · -- the brought ones
    refine ⟨_, rfl, b, 3, _, rfl, by decide, by decide, by omega, hB7, fun c H8 b8 hB8 c0 c1 => ⟨rfl, _, rfl, ?_⟩⟩
    have kt8 := hB7.kt b8
    have l8 := b8 _ _ nlb l7
    have g8 := g7.by kt8
    have w8 := w7.by kt8
    have b08 := b07.trans b8
    refine ite2 (fun cc => ?_) (fun cc => ?_)
    · refine ⟨_, rfl, _, rfl, (by show 2 ≤ sizeLine; decide), fun T2 hT2 => ⟨(by show 1 ≤ sizeLine; decide), fun p2 hp2 => ?_⟩⟩
      have kT2 := same_new hT2 (o := .tup [.int 0, .int (1 + d)])
      have kp2 := same_new hp2 (o := .lst [.ref T2])
      have k9 := kT2.trans kp2
      refine ⟨_, rfl, p2, _, wv, (0, 1 + d), es, ss, rfl, upd_same, nd_mk (kp2 _ _ upd_same), on, w8.sm k9, by omega, by omega, fun p9 ys9 gs9 H9 k10 _ hp9 hys9 hgl9 hgs9 => ?_⟩
      have k810 := k9.trans k10
      obtain ⟨ga, gxs, rfl, hga, hgxs⟩ := gv_inv (g8.sm k810)
      have lin : ∀ y, y ∈ gs9 → Al y ∧ y.2 ≤ 1 + d := fun y hy => by
        have bl := ((hgs9 y).mp hy).1.und
        exact ⟨bl.al (Al.head n1 n2), bl.within.2⟩
      refine ⟨_, _, g, gs9, rfl, ⟨ga, gxs, rfl, .inr hga, hgxs⟩, ⟨p9, ys9, rfl, .inl hp9, hys9⟩, by omega, fun y hy => (hin y hy).1, fun y hy => (lin y hy).1, fun v' g' H10 k11 hv' hm hl' => ?_⟩
      have k811 := k810.trans k11
      exact ⟨v', g', rfl, b08.trans (smB k811), (hB8.sm k811).mono (by omega), k811 _ _ l8, w8.sm k811, hv', fun y hy => ((hm y).mp hy).elim (hin y) (lin y), hl'⟩
    · exact ⟨gv, g, rfl, b08, hB8.mono (by omega), l8, w8, g8, hin, hgl⟩
  obtain ⟨gv', g', rfl, b8, hB8, l8, w8, g8, hin8, hgl8⟩ := hI
  have tln := tale_len (1 + d)
  have L8 : LawIn H' lt (taleOf (1 + d)) (1 + d) wv gv' es ss g' := ⟨n1, n2, l8, by omega, w8, g8, hes, hss, hel, hsl, hin8, hgl8⟩
  clear hgl hin g7 g6 hg
  -- the marks of the bag, all that is had
  obtain ⟨gp, gxs, rfl, hgp, hgxs⟩ := gv_inv g8
  refine ⟨_, rfl, gp, rfl, ⟨_, SqT.of hgp⟩, fun D4 hD4 => ?_⟩
  refine lc_prs (tale := taleOf (1 + d)) (src_tup hgp) hD4 hgxs (by rw [hgxs.len, List.length_map]; omega) (fun _ => rfl) (fun z x H2 hz hx k2 Q1 q1 => ?_) (fun H11 acc k11 hD11 iA11 => ?_)
  · have ha := hin8 z hz
    refine ⟨_, rfl, _, rfl, _, rfl, lt, taleOf (1 + d), x, z, rfl, k2 _ _ l8, hx, ha.1.toOk, (by have := ha.2; omega), fun v' H3 k3 hv => ⟨(by show 2 ≤ sizeLine; decide), fun T hT => ?_⟩⟩
    exact q1 _ _ (k3.trans (same_new hT)) (.tup upd_same (.cons ((hx.sm k3).sm (same_new hT)) (.cons (hv.sm (same_new hT)) .nil)))
  refine ⟨D4, acc, g', taleOf (1 + d), rfl, hD11, iA11, by omega, fun dk kvs hdk hkv hkl => ?_⟩
  have kdk := same_new hdk (o := .dT kvs)
  have k812 := k11.trans kdk
  have hd12 : (upd H11 dk (.dT kvs)) dk = some (.dT kvs) := upd_same
  have hkv12 := hkv.sm kdk
  generalize upd H11 dk (.dT kvs) = H12 at kdk k812 hd12 hkv12
  refine ⟨_, rfl, _, g', rfl, g8.sm k812, by omega, fun y hy => (hin8 y hy).1.toOk, fun pa ysA gsA H13 k13 _ hpa hysA hlA hgsA => ?_⟩
  refine ⟨_, _, rfl, ?_⟩
  have k813 := k812.trans k13
  refine ⟨_, rfl, _, rfl, 1 + d, rfl, n1, n2, fun pg ysG gsG H14 k14 _ hpg hysG hlG _ hgsG => ?_⟩
  have hpa14 := k14 _ _ hpa
  have hysA14 := hysA.sm k14
  have alG : ∀ y, y ∈ gsG → Al y := fun y hy => ((hgsG y).mp hy).al (Al.head n1 n2)
  refine ⟨_, _, gsA, gsG, rfl, ⟨pa, ysA, rfl, .inl hpa14, hysA14⟩, ⟨pg, ysG, rfl, .inl hpg, hysG⟩, by omega, fun y hy => ((hgsA y).mp hy).1, alG, fun v3 g3 H15 k15 hv3 hm3 hl3 => ?_⟩
  obtain ⟨t3, xs3, rfl, ht3, hxs3⟩ := gv_inv hv3
  have k1215 := k13.trans (k14.trans k15)
  have k815 := k812.trans k1215
  have al3 : ∀ y, y ∈ g3 → Al y := fun y hy => ((hm3 y).mp hy).elim (fun h => ((hgsA y).mp h).1) (alG y)
  have L15 := L8.sm k815
  have hd15 := k1215 _ _ hd12
  have hkv15 := hkv12.sm k1215
  have hpa15 := k15 _ _ hpa14
  have hysA15 := hysA14.sm k15
  refine ⟨t3, rfl, ⟨_, SqT.of ht3⟩, ?_⟩
  refine for_by xs3.length (fun j σ H' => (∃ x1 x2 x3, σ = [some (.ref b), some (.int (0 + ((i : Nat) : Int))), some (.int (1 + d)), some (.ref lt), some (.ref gp), some wv, x1, some (.ref dk), some (.ref pa), x2, x3]) ∧ Same H15 H')
    ⟨⟨_, _, _, rfl⟩, Same.refl H15⟩ (fun j σ H' ⟨_, k⟩ => ⟨(it_tup (k _ _ ht3) j).1, (it_tup (k _ _ ht3) j).2.1⟩) (fun j σ H16 u H17 hj ⟨⟨x1, x2, x3, e⟩, k16⟩ hy => ?_) (fun σ H16 ⟨⟨x1, x2, x3, e⟩, k16⟩ => ?_)
  · subst e
    obtain ⟨eH, hx⟩ := (it_tup (K := K) (k16 _ _ ht3) j).2.2 u H17 hj hy
    subst eH
    obtain ⟨dd, hdd1, hdd2⟩ := hxs3.get hx
    rw [List.getElem?_map] at hdd1
    cases hz : g3[j]? with
    | none => rw [hz] at hdd1; cases hdd1
    | some y =>
      rw [hz] at hdd1
      cases hdd1
      have aly := al3 y (List.mem_of_getElem? hz)
      have oy := aly.toOk
      have oy1 := oy.u
      have hu17 := hdd2.sm k16
      have L17 := L15.sm k16
      obtain ⟨bH, hbH⟩ : ∃ bb : Bool, (bb = true ↔ Had (Gn g') y) := by
        by_cases h : Had (Gn g') y
        · exact ⟨true, fun _ => h, fun _ => rfl⟩
        · exact ⟨false, fun z => Bool.noConfusion z, fun z => absurd z h⟩
      have m1 : decide (y ∈ gsA) = bH := by
        have : y ∈ gsA ↔ bH = true := by rw [hgsA y, hbH]; exact ⟨fun z => z.2, fun z => ⟨aly, z⟩⟩
        cases bH with
        | true => exact decide_eq_true (this.mpr rfl)
        | false => exact decide_eq_false fun z => Bool.noConfusion (this.mp z)
      have m2 : PyData.eqv (.list (fo (taleOf (1 + d)) (Gn g') y)) (.list []) = !bH := by
        have := fo_nil (taleOf (1 + d)) (Gn g') y
        rw [← hbH] at this
        cases bH with
        | true => exact Bool.eq_false_iff.mpr fun z => this.mp z rfl
        | false => exact this.mpr (fun z => Bool.noConfusion z)
      have y2n : y.2 ≤ 1 + d := by
        rcases (hm3 y).mp (List.mem_of_getElem? hz) with h | h
        · obtain ⟨y', hy', e'⟩ := ((hgsA y).mp h).2.ends
          have := (hin8 y' hy').2
          omega
        · exact ((hgsG y).mp h).within.2
      refine ⟨_, rfl, _, rfl, dk, kvs, taleOf (1 + d), Gn g', u, y, rfl, k16 _ _ hd15, hkv15.sm k16, hu17, oy, fun rm zs H18 k18 _ hrm hzs => ?_⟩
      have k1518 := k16.trans k18
      refine ⟨_, rfl, _, rfl, isin_nodes (n := y) (hu17.sm k18) (k1518 _ _ hpa15) (hysA15.sm k1518) ⟨_, rfl, (by show 0 ≤ sizeLine; decide), fun p19 hp19 => ?_⟩⟩
      have kp19 := same_new hp19 (o := .lst [])
      refine ne_lists (kp19 _ _ hrm) (hzs.sm kp19) upd_same .nil (fo_plain _ _ oy) (fo_depth' _ _ oy) rfl (by decide) ⟨rfl, _, rfl, ?_⟩
      rw [m1, m2, Bool.not_not, decide_eq_true rfl]
      refine iteF ?_
      have k1519 := k1518.trans kp19
      have hrm19 := kp19 _ _ hrm
      have hzs19 := hzs.sm kp19
      generalize upd H18 p19 (.lst []) = H19 at kp19 k1519 hrm19 hzs19
      -- the mark is what it is
      refine ⟨_, rfl, (by show 0 ≤ sizeLine; decide), fun p20 hp20 => ?_⟩
      have kp20 := same_new hp20 (o := .lst [])
      refine ⟨_, rfl, _, rfl, lt, taleOf (1 + d), u, y, rfl, (k1519.trans kp20) _ _ L15.ta, hdd2.sm (k1519.trans kp20), oy, by omega, fun v' H21 k21 hv' => ⟨(by show 1 ≤ sizeLine; decide), fun p22 hp22 => ⟨(by show 2 ≤ sizeLine; decide), fun T23 hT23 => ?_⟩⟩⟩
      have kp22 := same_new hp22 (o := .lst [v'])
      have kT23 := same_new hT23 (o := .tup [.ref p20, .ref p22])
      have k2023 := k21.trans (kp22.trans kT23)
      have k1923 := kp20.trans k2023
      refine ⟨.list (fo (taleOf (1 + d)) (Gn g') y), [.list [], .list [valD (taleOf (1 + d)) y]], .lst (SqL.of (k1923 _ _ hrm19)) (ImAll.dp _ _ (hzs19.sm k1923)), .tup (SqT.of upd_same) (.cons (.lst (SqL.of (k2023 _ _ upd_same)) .nil) (.cons (.lst (SqL.of (kT23 _ _ upd_same)) (.cons (Im.dp _ _ (hv'.sm (kp22.trans kT23))) .nil)) .nil)),
        shaped_of (by simp only [plainD]; exact fo_plain _ _ oy) (by have := fo_depth (taleOf (1 + d)) (Gn g') oy; simp only [PyData.depth]; omega), shaped_of (by simp only [plainD, plainDs, val_plain (taleOf (1 + d)) y oy.l, Bool.and_self]) (by have := val_dep (tale := taleOf (1 + d)) oy; simp only [PyData.depth, PyData.depthAll]; omega), _, rfl, ?_⟩
      rw [any_fo oy]
      refine iteF ?_
      have k1523 := k1519.trans k1923
      have hrm23 := k1923 _ _ hrm19
      have hzs23 := hzs19.sm k1923
      generalize upd (upd H21 p22 (.lst [v'])) T23 (.tup [.ref p20, .ref p22]) = H23 at k1523 hrm23 hzs23
      have L23 := L15.sm k1523
      -- the paper
      refine ⟨fun σ' H' => ∃ lv, σ' = [some (.ref b), some (.int (0 + ((i : Nat) : Int))), some (.int (1 + d)), some (.ref lt), some (.ref gp), some wv, some u, some (.ref dk), some (.ref pa), some (.ref rm), some lv] ∧ Same H23 H' ∧ decide (lv = V.non) = !bH, fun σ' H24 hI => ?_, ?_⟩
      rotate_left
      · refine ⟨_, rfl, _, rfl, .ref gp, u, g', y, rfl, L23.gi, by omega, hdd2.sm k1523, oy, fun nh H' k => ⟨_, rfl, k, ?_⟩, fun hh r ys H' k hr hl => ⟨_, rfl, k, ?_⟩⟩
        · have : bH = false := Bool.eq_false_iff.mpr fun z => nh (hbH.mp z)
          rw [this]; rfl
        · rw [hbH.mpr hh]; rfl
      obtain ⟨lv, rfl, k24, hlv⟩ := hI
      refine ⟨_, rfl, rfl, _, rfl, (by show 0 ≤ sizeLine; decide), fun p25 hp25 => ?_⟩
      have kp25 := same_new hp25 (o := .lst [])
      refine eq_lists ((k24.trans kp25) _ _ hrm23) (hzs23.sm (k24.trans kp25)) upd_same .nil (fo_plain _ _ oy) (fo_depth' _ _ oy) rfl (by decide) ⟨rfl, _, rfl, ?_⟩
      rw [m2, hlv, decide_eq_true rfl]
      refine iteF ?_
      have k1525 := k1523.trans (k24.trans kp25)
      refine ⟨_, rfl, _, rfl, .ref gp, u, g', y, rfl, L15.gi.sm k1525, by omega, hdd2.sm k1525, oy, fun bb H26 k26 hbb => ⟨_, rfl, _, rfl, isin_nodes (n := y) (hdd2.sm (k1525.trans k26)) ((k1525.trans k26) _ _ hpa15) (hysA15.sm (k1525.trans k26)) ⟨rfl, _, rfl, ?_⟩⟩⟩
      have ebb : bb = bH := Bool.eq_iff_iff.mpr (hbb.trans hbH.symm)
      rw [m1, ebb, decide_eq_true rfl]
      exact iteF ⟨⟨_, _, _, rfl⟩, k1525.trans k26⟩
  subst e
  have k816 := k815.trans k16
  have L16 := L8.sm k816
  -- what is asked for
  refine ⟨_, rfl, _, rfl, _, rfl, 1 + d, wv, .ref gp, es, ss, g', rfl, n1, n2, L16.wi, by omega, by omega, L16.gi, by omega, fun sb H17 k17 hsb => ⟨sb, rfl, ?_⟩⟩
  have L17 := L16.sm k17
  cases sb with
  | true =>
    have hall := hsb.mp rfl
    refine iteT ⟨_, rfl, _, rfl, _, rfl, 1 + d, wv, .ref gp, es, ss, g', rfl, n1, n2, L17.wi, by omega, by omega, L17.gi, by omega, fun p18 ys18 gs18 H18 k18 _ hp18 hys18 _ hgs18 => ⟨(by show 0 ≤ sizeLine; decide), fun p19 hp19 => ?_⟩⟩
    have kp19 := same_new hp19 (o := .lst [])
    have enil : gs18 = [] := List.eq_nil_iff_forall_not_mem.mpr fun y hy => ((hgs18 y).mp hy).2 (hall y ((hgs18 y).mp hy).1)
    subst enil
    refine ne_nil (ds := List.map ndP []) (kp19 _ _ hp18) (ImAll.dp _ _ (hys18.sm kp19)) upd_same rfl (by decide) ⟨_, rfl, ?_⟩
    refine iteF ?_
    have k1719 := k18.trans kp19
    refine ⟨_, rfl, _, rfl, _, rfl, _, rfl, lt, taleOf (1 + d), 1 + d, wv, .ref gp, es, ss, g', rfl, L17.sm k1719, hall, fun H20 k20 => ⟨true, rfl, ?_⟩⟩
    have kk := k816.trans (k17.trans (k1719.trans k20))
    exact iteF ⟨⟨_, _, _, _, _, _, _, _, _, _, rfl⟩, b8.trans (smB kk), (hB8.sm kk).mono (by omega)⟩
  | false =>
    have hno : ¬ ∀ y, Asked es ss (1 + d) y → Had (Gn g') y := fun z => Bool.noConfusion (hsb.mpr z)
    refine iteF ⟨_, rfl, _, rfl, _, rfl, 1 + d, wv, .ref gp, es, ss, g', rfl, n1, n2, L17.wi, by omega, by omega, L17.gi, by omega, fun p18 ys18 gs18 H18 k18 _ hp18 hys18 _ hgs18 => ⟨(by show 0 ≤ sizeLine; decide), fun p19 hp19 => ?_⟩⟩
    have kp19 := same_new hp19 (o := .lst [])
    have hne : (List.map ndP gs18).isEmpty = false := by
      cases gs18 with
      | nil => exact absurd (fun y hy => Classical.byContradiction fun hn => absurd ((hgs18 y).mpr ⟨hy, hn⟩) List.not_mem_nil) hno
      | cons y l => rfl
    refine eq_nil (ds := List.map ndP gs18) (kp19 _ _ hp18) (ImAll.dp _ _ (hys18.sm kp19)) upd_same (gv_plain _) (by have := gv_depth gs18; omega) ⟨_, rfl, ?_⟩
    rw [hne]
    refine iteF ?_
    have k1719 := k18.trans kp19
    refine ⟨_, rfl, _, rfl, _, rfl, _, rfl, lt, taleOf (1 + d), 1 + d, wv, .ref gp, es, ss, g', rfl, L17.sm k1719, tale_pos _, fun H20 k20 => ⟨true, rfl, ?_⟩⟩
    have kk := k816.trans (k17.trans (k1719.trans k20))
    exact iteF ⟨⟨_, _, _, _, _, _, _, _, _, _, rfl⟩, b8.trans (smB kk), (hB8.sm kk).mono (by omega)⟩
end
end Mk

set_option Elab.async false
set_option maxRecDepth 100000
set_option maxHeartbeats 4000000
set_option linter.all false
namespace Mk
open PySem PySem.Spec PyProof.Rows L2
section
variable {P : Program} {w : World} {K : PySem.W.Frag} {mg : Str → Option Value} {base : Heap}
/-! ### law -/
abbrev sLaw : Stmt := top 47
abbrev nLaw : List Str := ["_law_script", "_law_cells_here", "_law_k"]
theorem scLaw : FnScope nLaw ["_law_script"] (C8.fnScope sLaw) := C8.fnScope_by (by decide +kernel)
def spLaw (K : PySem.W.Frag) : Sp := fun vs H Q _ => ∃ (a : Addr) (ns : List Int), vs = [.ref a] ∧ SqL K H a (ns.map V.int) ∧ ns.length ≤ 63 ∧ ∀ H', Q (.bl true) H'
theorem ok_law {f : Addr} {fd : FuncData} (F : C8.Fun K "law" "law" sLaw f fd) (B : Bt mg) (cC : C8.Cal P w K mg base 1 "_law_cells" (spCells K) []) (cX : C8.Cal P w K mg base 1 "_law_box" spBox []) (cR : C8.Cal P w K mg base 15 "_law_right" spRt []) : FnOk P w K mg base C8.CX0 16 f fd ["_law_script"] (spLaw K) := by
  refine C8.fn0 F scLaw (fun vs H Q E h => ?_) (fun cdv A outer s H vs Q E hr h => ?_)
  · obtain ⟨a, ns, rfl, _⟩ := h
    rfl
  obtain ⟨a, ns, rfl, hS, hl, q⟩ := h
  refine ⟨_, pss_cons (ps_set (i := 1) scLaw.nd rfl (Or.inr rfl) (C8.pe_c cC hr (by decide) rfl (pa_cons (pv 0) (pa_cons pe_int pa_nil))))
    (pss_one (ps_ret (pe_callB (cr_all rfl) (by rfl) B.all (by decide +kernel) (pa_cons (pe_lc (own := [("_law_k", 2)]) (g := gName 2) (tt := tYes) (te := tCall spRt [] C8.E0 (tCons (tCall spBox [] C8.E0 (tCons (tVar 1) (tCons (tVar 2) tNil))) tNil)) rfl scLaw.nd
      (pi_range1 (by rfl) B.range (pa_cons (pe_callB call_len_seq (by rfl) B.len PySem.boot_len (pa_cons (pv 1) pa_nil)) pa_nil)) (blkOk_by (N := nLaw) (sc := C8.fnScope sLaw) (by decide +kernel)) (fun _ _ _ _ _ => pg_name (i := 2) scLaw.nd rfl (Or.inl rfl)) (fun _ _ _ _ _ => pts_nil)
      (fun _ _ _ _ _ => C8.pe_c cR hr (by decide) rfl (pa_cons (C8.pe_c cX hr (by decide) rfl (pa_cons (pv 1) (pa_cons (pv 2) pa_nil))) pa_nil))) pa_nil)))), ?_⟩
  refine ⟨_, rfl, a, ns, rfl, hS, hl, fun p cs H1 k1 _ hp c1 c2 => ?_⟩
  have hcl : (cs.map V.int).length = cs.length := List.length_map _
  refine ⟨_, rfl, p, _, rfl, .inl (SqL.of hp), _, rfl, by omega, by omega, fun D1 hD1 => ?_⟩
  have en : (((cs.map V.int).length : Nat) : Int).toNat = cs.length := by omega
  refine lc_bl src_rng hD1 (by rw [List.length_map, List.length_range]; omega) (fun i b => b = true) (fun i u H2 hu k2 Q1 Q0 q1 => ?_) (fun H2 bs k2 hb2 hl2 hP2 => ?_)
  · have hi : i < cs.length := by
      have h := (List.getElem?_eq_some_iff.mp hu).1
      rw [List.length_map, List.length_range] at h
      omega
    rw [List.getElem?_map, List.getElem?_range (by omega)] at hu
    cases hu
    refine ⟨rfl, _, rfl, _, rfl, p, cs, i, (by show [V.ref p, V.int (0 + ((i : Nat) : Int))] = _; rw [Int.zero_add]), k2 _ _ hp, hi, by omega, fun b H3 k3 hb hB => ⟨b, 0, rfl, by decide, hB, fun H4 k4 => ?_⟩⟩
    exact q1 true H4 (sameB_fresh k3 k4 hb) rfl
  · have hbs : bs.all id = true := List.all_eq_true.mpr fun x hx => by
      obtain ⟨i, hi⟩ := List.getElem?_of_mem hx
      exact hP2 i x hi
    refine ⟨D1, bs, rfl, SqL.of hb2, ?_⟩
    rw [hbs]
    exact q H2
end
end Mk

set_option Elab.async false
set_option maxRecDepth 100000
set_option maxHeartbeats 4000000
set_option linter.all false
namespace Mk
open PySem PySem.Spec PyProof.Rows L2
/-- every def that the law reaches -/
structure Ds (K : PySem.W.Frag) (mg : Str → Option Value) : Prop where
  d0 : DD K mg "tupled" sTup
  d1 : DD K mg "is_tuple" sIsT
  d2 : DD K mg "is_number" sIsN
  d3 : DD K mg "power_from" sPow
  d4 : DD K mg "size_of" sSize
  d5 : DD K mg "is_node" sIsNd
  d6 : DD K mg "entry_node" sEnt
  d7 : DD K mg "has_entry" sHasE
  d8 : DD K mg "parts_of" sParts
  d9 : DD K mg "way_down" sWay
  d10 : DD K mg "has" sHas
  d11 : DD K mg "is_had" sIsHad
  d12 : DD K mg "all_had" sAll
  d13 : DD K mg "paper_of" sPaper
  d14 : DD K mg "open_entries" sOpen
  d15 : DD K mg "is_cut" sCut
  d16 : DD K mg "divided" sDiv
  d17 : DD K mg "asked_from" sAskF
  d18 : DD K mg "heads" sHeads
  d19 : DD K mg "asked_for" sAskd
  d20 : DD K mg "missing_nodes" sMiss
  d21 : DD K mg "shows" sShows
  d22 : DD K mg "_law_box" sBox
  d23 : DD K mg "_law_take" sTake
  d24 : DD K mg "_law_cells" sCells
  d25 : DD K mg "_law_of" sOf
  d26 : DD K mg "_law_halves" sHalves
  d27 : DD K mg "_law_under" sUnder
  d28 : DD K mg "_law_grown" sGrown
  d29 : DD K mg "_law_split" sSplit
  d30 : DD K mg "_law_wanted" sWanted
  d31 : DD K mg "_law_want" sWant
  d32 : DD K mg "_law_bag" sBag
  d33 : DD K mg "_law_value" sVal
  d34 : DD K mg "_law_folded" sFold
  d35 : DD K mg "_law_put" sPut
  d36 : DD K mg "_law_heads_right" sHR
  d37 : DD K mg "_law_other_right" sOR
  d38 : DD K mg "_law_right" sRt
  d39 : DD K mg "law" sLaw
section
variable {P : Program} {w : World} {K : PySem.W.Frag} {mg : Str → Option Value} {base : Heap}
theorem dd_mk {h : Heap} (X : K.In h) (G : h.Ns mainGlobals mg) {x : Str} {st : Stmt} {f : Addr} {oc : Value} {od an : Option Addr} {kV dc pm cd ct : Value} {sl : Array (Option Value)} (a : PySem.W.nsIn K mainGlobals x = some (some (.ref f)))
    (l : K.lookup f = some ⟨oc, od, .func (PySem.W.fnOf x x (C8.fnArgs st) (C8.fnBody st) (C8.fnScope st) .none kV dc pm an cd ct), sl⟩) (c : PySem.W.codeIn K cd x = true) (k : PySem.W.keepIn K (.ref f) = true) : DD K mg x st :=
  ⟨f, _, ⟨⟨oc, od, .none, kV, dc, pm, an, cd, ct, sl, rfl, l, c⟩, PySem.W.mg_of X G a, k⟩, rfl⟩
theorem pair_mk {h : Heap} (X : K.In h) (G : h.Ns mainGlobals mg) {v : Value} (a : PySem.W.nsIn K mainGlobals "PAIR" = some (some v)) (e : ∃ t, v = .int 2 t) : ∃ t, mg "PAIR" = some (.int 2 t) := by
  obtain ⟨t, rfl⟩ := e
  exact ⟨t, PySem.W.mg_of X G a⟩
theorem law_ok {f : Addr} {fd : FuncData} (D : Ds K mg) (B : Bt mg) (hP : ∃ t, mg "PAIR" = some (.int 2 t)) (F : C8.Fun K "law" "law" sLaw f fd) : FnOk P w K mg base C8.CX0 16 f fd ["_law_script"] (spLaw K) := by
  have tup := ok_tup (P := P) (w := w) (base := base) B D.d0 3
  have isT := ok_isT (P := P) (w := w) (base := base) B D.d1
  have isN := ok_isN (P := P) (w := w) (base := base) B D.d2
  have pow := ok_pow (P := P) (w := w) (base := base) D.d3
  have size := ok_size (P := P) (w := w) (base := base) D.d4
  have isNd := ok_isNd (P := P) (w := w) (base := base) D.d5 hP isT isN pow size
  have ent := ok_ent (P := P) (w := w) (base := base) D.d6
  have hasE := ok_hasE (P := P) (w := w) (base := base) D.d7
  have parts := ok_parts (P := P) (w := w) (base := base) D.d8 pow
  have way := ok_way (P := P) (w := w) (base := base) D.d9 tup hasE size parts
  have has := ok_hasA (ok_has (P := P) (w := w) (base := base) B D.d10 size parts)
  have isHad := ok_isHad (P := P) (w := w) (base := base) D.d11 tup has
  have all := ok_all (P := P) (w := w) (base := base) D.d12 B tup has isNd
  have paper := ok_paperA (ok_paper (P := P) (w := w) (base := base) D.d13 B tup has parts)
  have opn := ok_open (P := P) (w := w) (base := base) D.d14 B tup way
  have cut := ok_cut (P := P) (w := w) (base := base) D.d15 B hasE
  have div := ok_div (P := P) (w := w) (base := base) D.d16 B cut parts
  have askF := ok_askF (P := P) (w := w) (base := base) D.d17 ent div
  have heads := ok_heads (P := P) (w := w) (base := base) D.d18
  have askd := ok_askd (P := P) (w := w) (base := base) D.d19 tup heads askF
  have miss := ok_miss (P := P) (w := w) (base := base) D.d20 tup askd has
  have shows := ok_shows (P := P) (w := w) (base := base) D.d21 B miss
  have box := ok_box (P := P) (w := w) (base := base) D.d22 B
  have take := ok_take (P := P) (w := w) (base := base) D.d23 B
  have cells := ok_cells (P := P) (w := w) (base := base) D.d24 B
  have lof := ok_of (P := P) (w := w) (base := base) D.d25 B take
  have halves := ok_halves (P := P) (w := w) (base := base) D.d26
  have under := ok_under (P := P) (w := w) (base := base) D.d27 B halves
  have grown := ok_grown (P := P) (w := w) (base := base) D.d28 under
  have split := ok_split (P := P) (w := w) (base := base) D.d29 B halves
  have wanted := ok_wanted (P := P) (w := w) (base := base) D.d30 split
  have want := ok_want (P := P) (w := w) (base := base) D.d31 B take lof
  have bag := ok_bag (P := P) (w := w) (base := base) D.d32 B take lof grown
  have val := ok_valA (ok_val (P := P) (w := w) (base := base) D.d33 halves)
  have fold := ok_foldA (ok_fold (P := P) (w := w) (base := base) D.d34 halves)
  have put := ok_put (P := P) (w := w) (base := base) D.d35 B
  have hright := ok_HR (P := P) (w := w) (base := base) D.d36 B askd val fold split
  have oright := ok_OR (P := P) (w := w) (base := base) D.d37 B miss opn under val
  have right := ok_right (P := P) (w := w) (base := base) D.d38 B take bag want put wanted val all grown fold paper isHad shows miss hright oright
  exact ok_law F B cells box right
theorem law_end {h : Heap} {fa : Addr} (l : Program) (X : K.In h) (G : h.Ns mainGlobals mg) (hfa : mg "law" = some (.ref fa)) (D : Ds K mg) (B : Bt mg) (hP : ∃ t, mg "PAIR" = some (.int 2 t)) :
    ∃ fd : FuncData, (∀ (s : Shared) (v : Value), BindsTo s fd ⟨[v], []⟩ [("_law_script", v)]) ∧ ∀ base : Heap, K.In base → base.Ns mainGlobals mg → FnOk l w K mg base C8.CX0 16 fa fd ["_law_script"] (spLaw K) := by
  obtain ⟨f, fd, F, df⟩ := D.d39
  have e := hfa.symm.trans F.mgf
  cases e
  refine ⟨fd, ?_, fun base _ _ => law_ok D B hP F.fn⟩
  obtain ⟨oc, od, dV, kV, doc, pm, an, cdv, ct, osl, rfl, lk, hcd⟩ := F.fn.ex
  have e : dV = .none := df
  subst e
  exact fun s v => .of_eq rfl
theorem walk {l : PySem.W.OpenLaw} {q : Program} {loose : List Str} {XP : (Str → Option Value) → Heap → Prop} {YP : World → Heap → Prop} {d : DefRec} {K : Params → PySem.W.Frag} (hn : l.most = some 63) (hdf : d.params.defaults = [])
    (hY : ∀ (w : World) (h : Heap), YP w h → (K w.params).In h)
    (F : ∀ (w : World) (mg : Str → Option Value) (fa : Addr) (h : Heap), (K w.params).In h → h.Ns mainGlobals mg → mg d.name = some (.ref fa) →
      ∃ fd : FuncData, (∀ (s : Shared) (u : Value), BindsTo s fd ⟨[u], []⟩ [("_law_script", u)]) ∧ ∀ base : Heap, (K w.params).In base → base.Ns mainGlobals mg → FnOk l.prog w (K w.params) mg base C8.CX0 16 fa fd ["_law_script"] (spLaw (K w.params))) :
    PySem.W.WalkO q loose XP YP l.row.toRowW d [] (fun f vs => PySem.call f vs) :=
  L2.walk_of (n := 63) (k := 16) (x := "_law_script") (CX := fun _ => C8.CX0) (sp := fun w => spLaw (K w.params)) hn (by decide) hdf ⟨rfl, by decide, by decide⟩ hY F (fun _ _ a ns hl _ hS => ⟨a, ns, rfl, hS, hl, fun _ => rfl⟩) fun _ _ _ _ _ z => z
end
end Mk

set_option Elab.async false
open PySem PySem.W PyProof.Rows
set_option maxRecDepth 100000 in
set_option maxHeartbeats 0 in
theorem PySem.Challenge.cw_markgaps_k81_whole_marks_as_nested_pairs_holds : PySem.Challenge.rw_markgaps_k81_whole_marks_as_nested_pairs.Holds := by
  w_on; o_law; k_head; (case hw => w_witness2)
  k_fill
  refine Mk.walk (l := PySem.Challenge.rw_markgaps_k81_whole_marks_as_nested_pairs) rfl rfl (fun w h Y => PySem.W.kIn_of Y) ?F
  case F =>
    intro w mg fa h KX G hmg
    refine Mk.law_end _ KX G hmg ?D ?B ?P
    case P =>
      refine' Mk.pair_mk KX G ?pa ?pe
      (case pa => k_is)
      (case pe => exact ⟨_, rfl⟩)
    case B =>
      refine ⟨PySem.W.mg_none_of KX G ?b0, PySem.W.mg_none_of KX G ?b1, PySem.W.mg_none_of KX G ?b2, PySem.W.mg_none_of KX G ?b3, PySem.W.mg_none_of KX G ?b4, PySem.W.mg_none_of KX G ?b5, PySem.W.mg_none_of KX G ?b6, PySem.W.mg_none_of KX G ?b7, PySem.W.mg_none_of KX G ?b8, PySem.W.mg_none_of KX G ?b9, PySem.W.mg_none_of KX G ?b10, PySem.W.mg_none_of KX G ?b11, PySem.W.mg_none_of KX G ?b12, PySem.W.mg_none_of KX G ?b13⟩
      (case b0 => k_is)
      (case b1 => k_is)
      (case b2 => k_is)
      (case b3 => k_is)
      (case b4 => k_is)
      (case b5 => k_is)
      (case b6 => k_is)
      (case b7 => k_is)
      (case b8 => k_is)
      (case b9 => k_is)
      (case b10 => k_is)
      (case b11 => k_is)
      (case b12 => k_is)
      (case b13 => k_is)
    case D =>
      refine ⟨?e0, ?e1, ?e2, ?e3, ?e4, ?e5, ?e6, ?e7, ?e8, ?e9, ?e10, ?e11, ?e12, ?e13, ?e14, ?e15, ?e16, ?e17, ?e18, ?e19, ?e20, ?e21, ?e22, ?e23, ?e24, ?e25, ?e26, ?e27, ?e28, ?e29, ?e30, ?e31, ?e32, ?e33, ?e34, ?e35, ?e36, ?e37, ?e38, ?e39⟩
      case e0 =>
        refine' Mk.dd_mk KX G ?a0 ?l0 ?c0 ?k0
        (case a0 => k_is); (case l0 => k_is); (case c0 => k_is); (case k0 => k_is)
      case e1 =>
        refine' Mk.dd_mk KX G ?a1 ?l1 ?c1 ?k1
        (case a1 => k_is); (case l1 => k_is); (case c1 => k_is); (case k1 => k_is)
      case e2 =>
        refine' Mk.dd_mk KX G ?a2 ?l2 ?c2 ?k2
        (case a2 => k_is); (case l2 => k_is); (case c2 => k_is); (case k2 => k_is)
      case e3 =>
        refine' Mk.dd_mk KX G ?a3 ?l3 ?c3 ?k3
        (case a3 => k_is); (case l3 => k_is); (case c3 => k_is); (case k3 => k_is)
      case e4 =>
        refine' Mk.dd_mk KX G ?a4 ?l4 ?c4 ?k4
        (case a4 => k_is); (case l4 => k_is); (case c4 => k_is); (case k4 => k_is)
      case e5 =>
        refine' Mk.dd_mk KX G ?a5 ?l5 ?c5 ?k5
        (case a5 => k_is); (case l5 => k_is); (case c5 => k_is); (case k5 => k_is)
      case e6 =>
        refine' Mk.dd_mk KX G ?a6 ?l6 ?c6 ?k6
        (case a6 => k_is); (case l6 => k_is); (case c6 => k_is); (case k6 => k_is)
      case e7 =>
        refine' Mk.dd_mk KX G ?a7 ?l7 ?c7 ?k7
        (case a7 => k_is); (case l7 => k_is); (case c7 => k_is); (case k7 => k_is)
      case e8 =>
        refine' Mk.dd_mk KX G ?a8 ?l8 ?c8 ?k8
        (case a8 => k_is); (case l8 => k_is); (case c8 => k_is); (case k8 => k_is)
      case e9 =>
        refine' Mk.dd_mk KX G ?a9 ?l9 ?c9 ?k9
        (case a9 => k_is); (case l9 => k_is); (case c9 => k_is); (case k9 => k_is)
      case e10 =>
        refine' Mk.dd_mk KX G ?a10 ?l10 ?c10 ?k10
        (case a10 => k_is); (case l10 => k_is); (case c10 => k_is); (case k10 => k_is)
      case e11 =>
        refine' Mk.dd_mk KX G ?a11 ?l11 ?c11 ?k11
        (case a11 => k_is); (case l11 => k_is); (case c11 => k_is); (case k11 => k_is)
      case e12 =>
        refine' Mk.dd_mk KX G ?a12 ?l12 ?c12 ?k12
        (case a12 => k_is); (case l12 => k_is); (case c12 => k_is); (case k12 => k_is)
      case e13 =>
        refine' Mk.dd_mk KX G ?a13 ?l13 ?c13 ?k13
        (case a13 => k_is); (case l13 => k_is); (case c13 => k_is); (case k13 => k_is)
      case e14 =>
        refine' Mk.dd_mk KX G ?a14 ?l14 ?c14 ?k14
        (case a14 => k_is); (case l14 => k_is); (case c14 => k_is); (case k14 => k_is)
      case e15 =>
        refine' Mk.dd_mk KX G ?a15 ?l15 ?c15 ?k15
        (case a15 => k_is); (case l15 => k_is); (case c15 => k_is); (case k15 => k_is)
      case e16 =>
        refine' Mk.dd_mk KX G ?a16 ?l16 ?c16 ?k16
        (case a16 => k_is); (case l16 => k_is); (case c16 => k_is); (case k16 => k_is)
      case e17 =>
        refine' Mk.dd_mk KX G ?a17 ?l17 ?c17 ?k17
        (case a17 => k_is); (case l17 => k_is); (case c17 => k_is); (case k17 => k_is)
      case e18 =>
        refine' Mk.dd_mk KX G ?a18 ?l18 ?c18 ?k18
        (case a18 => k_is); (case l18 => k_is); (case c18 => k_is); (case k18 => k_is)
      case e19 =>
        refine' Mk.dd_mk KX G ?a19 ?l19 ?c19 ?k19
        (case a19 => k_is); (case l19 => k_is); (case c19 => k_is); (case k19 => k_is)
      case e20 =>
        refine' Mk.dd_mk KX G ?a20 ?l20 ?c20 ?k20
        (case a20 => k_is); (case l20 => k_is); (case c20 => k_is); (case k20 => k_is)
      case e21 =>
        refine' Mk.dd_mk KX G ?a21 ?l21 ?c21 ?k21
        (case a21 => k_is); (case l21 => k_is); (case c21 => k_is); (case k21 => k_is)
      case e22 =>
        refine' Mk.dd_mk KX G ?a22 ?l22 ?c22 ?k22
        (case a22 => k_is); (case l22 => k_is); (case c22 => k_is); (case k22 => k_is)
      case e23 =>
        refine' Mk.dd_mk KX G ?a23 ?l23 ?c23 ?k23
        (case a23 => k_is); (case l23 => k_is); (case c23 => k_is); (case k23 => k_is)
      case e24 =>
        refine' Mk.dd_mk KX G ?a24 ?l24 ?c24 ?k24
        (case a24 => k_is); (case l24 => k_is); (case c24 => k_is); (case k24 => k_is)
      case e25 =>
        refine' Mk.dd_mk KX G ?a25 ?l25 ?c25 ?k25
        (case a25 => k_is); (case l25 => k_is); (case c25 => k_is); (case k25 => k_is)
      case e26 =>
        refine' Mk.dd_mk KX G ?a26 ?l26 ?c26 ?k26
        (case a26 => k_is); (case l26 => k_is); (case c26 => k_is); (case k26 => k_is)
      case e27 =>
        refine' Mk.dd_mk KX G ?a27 ?l27 ?c27 ?k27
        (case a27 => k_is); (case l27 => k_is); (case c27 => k_is); (case k27 => k_is)
      case e28 =>
        refine' Mk.dd_mk KX G ?a28 ?l28 ?c28 ?k28
        (case a28 => k_is); (case l28 => k_is); (case c28 => k_is); (case k28 => k_is)
      case e29 =>
        refine' Mk.dd_mk KX G ?a29 ?l29 ?c29 ?k29
        (case a29 => k_is); (case l29 => k_is); (case c29 => k_is); (case k29 => k_is)
      case e30 =>
        refine' Mk.dd_mk KX G ?a30 ?l30 ?c30 ?k30
        (case a30 => k_is); (case l30 => k_is); (case c30 => k_is); (case k30 => k_is)
      case e31 =>
        refine' Mk.dd_mk KX G ?a31 ?l31 ?c31 ?k31
        (case a31 => k_is); (case l31 => k_is); (case c31 => k_is); (case k31 => k_is)
      case e32 =>
        refine' Mk.dd_mk KX G ?a32 ?l32 ?c32 ?k32
        (case a32 => k_is); (case l32 => k_is); (case c32 => k_is); (case k32 => k_is)
      case e33 =>
        refine' Mk.dd_mk KX G ?a33 ?l33 ?c33 ?k33
        (case a33 => k_is); (case l33 => k_is); (case c33 => k_is); (case k33 => k_is)
      case e34 =>
        refine' Mk.dd_mk KX G ?a34 ?l34 ?c34 ?k34
        (case a34 => k_is); (case l34 => k_is); (case c34 => k_is); (case k34 => k_is)
      case e35 =>
        refine' Mk.dd_mk KX G ?a35 ?l35 ?c35 ?k35
        (case a35 => k_is); (case l35 => k_is); (case c35 => k_is); (case k35 => k_is)
      case e36 =>
        refine' Mk.dd_mk KX G ?a36 ?l36 ?c36 ?k36
        (case a36 => k_is); (case l36 => k_is); (case c36 => k_is); (case k36 => k_is)
      case e37 =>
        refine' Mk.dd_mk KX G ?a37 ?l37 ?c37 ?k37
        (case a37 => k_is); (case l37 => k_is); (case c37 => k_is); (case k37 => k_is)
      case e38 =>
        refine' Mk.dd_mk KX G ?a38 ?l38 ?c38 ?k38
        (case a38 => k_is); (case l38 => k_is); (case c38 => k_is); (case k38 => k_is)
      case e39 =>
        refine' Mk.dd_mk KX G ?a39 ?l39 ?c39 ?k39
        (case a39 => k_is); (case l39 => k_is); (case c39 => k_is); (case k39 => k_is)
#print axioms PySem.Challenge.cw_markgaps_k81_whole_marks_as_nested_pairs_holds

