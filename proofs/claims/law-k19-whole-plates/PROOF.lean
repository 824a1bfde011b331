import PyProof.Rows.All
import Wide.All
import OpenK.AllK
import Wide.FinOn
import KE.KStateDown
import Lean
import HandS.Base
import HandS.Call
import HandS.Ends
import HandS.More
import HandS.Words
import HandS.WordsExc
import HandS.Defaults
import HandS.Head0
import HandS.Head1
import HandS.Head2
import HandS.Head3
import HandS.HeadEnd
import HandS.HeadHook1
import HandS.HeadHook2
import PySem.Challenge.RW_plateheaps_k19_whole_plates
import HandS.ForMost
import HandS.Wide
import HandS.Gcd
import HandS.IsInst
import HandS.TupAny
import HandS.Zip
import HandS.Style
import HandS.Star
import HandS.Deep
import HandS.DictComp
import HandS.Conv
import HandS.Keys
import HandS.DictTup
import KE.SortData
set_option Elab.async false
set_option linter.all false
set_option maxRecDepth 100000
set_option maxHeartbeats 0
namespace PH
open PySem PySem.Spec PyProof.Rows L2
def topS (i : Nat) : Stmt := PySem.Challenge.pw_plateheaps_k19_whole_plates.main.body.getD i (.Pass ⟨0, 0, 0, 0⟩)
def dd (x : Str) (i : Nat) : He.DefD := ⟨(x, none), x, x, defArgs (topS i), defBody (topS i), defScope (topS i), [], []⟩
def defPlaces0 : List (Str × Nat) := [("is_number", 8), ("is_row_of_numbers", 9), ("fraction", 10), ("common_of", 11), ("is_less", 12), ("place", 14), ("is_place", 15), ("grid", 16), ("in_order", 17), ("comes_first", 18), ("moved", 19), ("apart", 20), ("scaled", 21), ("turn", 22), ("direction", 24), ("back", 25), ("quarter", 26), ("towards", 27), ("half", 29), ("depth", 30), ("has", 31), ("facing", 32), ("height", 33), ("half_from", 34)]
def defPlaces1 : List (Str × Nat) := [("half_at", 35), ("chain", 37), ("hull", 38), ("is_plate", 39), ("neighbours", 40), ("has_place", 41), ("sides", 42), ("top", 43), ("bottom", 44), ("farthest", 45), ("is_met", 46), ("met_at", 48), ("cut_plate", 49), ("borders", 50), ("meet", 51), ("put", 52), ("mirror", 53), ("led_place", 54), ("led", 55), ("inside", 56), ("_law_open_cells", 58), ("_law_pick", 59), ("_law_common", 60), ("_law_place", 61)]
def defPlaces2 : List (Str × Nat) := [("_law_fraction", 62), ("_law_direction", 63), ("_law_first", 64), ("_law_places", 65), ("_law_step", 66), ("_law_turn", 67), ("_law_chain", 68), ("_law_hull", 69), ("_law_height", 70), ("_law_half", 71), ("_law_middle", 72), ("_law_draw_place", 73), ("_law_draw_pool", 74), ("_law_draw_plate", 75), ("_law_cut_corners", 76), ("_law_great", 77), ("_law_told_right", 78), ("law", 79)]
def defPlaces : List (Str × Nat) := defPlaces0 ++ defPlaces1 ++ defPlaces2
def fn : List He.DefD := defPlaces.map fun p => dd p.1 p.2
def frees : List Str := ["isinstance", "int", "bool", "tuple", "len", "all", "any", "sorted", "zip", "list", "range", "sum", "min", "max", "abs"]
def fa : List He.Fa := defPlaces.map (fun p => He.Fa.glo p.1) ++ frees.map He.Fa.free
abbrev R : PySem.W.OpenRow := PySem.W.OpenLaw.row PySem.Challenge.rw_plateheaps_k19_whole_plates
def gcdB (K : PySem.W.Frag) : Bool := match PySem.W.nsIn K mainGlobals "gcd" with
  | some (some (.builtin x)) => decide (x = "math.gcd")
  | _ => false
def obsP (g : Addr → Option Obj) : Bool × He.AlD := (gcdB (He.frG g (He.asD g 2)), He.obsDG 2 fa fn g)
def hk : PySem.W.Hook where
  α := Bool × He.AlD
  obs := fun s => obsP s.heap.get?
  val := fun _ => (true, He.valD fn)
  says := fun _ h => ∃ K : PySem.W.Frag, K.In h ∧ He.SaysD fa fn K ∧ gcdB K = true
  of := fun _ _ e => ⟨_, He.frG_in, congrArg (fun z : Bool × He.AlD => z.2) e, congrArg (fun z : Bool × He.AlD => z.1) e⟩
  keeps := fun _ _ _ ⟨K, hK, c⟩ k => ⟨K, PySem.W.Frag.In.keeps hK k, c⟩
def ob (s : PySem.W.SharedT) : Bool × He.AlD := obsP (HandSHeadRun.getT s)
theorem ob_eq (s : PySem.W.SharedT) : ob s = hk.obs s.abs := by
  have e : HandSHeadRun.getT s = s.abs.heap.get? := funext (HandSHeadRun.getT_eq s)
  show obsP (HandSHeadRun.getT s) = obsP s.abs.heap.get?
  rw [e]
def loose1 : List Str := ["HeapError", "BadPlace", "BadDirection", "BadHalf", "NoPlaces"]
def loose : List Str := loose1 ++ (defPlaces.map (·.1)).dropLast
end PH

set_option Elab.async false
set_option linter.all false
set_option maxRecDepth 100000
set_option maxHeartbeats 0
namespace PH
open PySem PySem.Spec PyProof.Rows L2
theorem run (w : World) : HandSHeadRun.RunEqI R (PySem.W.view R.prog [0, 79]) hk ob 20000 loose w := by
  delta HandSHeadRun.RunEqI
  kernel_rfl
end PH

namespace Geo
/-! points of the plane, over Rat -/
abbrev P2 := Rat × Rat
def dot (u p : P2) : Rat := u.1 * p.1 + u.2 * p.2
def cr (a b c : P2) : Rat := (b.1 - a.1) * (c.2 - a.2) - (b.2 - a.2) * (c.1 - a.1)
def lt (p q : P2) : Prop := p.1 < q.1 ∨ (p.1 = q.1 ∧ p.2 < q.2)
def le (p q : P2) : Prop := p.1 < q.1 ∨ (p.1 = q.1 ∧ p.2 ≤ q.2)
theorem lt_irrefl (p : P2) : ¬ lt p p := by unfold lt; grind
theorem lt_trans {p q r : P2} : lt p q → lt q r → lt p r := by unfold lt; grind
theorem lt_le {p q : P2} : lt p q → le p q := by unfold lt le; grind
theorem le_refl (p : P2) : le p p := by unfold le; grind
theorem le_lt_trans {p q r : P2} : le p q → lt q r → lt p r := by unfold lt le; grind
theorem lt_le_trans {p q r : P2} : lt p q → le q r → lt p r := by unfold lt le; grind
theorem le_trans {p q r : P2} : le p q → le q r → le p r := by unfold le; grind
theorem ext {p q : P2} (h1 : p.1 = q.1) (h2 : p.2 = q.2) : p = q := Prod.ext h1 h2
theorem le_cases {p q : P2} (h : le p q) : p = q ∨ lt p q := by
  by_cases e : p.1 = q.1 ∧ p.2 = q.2
  · exact .inl (ext e.1 e.2)
  · right; unfold le lt at *; grind
theorem tri (p q : P2) : lt p q ∨ p = q ∨ lt q p := by
  by_cases e : p.1 = q.1 ∧ p.2 = q.2
  · exact .inr (.inl (ext e.1 e.2))
  · unfold lt; grind
theorem le_or_lt (p q : P2) : le p q ∨ lt q p := by unfold le lt; grind
theorem le_antisymm {p q : P2} (h : le p q) (h' : le q p) : p = q := by
  apply ext <;> unfold le at * <;> grind
theorem mul_nn {a b : Rat} (ha : 0 ≤ a) (hb : 0 ≤ b) : 0 ≤ a * b := Rat.mul_nonneg ha hb
theorem mul_ps {a b : Rat} (ha : 0 < a) (hb : 0 < b) : 0 < a * b := Rat.mul_pos ha hb
/-- from a product with a positive factor -/
theorem nn_of_mul {a b : Rat} (ha : 0 < a) (h : 0 ≤ a * b) : 0 ≤ b := by
  by_cases hb : 0 ≤ b
  · exact hb
  · have := mul_ps ha (show 0 < -b by grind)
    grind
/-- vectors that look right or straight up: the turns go on -/
theorem vec_tr {gx gy ex ey fx fy : Rat} (hg : 0 < gx ∨ (gx = 0 ∧ 0 ≤ gy)) (he : 0 < ex ∨ (ex = 0 ∧ 0 < ey)) (hf : 0 < fx ∨ (fx = 0 ∧ 0 ≤ fy))
    (h1 : 0 ≤ gx * ey - gy * ex) (h2 : 0 ≤ ex * fy - ey * fx) : 0 ≤ gx * fy - gy * fx := by
  have i : ex * (gx * fy - gy * fx) = gx * (ex * fy - ey * fx) + fx * (gx * ey - gy * ex) := by grind
  rcases he with he | ⟨he, he2⟩
  · refine nn_of_mul he ?_
    have a := mul_nn (show 0 ≤ gx by grind) h2
    have b := mul_nn (show 0 ≤ fx by grind) h1
    grind
  · subst he
    have z : fx = 0 := by
      rcases hf with hf | hf
      · have := mul_ps he2 hf
        grind
      · exact hf.1
    subst z
    have y : 0 ≤ fy := by grind
    have := mul_nn (show 0 ≤ gx by grind) y
    grind
/-- z ≤ a < b ≤ p: b left of z a, p left of a b; then p is left of z a -/
theorem cr_far {z a b p : P2} (h1 : lt z a) (h2 : lt a b) (h3 : lt b p) (c1 : 0 ≤ cr z a b) (c2 : 0 ≤ cr a b p) : 0 ≤ cr z a p := by
  have h := vec_tr (gx := a.1 - z.1) (gy := a.2 - z.2) (ex := b.1 - a.1) (ey := b.2 - a.2) (fx := p.1 - a.1) (fy := p.2 - a.2)
    (by unfold lt at *; grind) (by unfold lt at *; grind) (by unfold lt at *; grind) (by unfold cr at *; grind) (by unfold cr at *; grind)
  unfold cr at *; grind
/-- popped: t stood between a and p, and p is not left of a t -/
theorem cr_pop {a t p q : P2} (h1 : lt a t) (h3 : lt a p) (hq : le a q) (c1 : ¬ 0 < cr a t p) (c2 : 0 ≤ cr a t q) : 0 ≤ cr a p q := by
  have h := vec_tr (gx := p.1 - a.1) (gy := p.2 - a.2) (ex := t.1 - a.1) (ey := t.2 - a.2) (fx := q.1 - a.1) (fy := q.2 - a.2)
    (by unfold lt at *; grind) (by unfold lt at *; grind) (by unfold le at *; grind) (by unfold cr at *; grind) (by unfold cr at *; grind)
  unfold cr at *; grind
/-- q ≤ b < p, q not right of a b, p left of a b: q is not right of b p -/
theorem cr_back {a b p q : P2} (h1 : lt a b) (h3 : lt b p) (hq : le q b) (c1 : 0 < cr a b p) (c2 : 0 ≤ cr a b q) : 0 ≤ cr b p q := by
  have h := vec_tr (gx := b.1 - q.1) (gy := b.2 - q.2) (ex := b.1 - a.1) (ey := b.2 - a.2) (fx := p.1 - b.1) (fy := p.2 - b.2)
    (by unfold le at *; grind) (by unfold lt at *; grind) (by unfold lt at *; grind) (by unfold cr at *; grind) (by unfold cr at *; grind)
  unfold cr at *; grind
/-- between a and b by the order, and not below a b: not lower than both ends along any direction that looks down -/
theorem dot_seg {a b q u : P2} (h1 : le a q) (h2 : le q b) (c : 0 ≤ cr a b q) (hu : u.2 ≤ 0) : dot u q ≤ dot u a ∨ dot u q ≤ dot u b := by
  by_cases hx : b.1 - a.1 = 0
  · left
    have e : q.1 = a.1 := by unfold le at *; grind
    have y : a.2 ≤ q.2 := by unfold le at *; grind
    have := mul_nn (show 0 ≤ -u.2 by grind) (show 0 ≤ q.2 - a.2 by grind)
    unfold dot; rw [e]; grind
  · have hx : 0 < b.1 - a.1 := by unfold le at *; grind
    have f0 : 0 ≤ q.1 - a.1 := by unfold le at *; grind
    have f1 : 0 ≤ b.1 - q.1 := by unfold le at *; grind
    have k : 0 ≤ (-u.2) * cr a b q := mul_nn (by grind) c
    by_cases hd : dot u b - dot u a ≤ 0
    · left
      have m := mul_nn f0 (show 0 ≤ -(dot u b - dot u a) by grind)
      have : 0 ≤ (b.1 - a.1) * (dot u a - dot u q) := by unfold dot cr at *; grind
      have := nn_of_mul hx this
      grind
    · right
      have m := mul_nn f1 (show 0 ≤ dot u b - dot u a by grind)
      have : 0 ≤ (b.1 - a.1) * (dot u b - dot u q) := by unfold dot cr at *; grind
      have := nn_of_mul hx this
      grind
end Geo

namespace Geo
/-- consecutive pairs of a list -/
def prs {α : Type} : List α → List (α × α)
  | a :: b :: r => (a, b) :: prs (b :: r)
  | _ => []
/-! ### the chain, as a stack (its top first) -/
section
variable {α : Type} (left : α → α → α → Bool)
def popw (p : α) : List α → List α
  | [] => []
  | [b] => [b]
  | b :: a :: s => if left a b p = true then b :: a :: s else popw p (a :: s)
def pushc (st : List α) (p : α) : List α := p :: popw left p st
def stack (l : List α) : List α := l.foldl (pushc left) []
def chain (l : List α) : List α := (stack left l).reverse
end
theorem popw_map {α β : Type} {left : α → α → α → Bool} {left' : β → β → β → Bool} (f : α → β) (h : ∀ a b c, left' (f a) (f b) (f c) = left a b c) (p : α) :
    ∀ s : List α, popw left' (f p) (s.map f) = (popw left p s).map f
  | [] => rfl
  | [b] => rfl
  | b :: a :: s => by
    show (if left' (f a) (f b) (f p) = true then f b :: f a :: s.map f else popw left' (f p) ((a :: s).map f)) = (if left a b p = true then b :: a :: s else popw left p (a :: s)).map f
    rw [h, popw_map f h p (a :: s)]
    split <;> rfl
theorem stack_map {α β : Type} {left : α → α → α → Bool} {left' : β → β → β → Bool} (f : α → β) (h : ∀ a b c, left' (f a) (f b) (f c) = left a b c) :
    ∀ (l : List α) (st : List α), (l.map f).foldl (pushc left') (st.map f) = (l.foldl (pushc left) st).map f
  | [], _ => rfl
  | x :: l, st => by
    show (l.map f).foldl (pushc left') (f x :: popw left' (f x) (st.map f)) = _
    rw [popw_map f h]
    exact stack_map f h l (x :: popw left x st)
theorem chain_map {α β : Type} {left : α → α → α → Bool} {left' : β → β → β → Bool} (f : α → β) (h : ∀ a b c, left' (f a) (f b) (f c) = left a b c) (l : List α) :
    chain left' (l.map f) = (chain left l).map f := by
  unfold chain stack
  have := stack_map (left := left) (left' := left') f h l []
  rw [List.map_nil] at this
  rw [this, List.map_reverse]
/-! ### over the plane -/
def leftQ (a b c : P2) : Bool := decide (0 < cr a b c)
/-- each edge of the stack has no point of Q on its right; three in a row turn left -/
def Good (Q : List P2) : List P2 → Prop
  | b :: a :: s => lt a b ∧ (∀ q ∈ Q, 0 ≤ cr a b q) ∧ (∀ z, s.head? = some z → 0 < cr z a b) ∧ Good Q (a :: s)
  | _ => True
theorem Good.more {Q : List P2} {p : P2} : ∀ {s : List P2} {b a : P2}, Good Q (b :: a :: s) → lt b p → 0 ≤ cr a b p → Good (p :: Q) (b :: a :: s)
  | [], b, a, h, h1, h2 => ⟨h.1, fun q hq => by
      rcases List.mem_cons.mp hq with e | hq
      · rw [e]; exact h2
      · exact h.2.1 q hq, h.2.2.1, trivial⟩
  | z :: s, b, a, h, h1, h2 => ⟨h.1, fun q hq => by
      rcases List.mem_cons.mp hq with e | hq
      · rw [e]; exact h2
      · exact h.2.1 q hq, h.2.2.1, Good.more h.2.2.2 (lt_trans h.1 h1) (cr_far h.2.2.2.1 h.1 h1 (Rat.le_of_lt (h.2.2.1 z rfl)) h2)⟩
theorem Good.mono {Q Q' : List P2} (hs : ∀ q ∈ Q', q ∈ Q) : ∀ {s : List P2}, Good Q s → Good Q' s
  | [], _ => trivial
  | [_], _ => trivial
  | _ :: a :: s, h => ⟨h.1, fun q hq => h.2.1 q (hs q hq), h.2.2.1, Good.mono hs (s := a :: s) h.2.2.2⟩
/-- what holds of the stack while points are taken off ahead of p -/
structure Pop (Q : List P2) (m p : P2) (s : List P2) : Prop where
  good : Good Q s
  ne : s ≠ []
  sub : ∀ v ∈ s, v ∈ Q
  bot : s.getLast? = some m
  top : ∀ b, s.head? = some b → ∀ q ∈ Q, le b q → 0 ≤ cr b p q
theorem pop_ok {Q : List P2} {m p : P2} (hp : ∀ q ∈ Q, lt q p) : ∀ (s : List P2), Pop Q m p s → Pop Q m p (popw leftQ p s) ∧ ∀ b a r, popw leftQ p s = b :: a :: r → 0 < cr a b p
  | [], h => absurd rfl h.ne
  | [b], h => ⟨h, fun _ _ _ e => by cases e⟩
  | b :: a :: s, h => by
    by_cases c : leftQ a b p = true
    · have e : popw leftQ p (b :: a :: s) = b :: a :: s := by
        show (if leftQ a b p = true then _ else _) = _
        rw [if_pos c]
      rw [e]
      exact ⟨h, fun b' a' r e => by
        injection e with e1 e2
        injection e2 with e2 e3
        subst e1 e2
        exact of_decide_eq_true c⟩
    · have e : popw leftQ p (b :: a :: s) = popw leftQ p (a :: s) := by
        show (if leftQ a b p = true then _ else _) = _
        rw [if_neg c]
      rw [e]
      have c' : ¬ 0 < cr a b p := fun z => c (decide_eq_true z)
      refine pop_ok hp (a :: s) ⟨h.good.2.2.2, List.cons_ne_nil _ _, fun v hv => h.sub v (List.mem_cons_of_mem _ hv), by
        have := h.bot
        rwa [List.getLast?_cons_cons] at this, fun b' e' q hq hle => ?_⟩
      obtain rfl : a = b' := Option.some.inj e'
      exact cr_pop h.good.1 (hp a (h.sub a (by simp))) hle c' (h.good.2.1 q hq)
/-- what holds of the whole stack behind the points Q, m the first, t the last -/
structure Stk (Q : List P2) (m t : P2) (s : List P2) : Prop where
  good : Good Q s
  sub : ∀ v ∈ s, v ∈ Q
  bot : s.getLast? = some m
  top : s.head? = some t
theorem push_ok {Q : List P2} {m t p : P2} {s : List P2} (h : Stk Q m t s) (hm : ∀ q ∈ Q, le m q) (ht : ∀ q ∈ Q, le q t) (hp : ∀ q ∈ Q, lt q p) : Stk (p :: Q) m p (pushc leftQ s p) := by
  have hne : s ≠ [] := fun e => by rw [e] at h; cases h.top
  have P0 : Pop Q m p s := ⟨h.good, hne, h.sub, h.bot, fun b e q hq hle => by
    rw [h.top] at e
    obtain rfl : t = b := Option.some.inj e
    have := le_antisymm hle (ht q hq)
    rw [← this]
    unfold cr; grind⟩
  obtain ⟨P, hl⟩ := pop_ok hp s P0
  generalize hs : popw leftQ p s = s' at P hl
  have hpp : ∀ b : P2, cr b p p = 0 := fun b => by unfold cr; grind
  refine ⟨?_, ?_, ?_, rfl⟩
  · unfold pushc
    rw [hs]
    cases s' with
    | nil => trivial
    | cons b s'' =>
      have hb : lt b p := hp b (P.sub b (by simp))
      have newE : ∀ q ∈ Q, 0 ≤ cr b p q := fun q hq => by
        rcases le_or_lt b q with hle | hlt
        · exact P.top b rfl q hq hle
        · cases s'' with
          | nil =>
            have e : m = b := by
              have := P.bot
              simpa using this.symm
            exact absurd (le_lt_trans (hm q hq) hlt) (by rw [e]; exact lt_irrefl b)
          | cons a r => exact cr_back P.good.1 hb (lt_le hlt) (hl b a r rfl) (P.good.2.1 q hq)
      refine ⟨hb, fun q hq => ?_, fun z hz => ?_, ?_⟩
      · rcases List.mem_cons.mp hq with e | hq
        · rw [e, hpp]; exact Rat.le_refl
        · exact newE q hq
      · cases s'' with
        | nil => cases hz
        | cons a r =>
          obtain rfl : a = z := Option.some.inj hz
          exact hl b a r rfl
      · cases s'' with
        | nil => trivial
        | cons a r => exact P.good.more hb (Rat.le_of_lt (hl b a r rfl))
  · intro v hv
    unfold pushc at hv
    rw [hs] at hv
    rcases List.mem_cons.mp hv with e | hv
    · rw [e]; exact List.mem_cons_self
    · exact List.mem_cons_of_mem _ (P.sub v hv)
  · unfold pushc
    rw [hs]
    cases s' with
    | nil => exact absurd rfl P.ne
    | cons b s'' => rw [List.getLast?_cons_cons]; exact P.bot
abbrev Asc (l : List P2) : Prop := l.Pairwise lt
theorem fold_ok {m : P2} : ∀ (l : List P2) (Q s : List P2) (t : P2), Stk Q m t s → (∀ q ∈ Q, le m q) → (∀ q ∈ Q, le q t) → (∀ q ∈ Q, ∀ p ∈ l, lt q p) → Asc l → lt m t ∨ m = t →
    ∃ Q' t', Stk Q' m t' (l.foldl (pushc leftQ) s) ∧ (∀ q, q ∈ Q' ↔ q ∈ Q ∨ q ∈ l) ∧ (∀ q ∈ Q', le m q) ∧ (∀ q ∈ Q', le q t')
  | [], Q, s, t, h, h1, h2, _, _, _ => ⟨Q, t, h, fun q => by simp, h1, h2⟩
  | p :: l, Q, s, t, h, h1, h2, h3, ha, hmt => by
    have htQ : t ∈ Q := h.sub t (List.mem_of_head? h.top)
    have hp : ∀ q ∈ Q, lt q p := fun q hq => h3 q hq p (by simp)
    have S := push_ok h h1 h2 hp
    obtain ⟨ha1, ha2⟩ := List.pairwise_cons.mp ha
    obtain ⟨Q', t', S', e, m', u'⟩ := fold_ok l (p :: Q) _ p S (fun q hq => by
        rcases List.mem_cons.mp hq with z | z
        · rw [z]; exact lt_le (le_lt_trans (h1 t htQ) (hp t htQ))
        · exact h1 q z) (fun q hq => by
        rcases List.mem_cons.mp hq with z | z
        · rw [z]; exact le_refl p
        · exact lt_le (hp q z)) (fun q hq r hr => by
        rcases List.mem_cons.mp hq with z | z
        · rw [z]; exact ha1 r hr
        · exact h3 q z r (List.mem_cons_of_mem _ hr)) ha2 (.inl (le_lt_trans (h1 t htQ) (hp t htQ)))
    refine ⟨Q', t', S', fun q => ?_, m', u'⟩
    rw [e q]
    simp only [List.mem_cons]
    grind
/-- the chain of an ascending list -/
theorem stack_ok {m : P2} {l : List P2} (ha : Asc (m :: l)) : ∃ t, Stk (m :: l) m t (stack leftQ (m :: l)) ∧ (∀ q ∈ m :: l, le m q) ∧ (∀ q ∈ m :: l, le q t) := by
  obtain ⟨ha1, ha2⟩ := List.pairwise_cons.mp ha
  have S0 : Stk [m] m m [m] := ⟨trivial, fun v hv => hv, rfl, rfl⟩
  obtain ⟨Q', t, S, e, h1, h2⟩ := fold_ok l [m] [m] m S0 (fun q hq => by
    rw [List.mem_singleton.mp hq]; exact le_refl m) (fun q hq => by
    rw [List.mem_singleton.mp hq]; exact le_refl m) (fun q hq p hp => by
    rw [List.mem_singleton.mp hq]; exact ha1 p hp) ha2 (.inr rfl)
  have e' : ∀ q, q ∈ Q' ↔ q ∈ m :: l := fun q => by rw [e q]; simp
  refine ⟨t, ⟨S.good.mono fun q hq => (e' q).mpr hq, fun v hv => (e' v).mp (S.sub v hv), S.bot, S.top⟩, fun q hq => h1 q ((e' q).mpr hq), fun q hq => h2 q ((e' q).mpr hq)⟩
end Geo

namespace Geo
/-! ### what the stack's points are -/
/-- v is met alone along u -/
def Expo (S : List P2) (u v : P2) : Prop := v ∈ S ∧ ∀ s ∈ S, s ≠ v → dot u s < dot u v
theorem low_dom {Q : List P2} {m u q : P2} (hm : ∀ q ∈ Q, le m q) (hu : u.2 ≤ 0) (hq : q ∈ Q) :
    ∀ (s : List P2), Good Q s → s.getLast? = some m → (∀ b, s.head? = some b → le q b) → ∃ v ∈ s, dot u q ≤ dot u v
  | [], _, hb, _ => by cases hb
  | [b], _, hb, ht => by
    have e : b = m := by simpa using hb
    subst e
    have := le_antisymm (ht b rfl) (hm q hq)
    exact ⟨b, by simp, by rw [this]; exact Rat.le_refl⟩
  | b :: a :: s, h, hb, ht => by
    rcases le_or_lt a q with hle | hlt
    · rcases dot_seg hle (ht b rfl) (h.2.1 q hq) hu with z | z
      · exact ⟨a, by simp, z⟩
      · exact ⟨b, by simp, z⟩
    · obtain ⟨v, hv, z⟩ := low_dom hm hu hq (a :: s) h.2.2.2 (by rw [List.getLast?_cons_cons] at hb; exact hb) (fun b' e => by
        obtain rfl : a = b' := Option.some.inj e
        exact lt_le hlt)
      exact ⟨v, List.mem_cons_of_mem _ hv, z⟩
/-- the least point is met alone along a steep direction -/
theorem min_expo (m : P2) : ∀ T : List P2, (∀ t ∈ T, le m t) → ∃ N : Rat, 0 < N ∧ ∀ M, N ≤ M → ∀ t ∈ T, t ≠ m → dot (-M, -1) t < dot (-M, -1) m
  | [], _ => ⟨1, by decide, fun _ _ t ht => by cases ht⟩
  | t :: T, h => by
    obtain ⟨N, hN, hT⟩ := min_expo m T (fun x hx => h x (List.mem_cons_of_mem _ hx))
    have ht := h t (by simp)
    by_cases hx : m.1 < t.1
    · have hp : 0 < t.1 - m.1 := by grind
      by_cases hy : 0 ≤ m.2 - t.2
      · have hd : 0 ≤ (m.2 - t.2) / (t.1 - m.1) := by
          rw [Rat.div_def]; exact mul_nn hy (Rat.le_of_lt (Rat.inv_pos.mpr hp))
        refine ⟨N + (m.2 - t.2) / (t.1 - m.1) + 1, by grind, fun M hM x hx' hne => ?_⟩
        rcases List.mem_cons.mp hx' with e | hx'
        · subst e
          have e1 : (m.2 - x.2) / (x.1 - m.1) * (x.1 - m.1) = m.2 - x.2 := Rat.div_mul_cancel (by grind)
          have k : 0 < (M - (m.2 - x.2) / (x.1 - m.1)) * (x.1 - m.1) := mul_ps (by grind) hp
          have k2 : (M - (m.2 - x.2) / (x.1 - m.1)) * (x.1 - m.1) = M * (x.1 - m.1) - (m.2 - x.2) / (x.1 - m.1) * (x.1 - m.1) := by grind
          rw [k2, e1] at k
          show -M * x.1 + -1 * x.2 < -M * m.1 + -1 * m.2
          grind
        · exact hT M (by grind) x hx' hne
      · refine ⟨N + 1, by grind, fun M hM x hx' hne => ?_⟩
        rcases List.mem_cons.mp hx' with e | hx'
        · subst e
          have k : 0 < M * (x.1 - m.1) := mul_ps (by grind) hp
          show -M * x.1 + -1 * x.2 < -M * m.1 + -1 * m.2
          grind
        · exact hT M (by grind) x hx' hne
    · refine ⟨N, hN, fun M hM x hx' hne => ?_⟩
      rcases List.mem_cons.mp hx' with e | hx'
      · subst e
        have e1 : x.1 = m.1 := by unfold le at ht; grind
        have e2 : m.2 < x.2 := by
          rcases le_cases ht with z | z
          · exact absurd z.symm hne
          · unfold lt at z; grind
        show -M * x.1 + -1 * x.2 < -M * m.1 + -1 * m.2
        rw [e1]; grind
      · exact hT M hM x hx' hne
theorem min_expo' {m : P2} {T : List P2} (hm : m ∈ T) (h : ∀ t ∈ T, le m t) : ∃ u : P2, u.2 < 0 ∧ Expo T u m := by
  obtain ⟨N, hN, hT⟩ := min_expo m T h
  exact ⟨(-N, -1), (by decide : (-1 : Rat) < 0), hm, fun s hs hne => hT N Rat.le_refl s hs hne⟩
/-- a corner between two edges is met alone along a direction that looks down -/
theorem corner_expo {S : List P2} {a v b : P2} (hv : v ∈ S) (h1 : lt a v) (h2 : lt v b) (ht : 0 < cr a v b) (e1 : ∀ s ∈ S, 0 ≤ cr a v s) (e2 : ∀ s ∈ S, 0 ≤ cr v b s) : ∃ u : P2, u.2 < 0 ∧ Expo S u v := by
  refine ⟨(b.2 - a.2, a.1 - b.1), ?_, hv, fun s hs hne => ?_⟩
  · show a.1 - b.1 < 0
    by_cases z : a.1 = b.1
    · have x1 : v.1 = a.1 := by unfold lt at *; grind
      have x2 : b.1 = a.1 := z.symm
      unfold cr at ht
      rw [x1, x2] at ht
      grind
    · unfold lt at *; grind
  · have k1 := e1 s hs
    have k2 := e2 s hs
    show (b.2 - a.2) * s.1 + (a.1 - b.1) * s.2 < (b.2 - a.2) * v.1 + (a.1 - b.1) * v.2
    have i : (b.2 - a.2) * s.1 + (a.1 - b.1) * s.2 - ((b.2 - a.2) * v.1 + (a.1 - b.1) * v.2) = -(cr a v s + cr v b s) := by unfold cr; grind
    by_cases z : cr a v s + cr v b s = 0
    · exfalso
      have z1 : cr a v s = 0 := by grind
      have z2 : cr v b s = 0 := by grind
      have i1 : (s.1 - v.1) * cr a v b = (b.1 - v.1) * cr a v s - (v.1 - a.1) * cr v b s := by unfold cr; grind
      have i2 : (s.2 - v.2) * cr a v b = (b.2 - v.2) * cr a v s - (v.2 - a.2) * cr v b s := by unfold cr; grind
      rw [z1, z2] at i1 i2
      have n0 : cr a v b ≠ 0 := by grind
      have s1 : s.1 - v.1 = 0 := by
        have := Rat.mul_eq_zero.mp (show (s.1 - v.1) * cr a v b = 0 by grind)
        grind
      have s2 : s.2 - v.2 = 0 := by
        have := Rat.mul_eq_zero.mp (show (s.2 - v.2) * cr a v b = 0 by grind)
        grind
      exact hne (ext (by grind) (by grind))
    · grind
/-- all points of the stack but its top -/
theorem stack_expo {Q : List P2} {m : P2} (hm : ∀ q ∈ Q, le m q) : ∀ (s : List P2), Good Q s → (∀ v ∈ s, v ∈ Q) → s.getLast? = some m → ∀ v ∈ s, s.head? = some v ∨ ∃ u : P2, u.2 < 0 ∧ Expo Q u v
  | [], _, _, _, v, hv => by cases hv
  | [b], _, _, _, v, hv => .inl (by rw [List.mem_singleton.mp hv]; rfl)
  | b :: a :: s, h, hs, hb, v, hv => by
    rcases List.mem_cons.mp hv with e | hv
    · left; rw [e]; rfl
    · right
      have hb' : (a :: s).getLast? = some m := by rw [List.getLast?_cons_cons] at hb; exact hb
      rcases stack_expo hm (a :: s) h.2.2.2 (fun v hv => hs v (List.mem_cons_of_mem _ hv)) hb' v hv with e | e
      · obtain rfl : a = v := Option.some.inj e
        cases s with
        | nil =>
          have e2 : a = m := by simpa using hb'
          rw [e2]
          exact min_expo' (by rw [← e2]; exact hs a (by simp)) hm
        | cons z r => exact corner_expo (hs a (by simp)) h.2.2.2.1 h.1 (h.2.2.1 z rfl) h.2.2.2.2.1 h.2.1
      · exact e
/-- the chain's points: the last one, and those met alone along a direction that looks down -/
theorem stack_mem {m t : P2} {l : List P2} (hS : Stk l m t (stack leftQ l)) (hm : ∀ q ∈ l, le m q) (ht : ∀ q ∈ l, le q t) (v : P2) : v ∈ stack leftQ l ↔ v = t ∨ ∃ u : P2, u.2 < 0 ∧ Expo l u v := by
  constructor
  · intro hv
    rcases stack_expo hm _ hS.good hS.sub hS.bot v hv with e | e
    · rw [hS.top] at e
      exact .inl (Option.some.inj e).symm
    · exact .inr e
  · rintro (rfl | ⟨u, hu, hv, he⟩)
    · exact List.mem_of_head? hS.top
    · obtain ⟨w, hw, hd⟩ := low_dom hm (Rat.le_of_lt hu) hv _ hS.good hS.bot (fun b e => by
        rw [hS.top] at e
        rw [← Option.some.inj e]
        exact ht v hv)
      by_cases e : w = v
      · rw [← e]; exact hw
      · have := he w (hS.sub w hw) e
        grind
theorem good_desc {Q : List P2} : ∀ (s : List P2), Good Q s → s.Pairwise (fun a b => lt b a)
  | [], _ => .nil
  | [b], _ => List.pairwise_singleton _ _
  | b :: a :: s, h => by
    have ih := good_desc (a :: s) h.2.2.2
    refine List.pairwise_cons.mpr ⟨fun x hx => ?_, ih⟩
    rcases List.mem_cons.mp hx with e | hx
    · rw [e]; exact h.1
    · exact lt_trans ((List.pairwise_cons.mp ih).1 x hx) h.1
/-- two lists in strict order with the same members are one -/
theorem asc_unique {α : Type} {r : α → α → Prop} (ir : ∀ a, ¬ r a a) (tr : ∀ {a b c}, r a b → r b c → r a c) : ∀ {l l' : List α}, l.Pairwise r → l'.Pairwise r → (∀ x, x ∈ l ↔ x ∈ l') → l = l'
  | [], [], _, _, _ => rfl
  | [], b :: l', _, _, h => absurd ((h b).mpr (by simp)) (by simp)
  | a :: l, [], _, _, h => absurd ((h a).mp (by simp)) (by simp)
  | a :: l, b :: l', h1, h2, h => by
    obtain ⟨a1, a2⟩ := List.pairwise_cons.mp h1
    obtain ⟨b1, b2⟩ := List.pairwise_cons.mp h2
    have e : a = b := by
      rcases List.mem_cons.mp ((h a).mp (by simp)) with e | e
      · exact e
      · rcases List.mem_cons.mp ((h b).mpr (by simp)) with e' | e'
        · exact e'.symm
        · exact absurd (tr (a1 b e') (b1 a e)) (ir a)
    subst e
    rw [asc_unique (fun a => ir a) tr a2 b2 fun x => ?_]
    have := h x
    constructor
    · intro hx
      rcases List.mem_cons.mp (this.mp (List.mem_cons_of_mem _ hx)) with e | e
      · subst e; exact absurd (a1 x hx) (ir x)
      · exact e
    · intro hx
      rcases List.mem_cons.mp (this.mpr (List.mem_cons_of_mem _ hx)) with e | e
      · subst e; exact absurd (b1 x hx) (ir x)
      · exact e
/-! ### lists that reach equally far -/
def Far (S T : List P2) : Prop := (∀ u, ∀ s ∈ S, ∃ t ∈ T, dot u s ≤ dot u t) ∧ ∀ u, ∀ t ∈ T, ∃ s ∈ S, dot u t ≤ dot u s
theorem Far.symm {S T : List P2} (h : Far S T) : Far T S := ⟨h.2, h.1⟩
theorem Far.trans {S T U : List P2} (h : Far S T) (k : Far T U) : Far S U := ⟨fun u s hs => by
  obtain ⟨t, ht, a⟩ := h.1 u s hs
  obtain ⟨v, hv, b⟩ := k.1 u t ht
  exact ⟨v, hv, Rat.le_trans a b⟩, fun u s hs => by
  obtain ⟨t, ht, a⟩ := k.2 u s hs
  obtain ⟨v, hv, b⟩ := h.2 u t ht
  exact ⟨v, hv, Rat.le_trans a b⟩⟩
theorem Far.of_mem {S T : List P2} (h : ∀ x, x ∈ S ↔ x ∈ T) : Far S T := ⟨fun _ s hs => ⟨s, (h s).mp hs, Rat.le_refl⟩, fun _ s hs => ⟨s, (h s).mpr hs, Rat.le_refl⟩⟩
/-- a step so small that v stays farthest -/
theorem small_step {u v : P2} (w : P2) : ∀ S : List P2, (∀ s ∈ S, s ≠ v → dot u s < dot u v) → ∃ ε : Rat, 0 < ε ∧ ∀ δ, 0 < δ → δ ≤ ε → ∀ s ∈ S, dot u s + δ * dot w s ≤ dot u v + δ * dot w v
  | [], _ => ⟨1, by decide, fun _ _ _ s hs => by cases hs⟩
  | s :: S, h => by
    obtain ⟨ε, h0, hS⟩ := small_step w S fun x hx => h x (List.mem_cons_of_mem _ hx)
    by_cases e : s = v
    · refine ⟨ε, h0, fun δ d0 d1 x hx => ?_⟩
      rcases List.mem_cons.mp hx with z | hx
      · rw [z, e]; exact Rat.le_refl
      · exact hS δ d0 d1 x hx
    · have hs := h s (by simp) e
      by_cases hw : dot w s - dot w v ≤ 0
      · refine ⟨ε, h0, fun δ d0 d1 x hx => ?_⟩
        rcases List.mem_cons.mp hx with z | hx
        · rw [z]
          have := mul_nn (Rat.le_of_lt d0) (show 0 ≤ -(dot w s - dot w v) by grind)
          grind
        · exact hS δ d0 d1 x hx
      · have hw : 0 < dot w s - dot w v := by grind
        have hq : 0 < (dot u v - dot u s) / (dot w s - dot w v) := by
          rw [Rat.div_def]; exact mul_ps (by grind) (Rat.inv_pos.mpr hw)
        have hmin : ∃ η : Rat, 0 < η ∧ η ≤ ε ∧ η ≤ (dot u v - dot u s) / (dot w s - dot w v) := by
          by_cases c : ε ≤ (dot u v - dot u s) / (dot w s - dot w v)
          · exact ⟨ε, h0, Rat.le_refl, c⟩
          · exact ⟨_, hq, by grind, Rat.le_refl⟩
        obtain ⟨η, n0, n1, n2⟩ := hmin
        refine ⟨η, n0, fun δ d0 d1 x hx => ?_⟩
        rcases List.mem_cons.mp hx with z | hx
        · rw [z]
          have e1 : (dot u v - dot u s) / (dot w s - dot w v) * (dot w s - dot w v) = dot u v - dot u s := Rat.div_mul_cancel (by grind)
          have k := mul_nn (show 0 ≤ (dot u v - dot u s) / (dot w s - dot w v) - δ by grind) (Rat.le_of_lt hw)
          have k2 : ((dot u v - dot u s) / (dot w s - dot w v) - δ) * (dot w s - dot w v) = (dot u v - dot u s) / (dot w s - dot w v) * (dot w s - dot w v) - δ * (dot w s - dot w v) := by grind
          rw [k2, e1] at k
          grind
        · exact hS δ d0 (by grind) x hx
theorem Far.expo {S T : List P2} (h : Far S T) {u v : P2} (hv : Expo S u v) : Expo T u v := by
  have le1 : ∀ t ∈ T, dot u t ≤ dot u v := fun t ht => by
    obtain ⟨s, hs, z⟩ := h.2 u t ht
    by_cases e : s = v
    · rw [← e]; exact z
    · have := hv.2 s hs e; grind
  have eqv : ∀ t ∈ T, dot u t = dot u v → t = v := fun t ht e => by
    have dir : ∀ w : P2, dot w t ≤ dot w v := fun w => by
      obtain ⟨ε, e0, hS⟩ := small_step w S hv.2
      by_cases c : dot w t ≤ dot w v
      · exact c
      · exfalso
        obtain ⟨s, hs, z⟩ := h.2 (u.1 + ε * w.1, u.2 + ε * w.2) t ht
        have a : ∀ p : P2, dot (u.1 + ε * w.1, u.2 + ε * w.2) p = dot u p + ε * dot w p := fun p => by unfold dot; grind
        rw [a, a] at z
        have k := hS ε e0 Rat.le_refl s hs
        have k2 := mul_ps e0 (show 0 < dot w t - dot w v by grind)
        grind
    have a := dir (1, 0)
    have b := dir (-1, 0)
    have c := dir (0, 1)
    have d := dir (0, -1)
    exact ext (by unfold dot at *; grind) (by unfold dot at *; grind)
  have mem : v ∈ T := by
    obtain ⟨t, ht, z⟩ := h.1 u v hv.1
    have := le1 t ht
    rw [← eqv t ht (by grind)]
    exact ht
  exact ⟨mem, fun t ht hne => by
    have := le1 t ht
    by_cases e : dot u t = dot u v
    · exact absurd (eqv t ht e) hne
    · grind⟩
theorem Far.expo_iff {S T : List P2} (h : Far S T) {u v : P2} : Expo S u v ↔ Expo T u v := ⟨h.expo, h.symm.expo⟩
end Geo

namespace Geo
/-! ### consecutive pairs -/
theorem prs_join {α : Type} : ∀ (l : List α) (x : α) (u : List α), prs (l ++ x :: u) = prs (l ++ [x]) ++ prs (x :: u)
  | [], _, _ => rfl
  | [a], x, u => rfl
  | a :: b :: l, x, u => by
    have ih := prs_join (b :: l) x u
    show (a, b) :: prs (b :: l ++ x :: u) = ((a, b) :: prs (b :: l ++ [x])) ++ prs (x :: u)
    rw [ih]; rfl
theorem prs_rev {α : Type} {a b : α} : ∀ l : List α, (a, b) ∈ prs l.reverse ↔ (b, a) ∈ prs l
  | [] => by simp [prs]
  | [x] => by simp [prs]
  | x :: y :: l => by
    have ih := prs_rev (a := a) (b := b) (y :: l)
    have e : (x :: y :: l).reverse = l.reverse ++ y :: [x] := by simp
    rw [e, prs_join]
    have e2 : l.reverse ++ [y] = (y :: l).reverse := by simp
    rw [e2]
    show (a, b) ∈ prs (y :: l).reverse ++ [(y, x)] ↔ (b, a) ∈ (x, y) :: prs (y :: l)
    rw [List.mem_append, ih, List.mem_cons]
    simp only [List.mem_singleton, Prod.mk.injEq]
    grind
theorem prs_map {α β : Type} (f : α → β) : ∀ l : List α, prs (l.map f) = (prs l).map fun p => (f p.1, f p.2)
  | [] => rfl
  | [x] => rfl
  | x :: y :: l => by
    show (f x, f y) :: prs ((y :: l).map f) = (f x, f y) :: (prs (y :: l)).map _
    rw [prs_map f (y :: l)]
theorem prs_mem {α : Type} {p : α × α} : ∀ {l : List α}, p ∈ prs l → p.1 ∈ l ∧ p.2 ∈ l
  | [], h => by cases h
  | [x], h => by cases h
  | x :: y :: l, h => by
    rcases List.mem_cons.mp h with e | h
    · subst e; simp
    · have := prs_mem h
      exact ⟨List.mem_cons_of_mem _ this.1, List.mem_cons_of_mem _ this.2⟩
theorem prs_zip {α : Type} (x : α) : ∀ (r : List α) (p : α), (p :: r).zip (r ++ [x]) = prs (p :: (r ++ [x]))
  | [], p => rfl
  | q :: r, p => by
    show (p, q) :: (q :: r).zip (r ++ [x]) = (p, q) :: prs (q :: (r ++ [x]))
    rw [prs_zip x r q]
theorem good_prs {Q : List P2} {a b : P2} : ∀ (s : List P2), Good Q s → (b, a) ∈ prs s → lt a b ∧ ∀ q ∈ Q, 0 ≤ cr a b q
  | [], _, h => by cases h
  | [x], _, h => by cases h
  | x :: y :: s, g, h => by
    rcases List.mem_cons.mp h with e | h
    · obtain ⟨rfl, rfl⟩ := Prod.mk.inj e
      exact ⟨g.1, g.2.1⟩
    · exact good_prs (y :: s) g.2.2.2 h
/-! ### the lower border and the upper one -/
structure Low (A L : List P2) (m t : P2) : Prop where
  asc : L.Pairwise lt
  head : L.head? = some m
  last : L.getLast? = some t
  mem : ∀ v, v ∈ L ↔ v = t ∨ ∃ u : P2, u.2 < 0 ∧ Expo A u v
  edge : ∀ e ∈ prs L, lt e.1 e.2 ∧ ∀ q ∈ A, 0 ≤ cr e.1 e.2 q
  dom : ∀ u : P2, u.2 ≤ 0 → ∀ q ∈ A, ∃ v ∈ L, dot u q ≤ dot u v
structure Ends' (A : List P2) (m t : P2) : Prop where
  mm : m ∈ A
  tm : t ∈ A
  lo : ∀ q ∈ A, le m q
  hi : ∀ q ∈ A, le q t
theorem low_ok {A : List P2} (ha : A.Pairwise lt) (h0 : A ≠ []) : ∃ m t, Ends' A m t ∧ Low A (chain leftQ A) m t := by
  obtain ⟨m, l, rfl⟩ : ∃ m l, A = m :: l := by
    cases A with
    | nil => exact absurd rfl h0
    | cons m l => exact ⟨m, l, rfl⟩
  obtain ⟨t, S, h1, h2⟩ := stack_ok ha
  have tm : t ∈ m :: l := S.sub t (List.mem_of_head? S.top)
  refine ⟨m, t, ⟨by simp, tm, h1, h2⟩, ?_, ?_, ?_, fun v => ?_, fun e he => ?_, fun u hu q hq => ?_⟩
  · exact List.pairwise_reverse.mpr (good_desc _ S.good)
  · unfold chain
    rw [List.head?_reverse]
    exact S.bot
  · unfold chain
    rw [List.getLast?_reverse]
    exact S.top
  · unfold chain
    rw [List.mem_reverse]
    exact stack_mem S h1 h2 v
  · exact good_prs _ S.good ((prs_rev _).mp he)
  · obtain ⟨v, hv, hd⟩ := low_dom h1 hu hq _ S.good S.bot fun b e => by
      rw [S.top] at e
      rw [← Option.some.inj e]
      exact h2 q hq
    exact ⟨v, by unfold chain; exact List.mem_reverse.mpr hv, hd⟩
def ng (p : P2) : P2 := (-p.1, -p.2)
theorem ng_ng (p : P2) : ng (ng p) = p := by
  apply ext
  · show - -p.1 = p.1; grind
  · show - -p.2 = p.2; grind
theorem lt_ng {p q : P2} : lt (ng p) (ng q) ↔ lt q p := by
  unfold lt ng; dsimp only; grind
theorem le_ng {p q : P2} : le (ng p) (ng q) ↔ le q p := by
  unfold le ng; dsimp only; grind
theorem cr_ng (a b c : P2) : cr (ng a) (ng b) (ng c) = cr a b c := by
  unfold cr ng; dsimp only; grind
theorem dot_ng (u p : P2) : dot u (ng p) = - dot u p := by
  unfold dot ng; dsimp only; grind
theorem ng_dot (u p : P2) : dot (ng u) p = - dot u p := by
  unfold dot ng; dsimp only; grind
theorem ng_inj {p q : P2} (h : ng p = ng q) : p = q := by rw [← ng_ng p, h, ng_ng]
theorem expo_ng {A : List P2} {u v : P2} : Expo (A.map ng) u (ng v) ↔ Expo A (ng u) v := by
  constructor
  · rintro ⟨h1, h2⟩
    obtain ⟨w, hw, e⟩ := List.mem_map.mp h1
    refine ⟨by rw [← ng_inj e]; exact hw, fun s hs hne => ?_⟩
    have := h2 (ng s) (List.mem_map_of_mem hs) (fun e => hne (ng_inj e))
    rw [dot_ng, dot_ng] at this
    rw [ng_dot, ng_dot]
    exact this
  · rintro ⟨h1, h2⟩
    refine ⟨List.mem_map_of_mem h1, fun s hs hne => ?_⟩
    obtain ⟨w, hw, rfl⟩ := List.mem_map.mp hs
    have := h2 w hw (fun e => hne (by rw [e]))
    rw [ng_dot, ng_dot] at this
    rw [dot_ng, dot_ng]
    exact this
structure Up (A U : List P2) (m t : P2) : Prop where
  desc : U.Pairwise fun a b => lt b a
  head : U.head? = some t
  last : U.getLast? = some m
  mem : ∀ v, v ∈ U ↔ v = m ∨ ∃ u : P2, 0 < u.2 ∧ Expo A u v
  edge : ∀ e ∈ prs U, lt e.2 e.1 ∧ ∀ q ∈ A, 0 ≤ cr e.1 e.2 q
  dom : ∀ u : P2, 0 ≤ u.2 → ∀ q ∈ A, ∃ v ∈ U, dot u q ≤ dot u v
theorem up_ok {A : List P2} {m t : P2} (ha : A.Pairwise lt) (E : Ends' A m t) : Up A (chain leftQ A.reverse) m t := by
  have hB : (A.reverse.map ng).Pairwise lt := by
    rw [List.pairwise_map]
    refine List.pairwise_reverse.mpr (List.Pairwise.imp (fun {a b} h => ?_) ha)
    exact lt_ng.mpr h
  have h0 : A.reverse.map ng ≠ [] := fun e => by
    have := E.mm
    rw [List.map_eq_nil_iff, List.reverse_eq_nil_iff] at e
    rw [e] at this
    cases this
  have mB : ∀ x, x ∈ A.reverse.map ng ↔ ng x ∈ A := fun x => by
    rw [List.mem_map]
    constructor
    · rintro ⟨y, hy, rfl⟩; rw [ng_ng]; exact List.mem_reverse.mp hy
    · intro h; exact ⟨ng x, List.mem_reverse.mpr h, ng_ng x⟩
  obtain ⟨m', t', E', L⟩ := low_ok hB h0
  have em : m' = ng t := by
    refine le_antisymm (E'.lo _ ((mB _).mpr (by rw [ng_ng]; exact E.tm))) ?_
    have := E.hi _ ((mB _).mp E'.mm)
    rw [← ng_ng m', le_ng]
    exact this
  have et : t' = ng m := by
    refine le_antisymm ?_ (E'.hi _ ((mB _).mpr (by rw [ng_ng]; exact E.mm)))
    have := E.lo _ ((mB _).mp E'.tm)
    rw [← ng_ng t', le_ng]
    exact this
  subst em et
  have hc : chain leftQ A.reverse = (chain leftQ (A.reverse.map ng)).map ng := by
    rw [← chain_map (left := leftQ) (left' := leftQ) ng (fun a b c => by unfold leftQ; rw [cr_ng]), List.map_map]
    have : (ng ∘ ng) = id := funext fun p => ng_ng p
    rw [this, List.map_id]
  have exB : ∀ u v, Expo (A.reverse.map ng) u (ng v) ↔ Expo A (ng u) v := fun u v => by
    rw [expo_ng]
    constructor
    · rintro ⟨h1, h2⟩; exact ⟨List.mem_reverse.mp h1, fun s hs => h2 s (List.mem_reverse.mpr hs)⟩
    · rintro ⟨h1, h2⟩; exact ⟨List.mem_reverse.mpr h1, fun s hs => h2 s (List.mem_reverse.mp hs)⟩
  rw [hc]
  refine ⟨?_, ?_, ?_, fun v => ?_, fun e he => ?_, fun u hu q hq => ?_⟩
  · rw [List.pairwise_map]
    exact List.Pairwise.imp (fun {a b} h => lt_ng.mpr h) L.asc
  · rw [List.head?_map, L.head]
    show some (ng (ng t)) = _
    rw [ng_ng]
  · rw [List.getLast?_map, L.last]
    show some (ng (ng m)) = _
    rw [ng_ng]
  · have e1 : v ∈ (chain leftQ (A.reverse.map ng)).map ng ↔ ng v ∈ chain leftQ (A.reverse.map ng) := by
      rw [List.mem_map]
      constructor
      · rintro ⟨y, hy, rfl⟩; rw [ng_ng]; exact hy
      · intro h; exact ⟨ng v, h, ng_ng v⟩
    rw [e1, L.mem]
    constructor
    · rintro (h | ⟨u, hu, h⟩)
      · exact .inl (ng_inj h)
      · exact .inr ⟨ng u, (by show 0 < -u.2; grind), (exB u v).mp h⟩
    · rintro (h | ⟨u, hu, h⟩)
      · exact .inl (by rw [h])
      · exact .inr ⟨ng u, (by show -u.2 < 0; grind), (exB (ng u) v).mpr (by rw [ng_ng]; exact h)⟩
  · rw [prs_map] at he
    obtain ⟨e', he', rfl⟩ := List.mem_map.mp he
    have := L.edge e' he'
    refine ⟨lt_ng.mpr this.1, fun q hq => ?_⟩
    have z := this.2 (ng q) ((mB _).mpr (by rw [ng_ng]; exact hq))
    rw [← cr_ng, ng_ng, ng_ng]
    exact z
  · obtain ⟨v, hv, hd⟩ := L.dom (ng u) (by show -u.2 ≤ 0; grind) (ng q) ((mB _).mpr (by rw [ng_ng]; exact hq))
    refine ⟨ng v, List.mem_map_of_mem hv, ?_⟩
    rw [dot_ng, ng_dot] at hd
    rw [ng_dot] at hd
    rw [dot_ng]
    grind
/-- the hull of an ascending list -/
def hullA (A : List P2) : List P2 := if A.length = 1 then A else (chain leftQ A).dropLast ++ (chain leftQ A.reverse).dropLast
theorem far_nil {S T : List P2} (h : Far S T) (e : S = []) : T = [] := by
  cases T with
  | nil => rfl
  | cons t T =>
    obtain ⟨s, hs, _⟩ := h.2 (0, 0) t (by simp)
    rw [e] at hs
    cases hs
theorem ends_one {A : List P2} {m t : P2} (ha : A.Pairwise lt) (E : Ends' A m t) : A.length = 1 ↔ m = t := by
  constructor
  · intro h
    match A, h, E with
    | [x], _, E =>
      have a := List.mem_singleton.mp E.mm
      have b := List.mem_singleton.mp E.tm
      rw [a, b]
  · intro h
    match A, ha, E with
    | [], _, E => exact absurd E.mm (by simp)
    | [x], _, _ => rfl
    | x :: y :: r, ha, E =>
      have l1 := (List.pairwise_cons.mp ha).1 y (by simp)
      have a := le_lt_trans (E.lo x (by simp)) l1
      have b := lt_le_trans a (E.hi y (by simp))
      rw [h] at b
      exact absurd b (lt_irrefl t)
theorem max_expo {A : List P2} {m t : P2} (E : Ends' A m t) : ∃ u : P2, 0 < u.2 ∧ Expo A u t := by
  obtain ⟨u, hu, hx⟩ := min_expo' (T := A.map ng) (m := ng t) (List.mem_map_of_mem E.tm) (fun s hs => by
    obtain ⟨w, hw, rfl⟩ := List.mem_map.mp hs
    exact le_ng.mpr (E.hi w hw))
  exact ⟨ng u, (by show 0 < -u.2; grind), expo_ng.mp hx⟩
theorem hull_unique {A B : List P2} (ha : A.Pairwise lt) (hb : B.Pairwise lt) (h : Far A B) : hullA A = hullA B := by
  by_cases h0 : A = []
  · rw [h0, far_nil h h0]
  · have h1 : B ≠ [] := fun e => h0 (far_nil h.symm e)
    obtain ⟨m, t, E, L⟩ := low_ok ha h0
    obtain ⟨m', t', E', L'⟩ := low_ok hb h1
    have em : m = m' := by
      obtain ⟨u, _, hx⟩ := min_expo' E.mm E.lo
      obtain ⟨u', _, hx'⟩ := min_expo' E'.mm E'.lo
      exact le_antisymm (E.lo _ (h.symm.expo hx').1) (E'.lo _ (h.expo hx).1)
    have et : t = t' := by
      obtain ⟨u, _, hx⟩ := max_expo E
      obtain ⟨u', _, hx'⟩ := max_expo E'
      exact le_antisymm (E'.hi _ (h.expo hx).1) (E.hi _ (h.symm.expo hx').1)
    subst em et
    have U := up_ok ha E
    have U' := up_ok hb E'
    have eL : chain leftQ A = chain leftQ B := asc_unique lt_irrefl lt_trans L.asc L'.asc fun x => by
      rw [L.mem, L'.mem]
      constructor
      · rintro (e | ⟨u, hu, hx⟩)
        · exact .inl e
        · exact .inr ⟨u, hu, h.expo hx⟩
      · rintro (e | ⟨u, hu, hx⟩)
        · exact .inl e
        · exact .inr ⟨u, hu, h.symm.expo hx⟩
    have eU : chain leftQ A.reverse = chain leftQ B.reverse := asc_unique (r := fun a b => lt b a) (fun a => lt_irrefl a) (fun {a b c} h1 h2 => lt_trans h2 h1) U.desc U'.desc fun x => by
      rw [U.mem, U'.mem]
      constructor
      · rintro (e | ⟨u, hu, hx⟩)
        · exact .inl e
        · exact .inr ⟨u, hu, h.expo hx⟩
      · rintro (e | ⟨u, hu, hx⟩)
        · exact .inl e
        · exact .inr ⟨u, hu, h.symm.expo hx⟩
    unfold hullA
    by_cases hl : A.length = 1
    · have e1 := (ends_one ha E).mp hl
      have hl' := (ends_one hb E').mpr e1
      rw [if_pos hl, if_pos hl']
      match A, B, hl, hl', E, E' with
      | [x], [y], _, _, E, E' =>
        have a := List.mem_singleton.mp E.mm
        have b := List.mem_singleton.mp E'.mm
        rw [← a, ← b]
    · have hl' : ¬ B.length = 1 := fun z => hl ((ends_one ha E).mpr ((ends_one hb E').mp z))
      rw [if_neg hl, if_neg hl', eL, eU]
end Geo

namespace Geo
/-- three points, each of which is met alone along some direction, are in no line -/
theorem no_line {A : List P2} {a b x : P2} (ea : ∃ u, Expo A u a) (eb : ∃ u, Expo A u b) (ex : ∃ u, Expo A u x) (hab : a ≠ b) (hxa : x ≠ a) (hxb : x ≠ b) : cr a b x ≠ 0 := by
  intro h
  obtain ⟨ua, a1, a2⟩ := ea
  obtain ⟨ub, b1, b2⟩ := eb
  obtain ⟨ux, x1, x2⟩ := ex
  have N0 : 0 < (b.1 - a.1) * (b.1 - a.1) + (b.2 - a.2) * (b.2 - a.2) := by
    have q1 : 0 ≤ (b.1 - a.1) * (b.1 - a.1) := by
      by_cases c : 0 ≤ b.1 - a.1
      · exact mul_nn c c
      · have := mul_nn (show 0 ≤ -(b.1 - a.1) by grind) (show 0 ≤ -(b.1 - a.1) by grind)
        grind
    have q2 : 0 ≤ (b.2 - a.2) * (b.2 - a.2) := by
      by_cases c : 0 ≤ b.2 - a.2
      · exact mul_nn c c
      · have := mul_nn (show 0 ≤ -(b.2 - a.2) by grind) (show 0 ≤ -(b.2 - a.2) by grind)
        grind
    by_cases z : (b.1 - a.1) * (b.1 - a.1) + (b.2 - a.2) * (b.2 - a.2) = 0
    · exfalso
      have z1 := Rat.mul_eq_zero.mp (show (b.1 - a.1) * (b.1 - a.1) = 0 by grind)
      have z2 := Rat.mul_eq_zero.mp (show (b.2 - a.2) * (b.2 - a.2) = 0 by grind)
      exact hab (ext (by grind) (by grind))
    · grind
  generalize hN : (b.1 - a.1) * (b.1 - a.1) + (b.2 - a.2) * (b.2 - a.2) = N at N0
  have i1 : N * (x.1 - a.1) = ((x.1 - a.1) * (b.1 - a.1) + (x.2 - a.2) * (b.2 - a.2)) * (b.1 - a.1) := by
    rw [← hN]; unfold cr at h; grind
  have i2 : N * (x.2 - a.2) = ((x.1 - a.1) * (b.1 - a.1) + (x.2 - a.2) * (b.2 - a.2)) * (b.2 - a.2) := by
    rw [← hN]; unfold cr at h; grind
  generalize (x.1 - a.1) * (b.1 - a.1) + (x.2 - a.2) * (b.2 - a.2) = k at i1 i2
  have id : ∀ u : P2, N * (dot u x - dot u a) = k * (dot u b - dot u a) := fun u => by
    have : N * (dot u x - dot u a) = u.1 * (N * (x.1 - a.1)) + u.2 * (N * (x.2 - a.2)) := by unfold dot; grind
    rw [this, i1, i2]; unfold dot; grind
  have xa := a2 x x1 hxa
  have ba := a2 b b1 (Ne.symm hab)
  have ab := b2 a a1 hab
  have xb := b2 x x1 hxb
  have ax := x2 a a1 (Ne.symm hxa)
  have bx := x2 b b1 (Ne.symm hxb)
  by_cases k0 : k < 0
  · have j := id ua
    have l := mul_ps N0 (show 0 < dot ua a - dot ua x by grind)
    have r := mul_ps (show 0 < -k by grind) (show 0 < dot ua a - dot ua b by grind)
    grind
  · by_cases kN : N < k
    · have j := id ub
      have l := mul_ps N0 (show 0 < dot ub b - dot ub x by grind)
      have r := mul_ps (show 0 < k - N by grind) (show 0 < dot ub b - dot ub a by grind)
      grind
    · have j := id ux
      by_cases c : dot ux b - dot ux a ≤ 0
      · have l := mul_ps N0 (show 0 < dot ux x - dot ux a by grind)
        have r := mul_nn (show 0 ≤ k by grind) (show 0 ≤ -(dot ux b - dot ux a) by grind)
        grind
      · have l := mul_ps N0 (show 0 < dot ux x - dot ux b by grind)
        have r := mul_nn (show 0 ≤ N - k by grind) (show 0 ≤ dot ux b - dot ux a by grind)
        grind
/-- what a plate is, that has the points S -/
structure Plate (S P : List P2) : Prop where
  ne : P ≠ []
  sub : ∀ v ∈ P, v ∈ S
  far : Far P S
  nodup : P.Nodup
  expo : ∀ v ∈ P, ∃ u, Expo S u v
  edge : 2 ≤ P.length → ∀ e ∈ prs (P ++ P.take 1), e.1 ≠ e.2 ∧ e.1 ∈ P ∧ e.2 ∈ P ∧ ∀ q ∈ S, 0 ≤ cr e.1 e.2 q
theorem Plate.strict {S P : List P2} (h : Plate S P) (h2 : 2 ≤ P.length) {e : P2 × P2} (he : e ∈ prs (P ++ P.take 1)) {x : P2} (hx : x ∈ P) (n1 : x ≠ e.1) (n2 : x ≠ e.2) : 0 < cr e.1 e.2 x := by
  obtain ⟨a, b, c, d⟩ := h.edge h2 e he
  have := d x (h.sub x hx)
  have z := no_line (h.expo _ b) (h.expo _ c) (h.expo _ hx) a n1 n2
  grind
theorem mem_dl {α : Type} {l : List α} {v : α} (h : v ∈ l.dropLast) : v ∈ l := (List.dropLast_sublist l).subset h
theorem lt_ne {p q : P2} (h : lt p q) : p ≠ q := fun e => lt_irrefl q (by rw [e] at h; exact h)
theorem mem_dropLast {α : Type} {l : List α} {t : α} (h : l.getLast? = some t) {v : α} (hv : v ∈ l) : v ∈ l.dropLast ∨ v = t := by
  have hn : l ≠ [] := fun e => by rw [e] at hv; cases hv
  have e : l.dropLast ++ [t] = l := by
    have := List.dropLast_concat_getLast hn
    rw [List.getLast?_eq_some_getLast hn] at h
    rw [← Option.some.inj h]
    exact this
  rw [← e] at hv
  simpa using hv
theorem dropLast_eq {α : Type} {l : List α} {t : α} (h : l.getLast? = some t) : l.dropLast ++ [t] = l := by
  have hn : l ≠ [] := fun e => by rw [e] at h; cases h
  have := List.dropLast_concat_getLast hn
  rw [List.getLast?_eq_some_getLast hn] at h
  rw [← Option.some.inj h]
  exact this
theorem last_not_mem {α : Type} {r : α → α → Prop} (ir : ∀ a, ¬ r a a) {l : List α} (hp : l.Pairwise r) {t : α} (h : l.getLast? = some t) : t ∉ l.dropLast := by
  rw [← dropLast_eq h, List.pairwise_append] at hp
  intro z
  exact ir t (hp.2.2 t z t (by simp))
theorem plate_ok {A : List P2} (ha : A.Pairwise lt) (h0 : A ≠ []) : Plate A (hullA A) := by
  obtain ⟨m, t, E, L⟩ := low_ok ha h0
  have U := up_ok ha E
  unfold hullA
  by_cases hl : A.length = 1
  · rw [if_pos hl]
    match A, hl, E with
    | [x], _, E =>
      refine ⟨by simp, fun v hv => hv, Far.of_mem fun _ => Iff.rfl, by simp, fun v hv => ⟨(0, 0), hv, fun s hs hne => ?_⟩, fun z => absurd z (by simp)⟩
      rw [List.mem_singleton.mp hv, List.mem_singleton.mp hs] at hne
      exact absurd rfl hne
  · rw [if_neg hl]
    have hmt : m ≠ t := fun z => hl ((ends_one ha E).mpr z)
    generalize hLL : chain leftQ A = LL at L
    generalize hUU : chain leftQ A.reverse = UU at U
    have LLn : LL.dropLast ++ [t] = LL := dropLast_eq L.last
    have UUn : UU.dropLast ++ [m] = UU := dropLast_eq U.last
    have mL : m ∈ LL.dropLast := (mem_dropLast L.last (List.mem_of_head? L.head)).resolve_right hmt
    have tU : t ∈ UU.dropLast := (mem_dropLast U.last (List.mem_of_head? U.head)).resolve_right (Ne.symm hmt)
    have mx := min_expo' E.mm E.lo
    have tx := max_expo E
    have subL : ∀ v ∈ LL, v ∈ A ∧ ∃ u, Expo A u v := fun v hv => by
      rcases (L.mem v).mp hv with e | ⟨u, hu, hx⟩
      · rw [e]
        obtain ⟨u, _, hx⟩ := tx
        exact ⟨E.tm, u, hx⟩
      · exact ⟨hx.1, u, hx⟩
    have subU : ∀ v ∈ UU, v ∈ A ∧ ∃ u, Expo A u v := fun v hv => by
      rcases (U.mem v).mp hv with e | ⟨u, hu, hx⟩
      · rw [e]
        obtain ⟨u, _, hx⟩ := mx
        exact ⟨E.mm, u, hx⟩
      · exact ⟨hx.1, u, hx⟩
    have inP : ∀ v, v ∈ LL ∨ v ∈ UU → v ∈ LL.dropLast ++ UU.dropLast := fun v hv => by
      rw [List.mem_append]
      rcases hv with hv | hv
      · rcases mem_dropLast L.last hv with z | z
        · exact .inl z
        · right; rw [z]; exact tU
      · rcases mem_dropLast U.last hv with z | z
        · exact .inr z
        · left; rw [z]; exact mL
    have both : ∀ v ∈ LL.dropLast ++ UU.dropLast, v ∈ A ∧ ∃ u, Expo A u v := fun v hv => by
      rcases List.mem_append.mp hv with z | z
      · exact subL v (mem_dl z)
      · exact subU v (mem_dl z)
    have hd : (LL.dropLast ++ UU.dropLast).take 1 = [m] := by
      obtain ⟨r, e⟩ : ∃ r, LL.dropLast = m :: r := by
        have h1 := L.head
        cases h2 : LL.dropLast with
        | nil => rw [h2] at mL; cases mL
        | cons y r =>
          rw [← LLn, h2] at h1
          obtain rfl : y = m := Option.some.inj h1
          exact ⟨r, rfl⟩
      rw [e]; rfl
    have cl : LL.dropLast ++ UU.dropLast ++ [m] = LL.dropLast ++ UU := by rw [List.append_assoc, UUn]
    obtain ⟨ur, eU⟩ : ∃ ur, UU = t :: ur := by
      have h1 := U.head
      cases h2 : UU with
      | nil => rw [h2] at h1; cases h1
      | cons y r =>
        rw [h2] at h1
        obtain rfl : y = t := Option.some.inj h1
        exact ⟨r, rfl⟩
    refine ⟨?_, fun v hv => (both v hv).1, ⟨fun u s hs => ⟨s, (both s hs).1, Rat.le_refl⟩, fun u s hs => ?_⟩, ?_, fun v hv => (both v hv).2, fun _ e he => ?_⟩
    · exact List.ne_nil_of_mem (List.mem_append_left _ mL)
    · by_cases hu : u.2 ≤ 0
      · obtain ⟨v, hv, z⟩ := L.dom u hu s hs
        exact ⟨v, inP v (.inl hv), z⟩
      · obtain ⟨v, hv, z⟩ := U.dom u (by grind) s hs
        exact ⟨v, inP v (.inr hv), z⟩
    · rw [List.nodup_append]
      refine ⟨(List.Pairwise.imp (fun {a b} h => lt_ne h) L.asc).sublist (List.dropLast_sublist _), (List.Pairwise.imp (fun {a b} h => Ne.symm (lt_ne h)) U.desc).sublist (List.dropLast_sublist _), fun a ha' b hb e => ?_⟩
      subst e
      have at_ : a ≠ t := fun z => last_not_mem lt_irrefl L.asc L.last (by rw [← z]; exact ha')
      have am : a ≠ m := fun z => last_not_mem (r := fun a b => lt b a) (fun a => lt_irrefl a) U.desc U.last (by rw [← z]; exact hb)
      obtain ⟨u, hu, hx⟩ := ((L.mem a).mp (mem_dl ha')).resolve_left at_
      obtain ⟨u', hu', hx'⟩ := ((U.mem a).mp (mem_dl hb)).resolve_left am
      have l1 := E.lo a hx.1
      have l2 := E.hi a hx.1
      by_cases c : 0 ≤ cr m t a
      · have k1 := hx.2 m E.mm (Ne.symm am)
        have k2 := hx.2 t E.tm (Ne.symm at_)
        rcases dot_seg l1 l2 c (Rat.le_of_lt hu) with z | z <;> grind
      · have k1 := hx'.2 m E.mm (Ne.symm am)
        have k2 := hx'.2 t E.tm (Ne.symm at_)
        have c' : 0 ≤ cr (ng t) (ng m) (ng a) := by
          rw [cr_ng]
          unfold cr at c ⊢; grind
        rcases dot_seg (u := ng u') (le_ng.mpr l2) (le_ng.mpr l1) c' (by show -u'.2 ≤ 0; grind) with z | z
        · rw [ng_dot, ng_dot, dot_ng, dot_ng] at z; grind
        · rw [ng_dot, ng_dot, dot_ng, dot_ng] at z; grind
    · rw [hd, cl, eU, prs_join, LLn, ← eU] at he
      rcases List.mem_append.mp he with z | z
      · have k := L.edge e z
        have q := prs_mem z
        exact ⟨fun e' => lt_irrefl e.2 (by rw [e'] at k; exact k.1), inP _ (.inl q.1), inP _ (.inl q.2), k.2⟩
      · have k := U.edge e z
        have q := prs_mem z
        exact ⟨fun e' => lt_irrefl e.2 (by rw [e'] at k; exact k.1), inP _ (.inr q.1), inP _ (.inr q.2), k.2⟩
/-- each corner has a next one -/
theorem next_of {α : Type} : ∀ (r : List α) (x : α) (v : α), v ∈ r → ∃ w, (v, w) ∈ prs (r ++ [x])
  | [], _, v, h => by cases h
  | [a], x, v, h => ⟨x, by rw [List.mem_singleton.mp h]; simp [prs]⟩
  | a :: b :: r, x, v, h => by
    rcases List.mem_cons.mp h with e | h
    · exact ⟨b, by rw [e]; simp [prs]⟩
    · obtain ⟨w, hw⟩ := next_of (b :: r) x v h
      exact ⟨w, List.mem_cons_of_mem _ hw⟩
/-- farthest along u, in a list -/
def Top (S : List P2) (u v : P2) : Prop := v ∈ S ∧ ∀ s ∈ S, dot u s ≤ dot u v
/-- the outer normal of a side: its way turned right -/
def outN (e : P2 × P2) : P2 := (e.2.2 - e.1.2, e.1.1 - e.2.1)
theorem outN_dot (e : P2 × P2) (s : P2) : dot (outN e) s = dot (outN e) e.1 - cr e.1 e.2 s := by unfold dot outN cr; dsimp only; grind
theorem outN_snd (e : P2 × P2) : dot (outN e) e.2 = dot (outN e) e.1 := by unfold dot outN; dsimp only; grind
/-- both ends of a side are farthest along its normal -/
theorem Plate.side_top {S P : List P2} (h : Plate S P) (h2 : 2 ≤ P.length) {e : P2 × P2} (he : e ∈ prs (P ++ P.take 1)) {u : P2} {k : Rat} (hk : 0 < k) (hu : u = (k * (outN e).1, k * (outN e).2)) : Top S u e.1 ∧ Top S u e.2 := by
  obtain ⟨a, b, c, d⟩ := h.edge h2 e he
  have du : ∀ s, dot u s = k * dot (outN e) s := fun s => by rw [hu]; unfold dot; grind
  have one : Top S u e.1 := ⟨h.sub _ b, fun s hs => by
    rw [du, du, outN_dot]
    have := mul_nn (Rat.le_of_lt hk) (d s hs)
    grind⟩
  refine ⟨one, h.sub _ c, fun s hs => ?_⟩
  have := one.2 s hs
  rw [du e.2, outN_snd, ← du]
  exact this
/-- two corners that are farthest along u are the ends of a side with a normal along u, or of one the other way round -/
theorem Plate.top_side {S P : List P2} (h : Plate S P) {u p q : P2} (hu : u ≠ (0, 0)) (hp : p ∈ P) (hq : q ∈ P) (hne : p ≠ q) (tp : ∀ s ∈ P, dot u s ≤ dot u p) (tq : ∀ s ∈ P, dot u s ≤ dot u q) :
    ∃ e ∈ prs (P ++ P.take 1), ∃ k : Rat, 0 < k ∧ outN e = (k * u.1, k * u.2) := by
  have h2 : 2 ≤ P.length := by
    match P, hp, hq with
    | [x], hp, hq =>
      rw [List.mem_singleton.mp hp, List.mem_singleton.mp hq] at hne
      exact absurd rfl hne
    | _ :: _ :: _, _, _ => simp
  have D0 : 0 < u.1 * u.1 + u.2 * u.2 := by
    have q1 : 0 ≤ u.1 * u.1 := by
      by_cases c : 0 ≤ u.1
      · exact mul_nn c c
      · have := mul_nn (show 0 ≤ -u.1 by grind) (show 0 ≤ -u.1 by grind)
        grind
    have q2 : 0 ≤ u.2 * u.2 := by
      by_cases c : 0 ≤ u.2
      · exact mul_nn c c
      · have := mul_nn (show 0 ≤ -u.2 by grind) (show 0 ≤ -u.2 by grind)
        grind
    by_cases z : u.1 * u.1 + u.2 * u.2 = 0
    · exfalso
      have z1 := Rat.mul_eq_zero.mp (show u.1 * u.1 = 0 by grind)
      have z2 := Rat.mul_eq_zero.mp (show u.2 * u.2 = 0 by grind)
      exact hu (ext (by show u.1 = 0; grind) (by show u.2 = 0; grind))
    · grind
  -- one of the two has the other one on its left, seen along u
  have main : ∀ p q : P2, p ∈ P → q ∈ P → p ≠ q → (∀ s ∈ P, dot u s ≤ dot u p) → (∀ s ∈ P, dot u s ≤ dot u q) → 0 < u.1 * (q.2 - p.2) - u.2 * (q.1 - p.1) →
      ∃ e ∈ prs (P ++ P.take 1), ∃ k : Rat, 0 < k ∧ outN e = (k * u.1, k * u.2) := by
    intro p q hp hq hne tp tq pos
    obtain ⟨x, r, eP⟩ : ∃ x r, P = x :: r := by
      cases P with
      | nil => cases hp
      | cons x r => exact ⟨x, r, rfl⟩
    obtain ⟨w, hw⟩ := next_of P x p hp
    have ht : P.take 1 = [x] := by rw [eP]; rfl
    rw [← ht] at hw
    obtain ⟨a, b, c, d⟩ := h.edge h2 _ hw
    dsimp only at a b c d
    have eq0 : dot u q = dot u p := by
      have := tp q hq
      have := tq p hp
      grind
    -- q is not right of p w; w is not farther than p
    have cq := d q (h.sub _ hq)
    have cw := tp w c
    -- (q - p) = τ (u turned left)
    have j1 : (u.1 * u.1 + u.2 * u.2) * (q.1 - p.1) = -(u.1 * (q.2 - p.2) - u.2 * (q.1 - p.1)) * u.2 := by
      have : u.1 * (dot u q - dot u p) = 0 := by rw [eq0]; grind
      unfold dot at this; grind
    have j2 : (u.1 * u.1 + u.2 * u.2) * (q.2 - p.2) = (u.1 * (q.2 - p.2) - u.2 * (q.1 - p.1)) * u.1 := by
      have : u.2 * (dot u q - dot u p) = 0 := by rw [eq0]; grind
      unfold dot at this; grind
    generalize hτ : u.1 * (q.2 - p.2) - u.2 * (q.1 - p.1) = τ at pos j1 j2
    generalize hD : u.1 * u.1 + u.2 * u.2 = D at D0 j1 j2
    -- hence w lies as far as p
    have cq2 : D * cr p w q = τ * (dot u w - dot u p) := by
      have : D * cr p w q = (w.1 - p.1) * (D * (q.2 - p.2)) - (w.2 - p.2) * (D * (q.1 - p.1)) := by unfold cr; grind
      rw [this, j1, j2]; unfold dot; grind
    have cw0 : dot u w = dot u p := by
      have n1 := mul_nn (Rat.le_of_lt D0) cq
      rw [cq2] at n1
      have n2 := nn_of_mul pos n1
      grind
    -- if q is not w, then q is left of p w strictly
    have qw : q = w := by
      by_cases z : q = w
      · exact z
      · exfalso
        have st := h.strict h2 hw hq (Ne.symm hne) z
        have n1 := mul_ps D0 st
        dsimp only at n1
        rw [cq2, cw0] at n1
        grind
    subst qw
    refine ⟨_, hw, τ / D, by rw [Rat.div_def]; exact mul_ps pos (Rat.inv_pos.mpr D0), ?_⟩
    have D1 : D ≠ 0 := by grind
    apply ext
    · show q.2 - p.2 = τ / D * u.1
      have : (q.2 - p.2) * D = τ * u.1 := by rw [← j2]; grind
      have e : q.2 - p.2 = (q.2 - p.2) * D / D := (Rat.mul_div_cancel D1).symm
      rw [e, this]; grind
    · show p.1 - q.1 = τ / D * u.2
      have : (p.1 - q.1) * D = τ * u.2 := by
        have : (p.1 - q.1) * D = -(D * (q.1 - p.1)) := by grind
        rw [this, j1]; grind
      have e : p.1 - q.1 = (p.1 - q.1) * D / D := (Rat.mul_div_cancel D1).symm
      rw [e, this]; grind
  by_cases c : 0 < u.1 * (q.2 - p.2) - u.2 * (q.1 - p.1)
  · exact main p q hp hq hne tp tq c
  · by_cases c2 : 0 < u.1 * (p.2 - q.2) - u.2 * (p.1 - q.1)
    · exact main q p hq hp (Ne.symm hne) tq tp c2
    · exfalso
      have z : u.1 * (q.2 - p.2) - u.2 * (q.1 - p.1) = 0 := by grind
      have z2 : u.1 * (q.1 - p.1) + u.2 * (q.2 - p.2) = 0 := by
        have a := tp q hq
        have b := tq p hp
        unfold dot at a b; grind
      have k1 : (u.1 * u.1 + u.2 * u.2) * (q.1 - p.1) = 0 := by grind
      have k2 : (u.1 * u.1 + u.2 * u.2) * (q.2 - p.2) = 0 := by grind
      have D1 : u.1 * u.1 + u.2 * u.2 ≠ 0 := by grind
      have y1 := (Rat.mul_eq_zero.mp k1).resolve_left D1
      have y2 := (Rat.mul_eq_zero.mp k2).resolve_left D1
      exact hne (ext (by grind) (by grind))
end Geo

set_option Elab.async false
set_option linter.all false
set_option maxRecDepth 100000
set_option maxHeartbeats 1000000
namespace PH
open PySem PySem.Spec PyProof.Rows L2
/-! ### data in a heap: numbers, truth values, None, lists and tuples of such -/
/-- a reference that is looked at by no one -/
def oq (a : Addr) : PyData := .dict [(.int (a : Nat), .none)]
mutual
inductive Dq (H : Hp) : V → PyData → Prop
  | non : Dq H .non .none
  | bl (b : Bool) : Dq H (.bl b) (.bool b)
  | int (i : Int) : Dq H (.int i) (.int i)
  | lst {a : Addr} {xs : List V} {ds : List PyData} : H a = some (.lst xs) → DqA H xs ds → Dq H (.ref a) (.list ds)
  | tup {a : Addr} {xs : List V} {ds : List PyData} : H a = some (.tup xs) → DqA H xs ds → Dq H (.ref a) (.tuple ds)
  | opq (a : Addr) : Dq H (.ref a) (.dict [(.int (a : Nat), .none)])
  | dk {a : Addr} {o : Obj} {kvs : List (List L2.Key × V)} {ns : List (List Int)} {es : List PyData} : H a = some (.frz o (.dT kvs)) → kvs.map (·.1) = ns.map (fun n => n.map Sum.inl) → DqA H (kvs.map (·.2)) es → Dq H (.ref a) (.dict [(.int (a : Nat), .list (ns.map fun n => .tuple (n.map .int))), (.none, .list es)])
inductive DqA (H : Hp) : List V → List PyData → Prop
  | nil : DqA H [] []
  | cons {v : V} {vs : List V} {d : PyData} {ds : List PyData} : Dq H v d → DqA H vs ds → DqA H (v :: vs) (d :: ds)
end
theorem same_new {H : Hp} {p : Addr} {o : HO} (h : H p = none) : Same H (upd H p o) := fun b x e => by
  rw [upd_ne (ne_of_none e h)]
  exact e
theorem same_mut {H H' : Hp} {p : Addr} {o : HO} (s : Same H H') (h : H p = none) : Same H (upd H' p o) := fun b x e => by
  rw [upd_ne (ne_of_none e h)]
  exact s b x e
mutual
theorem Dq.mono {H H' : Hp} (s : Same H H') : ∀ {v : V} {d : PyData}, Dq H v d → Dq H' v d
  | _, _, .non => .non
  | _, _, .bl b => .bl b
  | _, _, .int i => .int i
  | _, _, .lst a b => .lst (s _ _ a) (DqA.mono s b)
  | _, _, .tup a b => .tup (s _ _ a) (DqA.mono s b)
  | _, _, @Dq.opq _ a => Dq.opq a
  | _, _, .dk a c b => .dk (s _ _ a) c (DqA.mono s b)
theorem DqA.mono {H H' : Hp} (s : Same H H') : ∀ {vs : List V} {ds : List PyData}, DqA H vs ds → DqA H' vs ds
  | _, _, .nil => .nil
  | _, _, .cons a b => .cons (Dq.mono s a) (DqA.mono s b)
end
def del (H : Hp) (d : Addr) : Hp := fun b => if b = d then none else H b
mutual
/-- what is no dict needs no locked dict -/
theorem Dq.thaw {H : Hp} {a : Addr} {o : Obj} {u : HO} (h : H a = some (.frz o u)) : ∀ {v : V} {d : PyData}, d.canLay0 = true → Dq H v d → Dq (del H a) v d
  | _, _, _, .non => .non
  | _, _, _, .bl b => .bl b
  | _, _, _, .int i => .int i
  | _, _, c, .lst x y => .lst (by unfold del; rw [if_neg (fun e => by rw [e, h] at x; cases x)]; exact x) (DqA.thaw h c y)
  | _, _, c, .tup x y => .tup (by unfold del; rw [if_neg (fun e => by rw [e, h] at x; cases x)]; exact x) (DqA.thaw h c y)
  | _, .dict _, c, _ => by simp [PyData.canLay0] at c
theorem DqA.thaw {H : Hp} {a : Addr} {o : Obj} {u : HO} (h : H a = some (.frz o u)) : ∀ {vs : List V} {ds : List PyData}, PyData.canLayAll0 ds = true → DqA H vs ds → DqA (del H a) vs ds
  | _, _, _, .nil => .nil
  | _, _, c, .cons x y => by
    simp only [PyData.canLayAll0, Bool.and_eq_true] at c
    exact .cons (Dq.thaw h c.1 x) (DqA.thaw h c.2 y)
end
mutual
theorem Dq.dp {H : Hp} (K : PySem.W.Frag) : ∀ (d : PyData) (v : V), d.canLay0 = true → Dq H v d → Dp K H v d
  | .none, v, _, h => by cases h; exact .non
  | .bool b, v, _, h => by cases h; exact .bl b
  | .int i, v, _, h => by cases h; exact .int i
  | .str x, v, _, h => nomatch h
  | .dict x, v, c, h => by simp [PyData.canLay0] at c
  | .list ds, v, c, h => by
    cases h with
    | lst a b => exact .lst (SqL.of a) (DqA.dp K ds _ c b)
  | .tuple ds, v, c, h => by
    cases h with
    | tup a b => exact .tup (SqT.of a) (DqA.dp K ds _ c b)
theorem DqA.dp {H : Hp} (K : PySem.W.Frag) : ∀ (ds : List PyData) (vs : List V), PyData.canLayAll0 ds = true → DqA H vs ds → DpAll K H vs ds
  | [], _, _, h => by cases h; exact .nil
  | d :: ds, _, c, h => by
    cases h with
    | cons a b =>
      simp only [PyData.canLayAll0, Bool.and_eq_true] at c
      exact .cons (Dq.dp K d _ c.1 a) (DqA.dp K ds _ c.2 b)
end
theorem can_of {d : PyData} (h : SeqAt.shaped d = true) : d.canLay0 = true := by
  unfold SeqAt.shaped at h
  exact (Bool.and_eq_true_iff.mp h).1
theorem DqA.length {H : Hp} : ∀ {vs : List V} {ds : List PyData}, DqA H vs ds → vs.length = ds.length
  | [], [], _ => rfl
  | v :: vs, d :: ds, h => by
    cases h with
    | cons a b => rw [List.length_cons, List.length_cons, DqA.length b]
  | [], d :: ds, h => nomatch h
  | v :: vs, [], h => nomatch h
theorem DqA.get {H : Hp} : ∀ {vs : List V} {ds : List PyData} {i : Nat} {d : PyData}, DqA H vs ds → ds[i]? = some d → ∃ v, vs[i]? = some v ∧ Dq H v d
  | [], [], i, d, _, e => by simp at e
  | v :: vs, d0 :: ds, 0, d, h, e => by
    cases h with
    | cons a b =>
      have e2 : d0 = d := by simpa using e
      exact ⟨v, rfl, by rw [← e2]; exact a⟩
  | v :: vs, d0 :: ds, i + 1, d, h, e => by
    cases h with
    | cons a b =>
      obtain ⟨w, h1, h2⟩ := DqA.get (i := i) (d := d) b (by simpa using e)
      exact ⟨w, by simpa using h1, h2⟩
  | [], d :: ds, _, _, h, _ => nomatch h
  | v :: vs, [], _, _, h, _ => nomatch h
theorem DqA.getV {H : Hp} {vs : List V} {ds : List PyData} {i : Nat} {v : V} (h : DqA H vs ds) (e : vs[i]? = some v) : ∃ d, ds[i]? = some d ∧ Dq H v d := by
  have hl := h.length
  obtain ⟨hi, _⟩ := List.getElem?_eq_some_iff.mp e
  obtain ⟨w, h1, h2⟩ := h.get (List.getElem?_eq_getElem (by omega : i < ds.length))
  rw [e] at h1
  refine ⟨_, List.getElem?_eq_getElem (by omega), ?_⟩
  rw [Option.some.inj h1]
  exact h2
theorem DqA.append {H : Hp} : ∀ {vs ws : List V} {ds es : List PyData}, DqA H vs ds → DqA H ws es → DqA H (vs ++ ws) (ds ++ es)
  | [], _, [], _, _, k => k
  | v :: vs, _, d :: ds, _, h, k => by
    cases h with
    | cons a b => exact .cons a (DqA.append b k)
  | [], _, d :: ds, _, h, _ => nomatch h
  | v :: vs, _, [], _, h, _ => nomatch h
theorem DqA.take {H : Hp} : ∀ {vs : List V} {ds : List PyData} (n : Nat), DqA H vs ds → DqA H (vs.take n) (ds.take n)
  | _, _, 0, _ => .nil
  | [], [], _ + 1, _ => .nil
  | v :: vs, d :: ds, n + 1, h => by
    cases h with
    | cons a b => exact .cons a (DqA.take n b)
  | [], d :: ds, _, h => nomatch h
  | v :: vs, [], _, h => nomatch h
theorem DqA.drop {H : Hp} : ∀ {vs : List V} {ds : List PyData} (n : Nat), DqA H vs ds → DqA H (vs.drop n) (ds.drop n)
  | _, _, 0, h => h
  | [], [], _ + 1, _ => .nil
  | v :: vs, d :: ds, n + 1, h => by
    cases h with
    | cons a b => exact DqA.drop n b
  | [], d :: ds, _, h => nomatch h
  | v :: vs, [], _, h => nomatch h
theorem DqA.rev {H : Hp} : ∀ {vs : List V} {ds : List PyData}, DqA H vs ds → DqA H vs.reverse ds.reverse
  | [], [], _ => .nil
  | v :: vs, d :: ds, h => by
    cases h with
    | cons a b =>
      rw [List.reverse_cons, List.reverse_cons]
      exact DqA.append (DqA.rev b) (.cons a .nil)
  | [], d :: ds, h => nomatch h
  | v :: vs, [], h => nomatch h
theorem DqA.dropLast {H : Hp} {vs : List V} {ds : List PyData} (h : DqA H vs ds) : DqA H vs.dropLast ds.dropLast := by
  rw [List.dropLast_eq_take, List.dropLast_eq_take, h.length]
  exact h.take _
/-! ### numbers alone -/
theorem ints_of {H : Hp} : ∀ {ns : List Int} {vs : List V}, DqA H vs (ns.map PyData.int) → vs = ns.map V.int
  | [], _, h => by cases h; rfl
  | n :: ns, _, h => by
    cases h with
    | cons a b =>
      cases a
      rw [ints_of b]; rfl
theorem to_ints {H : Hp} : ∀ ns : List Int, DqA H (ns.map V.int) (ns.map PyData.int)
  | [] => .nil
  | n :: ns => .cons (.int n) (to_ints ns)
theorem bools_of {H : Hp} : ∀ {bs : List Bool} {vs : List V}, DqA H vs (bs.map PyData.bool) → vs = bs.map V.bl
  | [], _, h => by cases h; rfl
  | n :: ns, _, h => by
    cases h with
    | cons a b =>
      cases a
      rw [bools_of b]; rfl
/-! ### a step that makes new objects alone: Hc the part that is data -/
structure Step (Hc H Hc' H' : Hp) : Prop where
  cc : Same Hc Hc'
  hh : Same H H'
  sub : Same Hc' H'
  fr : ∀ b, Hc b = none → H b ≠ none → (∀ xs, H b ≠ some (.tup xs)) → Hc' b = none
theorem Step.refl {Hc H : Hp} (s : Same Hc H) : Step Hc H Hc H := ⟨Same.refl _, Same.refl _, s, fun _ h _ _ => h⟩
theorem Step.trans {Hc H Hc1 H1 Hc2 H2 : Hp} (a : Step Hc H Hc1 H1) (b : Step Hc1 H1 Hc2 H2) : Step Hc H Hc2 H2 :=
  ⟨a.cc.trans b.cc, a.hh.trans b.hh, b.sub, fun c h1 h2 h3 => by
    cases e : H c with
    | none => exact absurd e h2
    | some o => exact b.fr c (a.fr c h1 h2 h3) (by rw [a.hh c o e]; exact fun z => nomatch z) (fun xs => by rw [a.hh c o e, ← e]; exact h3 xs)⟩
theorem same_upd2 {Hc H : Hp} {p : Addr} {o : HO} (s : Same Hc H) : Same (upd Hc p o) (upd H p o) := fun b x e => by
  by_cases hb : b = p
  · subst hb
    rw [upd_same] at e ⊢
    exact e
  · rw [upd_ne hb] at e ⊢
    exact s b x e
theorem Step.new {Hc H : Hp} {p : Addr} {o : HO} (s : Same Hc H) (h : H p = none) : Step Hc H (upd Hc p o) (upd H p o) :=
  ⟨same_new (s.free h), same_new h, same_upd2 s, fun b h1 h2 _ => by
    rw [upd_ne (fun e => h2 (by rw [e]; exact h))]
    exact h1⟩
/-! ### slots that hold data -/
abbrev En := List (Option PyData)
structure Rep (H : Hp) (σ : L2.St) (ρ : En) : Prop where
  len : σ.length = ρ.length
  at_ : ∀ (i : Nat) (d : PyData), ρ[i]? = some (some d) → ∃ v, σ[i]? = some (some v) ∧ Dq H v d
theorem Rep.mono {H H' : Hp} {σ : L2.St} {ρ : En} (s : Same H H') (r : Rep H σ ρ) : Rep H' σ ρ := ⟨r.len, fun i d e => by
  obtain ⟨v, h1, h2⟩ := r.at_ i d e
  exact ⟨v, h1, h2.mono s⟩⟩
theorem Rep.set {H : Hp} {σ : L2.St} {ρ : En} (r : Rep H σ ρ) {v : V} {d : PyData} (h : Dq H v d) (i : Nat) : Rep H (σ.set i (some v)) (ρ.set i (some d)) := ⟨by simp [r.len], fun j e ej => by
  rw [List.getElem?_set] at ej ⊢
  by_cases hj : i = j
  · subst hj
    rw [if_pos rfl] at ej ⊢
    rw [r.len]
    by_cases hl : i < ρ.length
    · rw [if_pos hl] at ej ⊢
      have e2 : d = e := by simpa using ej
      subst e2
      exact ⟨v, rfl, h⟩
    · rw [if_neg hl] at ej
      cases ej
  · rw [if_neg hj] at ej ⊢
    exact r.at_ j e ej⟩
def wipeE (ρ : En) : List Nat → En
  | [] => ρ
  | v :: vs => (wipeE ρ vs).set v none
theorem wipeE_length (ρ : En) : ∀ vs : List Nat, (wipeE ρ vs).length = ρ.length
  | [] => rfl
  | v :: vs => by unfold wipeE; rw [List.length_set, wipeE_length ρ vs]
theorem Rep.wipe {H : Hp} {σ : L2.St} {ρ : En} (r : Rep H σ ρ) : ∀ vs : List Nat, Rep H (wipe σ vs) (wipeE ρ vs)
  | [] => r
  | v :: vs => by
    have ih := Rep.wipe r vs
    unfold L2.wipe wipeE
    refine ⟨by simp [ih.len], fun j e ej => ?_⟩
    rw [List.getElem?_set] at ej ⊢
    by_cases hj : v = j
    · rw [if_pos hj] at ej
      by_cases hl : v < (wipeE ρ vs).length
      · rw [if_pos hl] at ej; cases ej
      · rw [if_neg hl] at ej; cases ej
    · rw [if_neg hj] at ej ⊢
      exact ih.at_ j e ej
theorem wipe_set (σ : L2.St) (i : Nat) (x : Option V) : ∀ vs : List Nat, i ∈ vs → wipe (σ.set i x) vs = wipe σ vs
  | [], h => nomatch h
  | v :: vs, h => by
    unfold wipe
    by_cases hm : i ∈ vs
    · rw [wipe_set σ i x vs hm]
    · have e : i = v := (List.mem_cons.mp h).resolve_right hm
      subst e
      have : ∀ ws : List Nat, i ∉ ws → wipe (σ.set i x) ws = (wipe σ ws).set i x := by
        intro ws
        induction ws with
        | nil => intro _; rfl
        | cons w ws ih =>
          intro hn
          rw [List.mem_cons, not_or] at hn
          unfold wipe
          rw [ih hn.2, List.set_comm _ _ (fun e => hn.1 e)]
      rw [this vs hm, List.set_set]
theorem wipe_wipe (σ : L2.St) (vs : List Nat) : ∀ ws : List Nat, (∀ i ∈ ws, i ∈ vs) → wipe (wipe σ ws) vs = wipe σ vs
  | [], _ => rfl
  | w :: ws, h => by
    rw [show wipe σ (w :: ws) = (wipe σ ws).set w none from rfl, wipe_set _ _ _ _ (h w (by simp)), wipe_wipe σ vs ws fun i hi => h i (List.mem_cons_of_mem _ hi)]
/-! ### what evaluates to which data -/
def Ev (te : TE) (ρ : En) (d : PyData) : Prop := ∀ (σ : L2.St) (Hc H : Hp), Same Hc H → Rep Hc σ ρ → ∀ Q : VK, (∀ v Hc' H', Step Hc H Hc' H' → Dq Hc' v d → Q v H') → te σ H Q
def Et (tt : TT) (ρ : En) (b : Bool) : Prop := ∀ (σ : L2.St) (Hc H : Hp), Same Hc H → Rep Hc σ ρ → ∀ Q : Bool → Hp → Prop, (∀ Hc' H', Step Hc H Hc' H' → Q b H') → tt σ H Q
def Ea (ta : TA) (ρ : En) (ds : List PyData) : Prop := ∀ (σ : L2.St) (Hc H : Hp), Same Hc H → Rep Hc σ ρ → ∀ Q : List V → Hp → Prop, (∀ vs Hc' H', Step Hc H Hc' H' → DqA Hc' vs ds → Q vs H') → ta σ H Q
/-- an operation on values that gives data of data -/
def Op2 (r : R2) (d e f : PyData) : Prop := ∀ (x y : V) (Hc H : Hp), Same Hc H → Dq Hc x d → Dq Hc y e → ∀ Q : VK, (∀ v Hc' H', Step Hc H Hc' H' → Dq Hc' v f → Q v H') → r x y H Q
def OpN (r : List V → Hp → VK → Prop) (ds : List PyData) (f : PyData) : Prop := ∀ (vs : List V) (Hc H : Hp), Same Hc H → DqA Hc vs ds → ∀ Q : VK, (∀ v Hc' H', Step Hc H Hc' H' → Dq Hc' v f → Q v H') → r vs H Q
section
variable {ρ : En} {ta tb te : TE} {t u : TT} {d e f : PyData} {r : R2}
theorem ev_var {i : Nat} (h : ρ[i]? = some (some d)) : Ev (tVar i) ρ d := fun σ Hc H s R Q q => by
  obtain ⟨v, h1, h2⟩ := R.at_ i d h
  exact ⟨v, h1, q v Hc H (Step.refl s) h2⟩
theorem ev_int {n : Int} : Ev (tC (.int n)) ρ (.int n) := fun σ Hc H s R Q q => q _ Hc H (Step.refl s) (.int n)
theorem ev_bl {b : Bool} : Ev (tC (.bl b)) ρ (.bool b) := fun σ Hc H s R Q q => q _ Hc H (Step.refl s) (.bl b)
theorem ev_non : Ev (tC .non) ρ .none := fun σ Hc H s R Q q => q _ Hc H (Step.refl s) .non
theorem ev_op (ha : Ev ta ρ d) (hb : Ev tb ρ e) (hr : Op2 r d e f) : Ev (tOp r ta tb) ρ f := fun σ Hc H s R Q q =>
  ha σ Hc H s R _ fun x Hc1 H1 s1 d1 => hb σ Hc1 H1 s1.sub (R.mono s1.cc) _ fun y Hc2 H2 s2 d2 =>
    hr x y Hc2 H2 s2.sub (d1.mono s2.cc) d2 Q fun v Hc3 H3 s3 d3 => q v Hc3 H3 ((s1.trans s2).trans s3) d3
theorem ea_nil : Ea tNil ρ [] := fun σ Hc H s R Q q => q [] Hc H (Step.refl s) .nil
theorem ea_cons {tr : TA} {ds : List PyData} (ha : Ev ta ρ d) (hr : Ea tr ρ ds) : Ea (tCons ta tr) ρ (d :: ds) := fun σ Hc H s R Q q =>
  ha σ Hc H s R _ fun x Hc1 H1 s1 d1 => hr σ Hc1 H1 s1.sub (R.mono s1.cc) _ fun vs Hc2 H2 s2 d2 => q _ Hc2 H2 (s1.trans s2) (.cons (d1.mono s2.cc) d2)
theorem ea_star {K : PySem.W.Frag} {tr : TA} {ds es : List PyData} (ha : Ev ta ρ (.list es)) (hr : Ea tr ρ ds) : Ea (StX.tStar K ta tr) ρ (es ++ ds) := fun σ Hc H s R Q q =>
  ha σ Hc H s R _ fun x Hc1 H1 s1 d1 => by
    cases d1 with
    | @lst a xs _ h1 h2 =>
      exact ⟨a, xs, rfl, .inr (SqL.of (s1.sub _ _ h1)), hr σ Hc1 H1 s1.sub (R.mono s1.cc) _ fun vs Hc2 H2 s2 d2 => q _ Hc2 H2 (s1.trans s2) ((h2.mono s2.cc).append d2)⟩
theorem sz_ok {n : Nat} (h : n ≤ 100000) : n ≤ sizeLine := Nat.le_trans h (by decide)
theorem ev_tup {t : TA} {ds : List PyData} (h : Ea t ρ ds) (hl : ds.length ≤ 100000) : Ev (tTup t) ρ (.tuple ds) := fun σ Hc H s R Q q =>
  h σ Hc H s R _ fun vs Hc1 H1 s1 d1 => ⟨by rw [d1.length]; exact sz_ok hl, fun p hp => q _ _ _ (s1.trans (Step.new s1.sub hp)) (.tup upd_same (d1.mono (same_new (s1.sub.free hp))))⟩
theorem ev_lst {t : TA} {ds : List PyData} (h : Ea t ρ ds) (hl : ds.length ≤ 100000) : Ev (tLst t) ρ (.list ds) := fun σ Hc H s R Q q =>
  h σ Hc H s R _ fun vs Hc1 H1 s1 d1 => ⟨by rw [d1.length]; exact sz_ok hl, fun p hp => q _ _ _ (s1.trans (Step.new s1.sub hp)) (.lst upd_same (d1.mono (same_new (s1.sub.free hp))))⟩
theorem ev_if {b : Bool} (h : Et t ρ b) (h1 : b = true → Ev ta ρ d) (h2 : b = false → Ev tb ρ d) : Ev (tIf t ta tb) ρ d := fun σ Hc H s R Q q =>
  h σ Hc H s R _ fun Hc1 H1 s1 => by
    cases b with
    | true =>
      show ta σ H1 Q
      exact h1 rfl σ Hc1 H1 s1.sub (R.mono s1.cc) Q fun v Hc2 H2 s2 d2 => q v Hc2 H2 (s1.trans s2) d2
    | false =>
      show tb σ H1 Q
      exact h2 rfl σ Hc1 H1 s1.sub (R.mono s1.cc) Q fun v Hc2 H2 s2 d2 => q v Hc2 H2 (s1.trans s2) d2
theorem et_B {b : Bool} (h : Ev te ρ (.bool b)) : Et (tB te) ρ b := fun σ Hc H s R Q q => h σ Hc H s R _ fun v Hc1 H1 s1 d1 => by
  cases d1
  exact ⟨b, rfl, q Hc1 H1 s1⟩
theorem et_test {b : Bool} (h : Ev te ρ (.bool b)) : Et (tTest te) ρ b := fun σ Hc H s R Q q => h σ Hc H s R _ fun v Hc1 H1 s1 d1 => by
  cases d1
  exact ⟨b, rfl, q Hc1 H1 s1⟩
theorem et_and {a b : Bool} (h1 : Et t ρ a) (h2 : a = true → Et u ρ b) : Et (tAnd t u) ρ (a && b) := fun σ Hc H s R Q q => h1 σ Hc H s R _ fun Hc1 H1 s1 => by
  cases a with
  | true =>
    show u σ H1 Q
    exact h2 rfl σ Hc1 H1 s1.sub (R.mono s1.cc) Q fun Hc2 H2 s2 => q Hc2 H2 (s1.trans s2)
  | false =>
    show Q false H1
    exact q Hc1 H1 s1
theorem et_or {a b : Bool} (h1 : Et t ρ a) (h2 : a = false → Et u ρ b) : Et (tOr t u) ρ (a || b) := fun σ Hc H s R Q q => h1 σ Hc H s R _ fun Hc1 H1 s1 => by
  cases a with
  | true =>
    show Q true H1
    exact q Hc1 H1 s1
  | false =>
    show u σ H1 Q
    exact h2 rfl σ Hc1 H1 s1.sub (R.mono s1.cc) Q fun Hc2 H2 s2 => q Hc2 H2 (s1.trans s2)
theorem et_not {a : Bool} (h : Et t ρ a) : Et (tNot t) ρ (!a) := fun σ Hc H s R Q q => h σ Hc H s R _ fun Hc1 H1 s1 => q Hc1 H1 s1
theorem ev_andV {a b : Bool} (h1 : Ev ta ρ (.bool a)) (h2 : a = true → Ev tb ρ (.bool b)) : Ev (tAndV ta tb) ρ (.bool (a && b)) := fun σ Hc H s R Q q => h1 σ Hc H s R _ fun v Hc1 H1 s1 d1 => by
  cases d1
  refine ⟨a, rfl, ?_⟩
  cases a with
  | true =>
    show tb σ H1 Q
    exact h2 rfl σ Hc1 H1 s1.sub (R.mono s1.cc) Q fun v Hc2 H2 s2 d2 => q v Hc2 H2 (s1.trans s2) d2
  | false =>
    show Q (.bl false) H1
    exact q _ Hc1 H1 s1 (.bl _)
theorem ev_orV {a b : Bool} (h1 : Ev ta ρ (.bool a)) (h2 : a = false → Ev tb ρ (.bool b)) : Ev (tOrV ta tb) ρ (.bool (a || b)) := fun σ Hc H s R Q q => h1 σ Hc H s R _ fun v Hc1 H1 s1 d1 => by
  cases d1
  refine ⟨a, rfl, ?_⟩
  cases a with
  | true =>
    show Q (.bl true) H1
    exact q _ Hc1 H1 s1 (.bl _)
  | false =>
    show tb σ H1 Q
    exact h2 rfl σ Hc1 H1 s1.sub (R.mono s1.cc) Q fun v Hc2 H2 s2 d2 => q v Hc2 H2 (s1.trans s2) d2
theorem ev_notV {a : Bool} (h : Ev ta ρ (.bool a)) : Ev (tNotV ta) ρ (.bool (!a)) := fun σ Hc H s R Q q => h σ Hc H s R _ fun v Hc1 H1 s1 d1 => by
  cases d1
  exact ⟨a, rfl, q _ Hc1 H1 s1 (.bl _)⟩
theorem ev_un {r : V → Hp → VK → Prop} (h : Ev ta ρ d) (hr : ∀ (x : V) (Hc H : Hp), Same Hc H → Dq Hc x d → ∀ Q : VK, (∀ v Hc' H', Step Hc H Hc' H' → Dq Hc' v f → Q v H') → r x H Q) : Ev (tUn r ta) ρ f := fun σ Hc H s R Q q =>
  h σ Hc H s R _ fun x Hc1 H1 s1 d1 => hr x Hc1 H1 s1.sub d1 Q fun v Hc2 H2 s2 d2 => q v Hc2 H2 (s1.trans s2) d2
theorem ev_cb {r : List V → Hp → VK → Prop} {t : TA} {ds : List PyData} (h : Ea t ρ ds) (hr : OpN r ds f) : Ev (tCB r t) ρ f := fun σ Hc H s R Q q =>
  h σ Hc H s R _ fun vs Hc1 H1 s1 d1 => hr vs Hc1 H1 s1.sub d1 Q fun v Hc2 H2 s2 d2 => q v Hc2 H2 (s1.trans s2) d2
/-! ### a def that makes data of data -/
def spD (R : List PyData → PyData → Prop) : Sp := fun vs H Q _ => ∃ (Hc : Hp) (ds : List PyData) (d : PyData), Same Hc H ∧ DqA Hc vs ds ∧ R ds d ∧ ∀ v Hc' H', Step Hc H Hc' H' → Dq Hc' v d → Q v H'
theorem ev_call {R : List PyData → PyData → Prop} {E : XK} {t : TA} {ds : List PyData} (h : Ea t ρ ds) (hr : R ds f) : Ev (tCall (spD R) [] E t) ρ f := fun σ Hc H s Rp Q q =>
  h σ Hc H s Rp _ fun vs Hc1 H1 s1 d1 => by
    show spD R (vs ++ []) H1 Q E
    rw [List.append_nil]
    exact ⟨Hc1, ds, f, s1.sub, d1, hr, fun v Hc2 H2 s2 d2 => q v Hc2 H2 (s1.trans s2) d2⟩
end
end PH

set_option Elab.async false
set_option linter.all false
set_option maxRecDepth 100000
set_option maxHeartbeats 1000000
namespace PH
open PySem PySem.Spec PyProof.Rows L2
/-! ### operations over data -/
theorem o2_int {g : Int → Int → Int} {i j : Int} : Op2 (rI0 fun i j => .int (g i j)) (.int i) (.int j) (.int (g i j)) := fun x y Hc H s dx dy Q q => by
  cases dx; cases dy
  exact ⟨i, j, rfl, rfl, q _ Hc H (Step.refl s) (.int _)⟩
theorem o2_bool {g : Int → Int → Bool} {i j : Int} : Op2 (rI0 fun i j => .bl (g i j)) (.int i) (.int j) (.bool (g i j)) := fun x y Hc H s dx dy Q q => by
  cases dx; cases dy
  exact ⟨i, j, rfl, rfl, q _ Hc H (Step.refl s) (.bl _)⟩
theorem o2_intC {C : Int → Int → Prop} {g : Int → Int → Int} {i j : Int} (h : C i j) : Op2 (rI C fun i j => .int (g i j)) (.int i) (.int j) (.int (g i j)) := fun x y Hc H s dx dy Q q => by
  cases dx; cases dy
  exact ⟨i, j, rfl, rfl, h, q _ Hc H (Step.refl s) (.int _)⟩
theorem o2_eqI {i j : Int} : Op2 rEq (.int i) (.int j) (.bool (decide (i = j))) := fun x y Hc H s dx dy Q q => by
  cases dx; cases dy
  refine ⟨rfl, ?_⟩
  have e : decide (V.int i = V.int j) = decide (i = j) := by rw [dec_int]; exact (Bool.beq_eq_decide_eq i j)
  rw [e]
  exact q _ Hc H (Step.refl s) (.bl _)
theorem o2_neI {i j : Int} : Op2 rNe (.int i) (.int j) (.bool (!decide (i = j))) := fun x y Hc H s dx dy Q q => by
  cases dx; cases dy
  refine ⟨rfl, ?_⟩
  have e : decide (V.int i = V.int j) = decide (i = j) := by rw [dec_int]; exact (Bool.beq_eq_decide_eq i j)
  rw [e]
  exact q _ Hc H (Step.refl s) (.bl _)
theorem o2_neB {i j : Bool} : Op2 rNe (.bool i) (.bool j) (.bool (!(i == j))) := fun x y Hc H s dx dy Q q => by
  cases dx; cases dy
  refine ⟨rfl, ?_⟩
  rw [dec_bl]
  exact q _ Hc H (Step.refl s) (.bl _)
theorem o2_eqD {K : PySem.W.Frag} {d e : PyData} (hd : SeqAt.shaped d = true) (he : SeqAt.shaped e = true) : Op2 (rEqD K) d e (.bool (PyData.eqv d e)) := fun x y Hc H s dx dy Q q =>
  ⟨d, e, Dq.dp K _ _ (can_of hd) (dx.mono s), Dq.dp K _ _ (can_of he) (dy.mono s), hd, he, q _ Hc H (Step.refl s) (.bl _)⟩
theorem o2_neD {K : PySem.W.Frag} {d e : PyData} (hd : SeqAt.shaped d = true) (he : SeqAt.shaped e = true) : Op2 (rNeD K) d e (.bool (!PyData.eqv d e)) := fun x y Hc H s dx dy Q q =>
  ⟨d, e, Dq.dp K _ _ (can_of hd) (dx.mono s), Dq.dp K _ _ (can_of he) (dy.mono s), hd, he, q _ Hc H (Step.refl s) (.bl _)⟩
def isNone : PyData → Bool
  | .none => true
  | _ => false
theorem isNone_V {H : Hp} {v : V} {d : PyData} (h : Dq H v d) : decide (v = .non) = isNone d := by
  cases h <;> first | rfl | exact decide_eq_false (fun e => nomatch e)
theorem o2_notN {d : PyData} : Op2 (fun x y H Q => y = .non ∧ Q (.bl (!decide (x = .non))) H) d .none (.bool (!isNone d)) := fun x y Hc H s dx dy Q q => by
  cases dy
  refine ⟨rfl, ?_⟩
  rw [isNone_V dx]
  exact q _ Hc H (Step.refl s) (.bl _)
theorem o2_isN {d : PyData} : Op2 (fun x y H Q => y = .non ∧ Q (.bl (decide (x = .non))) H) d .none (.bool (isNone d)) := fun x y Hc H s dx dy Q q => by
  cases dy
  refine ⟨rfl, ?_⟩
  rw [isNone_V dx]
  exact q _ Hc H (Step.refl s) (.bl _)
theorem o2_ltT {K : PySem.W.Frag} {ns ms : List Int} : Op2 (rLtT K) (.tuple (ns.map .int)) (.tuple (ms.map .int)) (.bool (HT.lexLt ns ms)) := fun x y Hc H s dx dy Q q => by
  cases dx with
  | tup a1 a2 =>
    cases dy with
    | tup b1 b2 =>
      rw [ints_of a2] at a1
      rw [ints_of b2] at b1
      exact ⟨_, _, ns, ms, rfl, rfl, SqT.of (s _ _ a1), SqT.of (s _ _ b1), q _ Hc H (Step.refl s) (.bl _)⟩
theorem at_of {H : Hp} {xs : List V} {ds : List PyData} {i : Int} {d : PyData} (h : DqA H xs ds) (e : atI ds i = some d) : ∃ v, atI xs i = some v ∧ Dq H v d := by
  unfold atI at e ⊢
  rw [h.length]
  cases hn : ixN ds.length i with
  | none => rw [hn] at e; cases e
  | some j =>
    rw [hn] at e
    exact h.get (i := j) e
theorem o2_ixT {K : PySem.W.Frag} {ds : List PyData} {i : Int} {d : PyData} (e : atI ds i = some d) : Op2 (rIxT K) (.tuple ds) (.int i) d := fun x y Hc H s dx dy Q q => by
  cases dx with
  | tup a1 a2 =>
    cases dy
    obtain ⟨v, h1, h2⟩ := at_of a2 e
    exact ⟨_, _, i, v, rfl, rfl, SqT.of (s _ _ a1), h1, q v Hc H (Step.refl s) h2⟩
theorem o2_ixL {K : PySem.W.Frag} {ds : List PyData} {i : Int} {d : PyData} (e : atI ds i = some d) : Op2 (rIxL K) (.list ds) (.int i) d := fun x y Hc H s dx dy Q q => by
  cases dx with
  | lst a1 a2 =>
    cases dy
    obtain ⟨v, h1, h2⟩ := at_of a2 e
    exact ⟨_, _, i, v, rfl, rfl, SqL.of (s _ _ a1), h1, q v Hc H (Step.refl s) h2⟩
theorem o2_cat {ds es : List PyData} (hl : ds.length + es.length ≤ 100000) : Op2 rCat (.list ds) (.list es) (.list (ds ++ es)) := fun x y Hc H s dx dy Q q => by
  cases dx with
  | lst a1 a2 =>
    cases dy with
    | lst b1 b2 =>
      exact ⟨_, _, _, _, rfl, rfl, s _ _ a1, s _ _ b1, by rw [a2.length, b2.length]; exact sz_ok hl, fun p hp =>
        q _ _ _ (Step.new s hp) (.lst upd_same ((a2.append b2).mono (same_new (s.free hp))))⟩
theorem o2_catA {K : PySem.W.Frag} {ds es : List PyData} (hl : ds.length + es.length ≤ 100000) : Op2 (rCatA K) (.tuple ds) (.tuple es) (.tuple (ds ++ es)) := fun x y Hc H s dx dy Q q => by
  cases dx with
  | @tup a xs _ a1 a2 =>
    cases dy with
    | @tup b ys _ b1 b2 =>
      refine ⟨_, _, _, _, rfl, rfl, SqT.of (s _ _ a1), SqT.of (s _ _ b1), by rw [a2.length, b2.length]; exact sz_ok hl, fun e => ?_, fun _ e => ?_, fun _ _ p hp => ?_⟩
      · have : ds = [] := by
          have := a2.length
          rw [e] at this
          exact List.eq_nil_of_length_eq_zero this.symm
        refine q _ Hc H (Step.refl s) ?_
        rw [this]
        exact .tup b1 b2
      · have : es = [] := by
          have := b2.length
          rw [e] at this
          exact List.eq_nil_of_length_eq_zero this.symm
        refine q _ Hc H (Step.refl s) ?_
        rw [this, List.append_nil]
        exact .tup a1 a2
      · exact q _ _ _ (Step.new s hp) (.tup upd_same ((a2.append b2).mono (same_new (s.free hp))))
def rSubB : R2 := fun x y H Q => ∃ a b : Bool, x = .bl a ∧ y = .bl b ∧ Q (.int (b2i a - b2i b)) H
theorem op_subB {X : Cx} : OpR X (binaryOp .Sub) rSubB := by
  intro pins s σ H x y v u Q I rx ry h
  obtain ⟨a, b, rfl, rfl, q⟩ := h
  cases rx
  cases ry
  exact sub_bool ⟨.int (b2i a - b2i b), H, I.tok _, ⟨_, rfl⟩, q⟩
theorem o2_subB {a b : Bool} : Op2 rSubB (.bool a) (.bool b) (.int (b2i a - b2i b)) := fun x y Hc H s dx dy Q q => by
  cases dx; cases dy
  exact ⟨a, b, rfl, rfl, q _ Hc H (Step.refl s) (.int _)⟩
/-- // of great numbers by any number but 0 -/
def CDivZ (_ j : Int) : Prop := j ≠ 0 ∧ j.natAbs.log2 < 9000
theorem op_fdivZ {X : Cx} : OpR X (binaryOp .FloorDiv) (rI CDivZ fun i j => .int (i.fdiv j)) := opI fun i j _ _ _ _ _ hc q => floordiv_int hc.1 q (.inl (PyProof.noPylong_of_log2 hc.2))
theorem o2_notInD {K : PySem.W.Frag} {d : PyData} {ds : List PyData} (hd : SeqAt.shaped d = true) (hs : SeqAt.shaped (.list ds) = true) : Op2 (rNotInD K) d (.list ds) (.bool (!ds.any fun z => PyData.eqv z d)) := fun x y Hc H s dx dy Q q =>
  ⟨d, ds, Dq.dp K _ _ (can_of hd) (dx.mono s), Dq.dp K _ _ (can_of hs) (dy.mono s), hd, hs, q _ Hc H (Step.refl s) (.bl _)⟩
/-! ### calls of built-ins -/
theorem on_len {X : Cx} {ds : List PyData} : OpN (fun xs H Q => ∃ p ys, xs = [.ref p] ∧ (SqL X.K H p ys ∨ SqT X.K H p ys) ∧ Q (.int ys.length) H) [.list ds] (.int ds.length) := fun vs Hc H s da Q q => by
  cases da with
  | cons a b =>
    cases b
    cases a with
    | lst a1 a2 =>
      refine ⟨_, _, rfl, .inl (SqL.of (s _ _ a1)), ?_⟩
      rw [a2.length]
      exact q _ Hc H (Step.refl s) (.int _)
theorem on_lenT {X : Cx} {ds : List PyData} : OpN (fun xs H Q => ∃ p ys, xs = [.ref p] ∧ (SqL X.K H p ys ∨ SqT X.K H p ys) ∧ Q (.int ys.length) H) [.tuple ds] (.int ds.length) := fun vs Hc H s da Q q => by
  cases da with
  | cons a b =>
    cases b
    cases a with
    | tup a1 a2 =>
      refine ⟨_, _, rfl, .inr (SqT.of (s _ _ a1)), ?_⟩
      rw [a2.length]
      exact q _ Hc H (Step.refl s) (.int _)
theorem on_gcd {a b : Int} : OpN rGcd [.int a, .int b] (.int (Nat.gcd a.natAbs b.natAbs : Nat)) := fun vs Hc H s da Q q => by
  cases da with
  | cons h1 t =>
    cases t with
    | cons h2 t =>
      cases t; cases h1; cases h2
      exact ⟨a, b, rfl, q _ Hc H (Step.refl s) (.int _)⟩
theorem args_gcd3 (a b c : Value) : argsOk "math.gcd" ⟨[a, b, c], []⟩ := by unfold argsOk; kernel_rfl
theorem run_gcd3 (a : Int) (t : Tok) (b : Int) (u : Tok) (c : Int) (v : Tok) :
    Gives (Builtin.«math.gcd» ⟨[.int a t, .int b u, .int c v], []⟩) (.int (((((Nat.gcd 0 a.natAbs).gcd b.natAbs).gcd c.natAbs : Nat) : Int))) :=
  .of_wp fun M A E s Q h => by obtain ⟨hp, g, d, tk, os⟩ := s; wp_walk; exact ⟨_, rfl, h⟩
def gcd3 (a b c : Int) : Nat := ((a.natAbs.gcd b.natAbs).gcd c.natAbs)
def rGcd3 : List V → Hp → VK → Prop := fun vs H Q => ∃ a b c : Int, vs = [.int a, .int b, .int c] ∧ Q (.int (gcd3 a b c : Nat)) H
theorem cr_gcd3 {X : Cx} : CallR X (.builtin "math.gcd") rGcd3 := by
  intro pins s σ H vs us Q I r h
  obtain ⟨a, b, c, rfl, q⟩ := h
  cases r with
  | cons r1 r =>
    cases r with
    | cons r2 r =>
      cases r with
      | cons r3 r =>
        cases r
        obtain ⟨t, rfl⟩ := r1
        obtain ⟨u, rfl⟩ := r2
        obtain ⟨v, rfl⟩ := r3
        have g := run_gcd3 a t b u c v
        rw [Nat.gcd_zero_left] at g
        exact call_function_meets PySem.W.MGF.kind_gcd PySem.W.MGF.plain_gcd PySem.W.MGF.entry_gcd (args_gcd3 _ _ _) g.meets ⟨.int (gcd3 a b c : Nat), H, I.tok _, ⟨_, rfl⟩, q⟩
theorem on_gcd3 {a b c : Int} : OpN rGcd3 [.int a, .int b, .int c] (.int (gcd3 a b c : Nat)) := fun vs Hc H s da Q q => by
  cases da with
  | cons h1 t =>
    cases t with
    | cons h2 t =>
      cases t with
      | cons h3 t =>
        cases t; cases h1; cases h2; cases h3
        exact ⟨a, b, c, rfl, q _ Hc H (Step.refl s) (.int _)⟩
theorem on_abs {i : Int} : OpN (fun xs H Q => ∃ i, xs = [.int i] ∧ Q (.int (if i < 0 then -i else i)) H) [.int i] (.int i.natAbs) := fun vs Hc H s da Q q => by
  cases da with
  | cons a b =>
    cases b; cases a
    refine ⟨i, rfl, ?_⟩
    have e : (if i < 0 then -i else i) = (i.natAbs : Int) := by split <;> omega
    rw [e]
    exact q _ Hc H (Step.refl s) (.int _)
theorem on_min {i j : Int} : OpN (fun xs H Q => ∃ i j, xs = [.int i, .int j] ∧ Q (.int (if j < i then j else i)) H) [.int i, .int j] (.int (min i j)) := fun vs Hc H s da Q q => by
  cases da with
  | cons a b =>
    cases b with
    | cons c b =>
      cases b; cases a; cases c
      refine ⟨i, j, rfl, ?_⟩
      have e : (if j < i then j else i) = min i j := by split <;> omega
      rw [e]
      exact q _ Hc H (Step.refl s) (.int _)
theorem on_max {i j : Int} : OpN (fun xs H Q => ∃ i j, xs = [.int i, .int j] ∧ Q (.int (if j > i then j else i)) H) [.int i, .int j] (.int (max i j)) := fun vs Hc H s da Q q => by
  cases da with
  | cons a b =>
    cases b with
    | cons c b =>
      cases b; cases a; cases c
      refine ⟨i, j, rfl, ?_⟩
      have e : (if j > i then j else i) = max i j := by split <;> omega
      rw [e]
      exact q _ Hc H (Step.refl s) (.int _)
theorem on_intI {i : Int} : OpN (fun xs H Q => (∃ i, xs = [.int i] ∧ Q (.int i) H) ∨ ∃ k, xs = [.bl k] ∧ Q (.int (if k then 1 else 0)) H) [.int i] (.int i) := fun vs Hc H s da Q q => by
  cases da with
  | cons a b =>
    cases b; cases a
    exact .inl ⟨i, rfl, q _ Hc H (Step.refl s) (.int _)⟩
theorem on_intB {k : Bool} : OpN (fun xs H Q => (∃ i, xs = [.int i] ∧ Q (.int i) H) ∨ ∃ k, xs = [.bl k] ∧ Q (.int (if k then 1 else 0)) H) [.bool k] (.int (if k then 1 else 0)) := fun vs Hc H s da Q q => by
  cases da with
  | cons a b =>
    cases b; cases a
    exact .inr ⟨k, rfl, q _ Hc H (Step.refl s) (.int _)⟩
theorem on_all {K : PySem.W.Frag} {bs : List Bool} : OpN (rAll K) [.list (bs.map .bool)] (.bool (bs.all id)) := fun vs Hc H s da Q q => by
  cases da with
  | cons a b =>
    cases b
    cases a with
    | lst a1 a2 =>
      rw [bools_of a2] at a1
      exact ⟨_, bs, rfl, SqL.of (s _ _ a1), q _ Hc H (Step.refl s) (.bl _)⟩
theorem on_any {K : PySem.W.Frag} {bs : List Bool} : OpN (rAny K) [.list (bs.map .bool)] (.bool (bs.any id)) := fun vs Hc H s da Q q => by
  cases da with
  | cons a b =>
    cases b
    cases a with
    | lst a1 a2 =>
      rw [bools_of a2] at a1
      exact ⟨_, bs, rfl, SqL.of (s _ _ a1), q _ Hc H (Step.refl s) (.bl _)⟩
theorem on_sum {K : PySem.W.Frag} {ns : List Int} : OpN (rSum K) [.list (ns.map .int)] (.int ns.sum) := fun vs Hc H s da Q q => by
  cases da with
  | cons a b =>
    cases b
    cases a with
    | lst a1 a2 =>
      rw [ints_of a2] at a1
      exact ⟨_, ns, rfl, SqL.of (s _ _ a1), q _ Hc H (Step.refl s) (.int _)⟩
theorem on_list {X : Cx} {ds : List PyData} : OpN (fun xs H Q => ∃ p ys, xs = [.ref p] ∧ (SqL X.K H p ys ∨ SqT X.K H p ys) ∧ ∀ l, H l = none → Q (.ref l) (upd H l (.lst ys))) [.tuple ds] (.list ds) := fun vs Hc H s da Q q => by
  cases da with
  | cons a b =>
    cases b
    cases a with
    | tup a1 a2 => exact ⟨_, _, rfl, .inr (SqT.of (s _ _ a1)), fun l hl => q _ _ _ (Step.new s hl) (.lst upd_same (a2.mono (same_new (s.free hl))))⟩
theorem on_tuple {X : Cx} {ds : List PyData} : OpN (fun xs H Q => ∃ p ys, xs = [.ref p] ∧ ((SqL X.K H p ys ∧ ∀ l, H l = none → Q (.ref l) (upd H l (.tup ys))) ∨ (SqT X.K H p ys ∧ Q (.ref p) H))) [.list ds] (.tuple ds) := fun vs Hc H s da Q q => by
  cases da with
  | cons a b =>
    cases b
    cases a with
    | lst a1 a2 => exact ⟨_, _, rfl, .inl ⟨SqL.of (s _ _ a1), fun l hl => q _ _ _ (Step.new s hl) (.tup upd_same (a2.mono (same_new (s.free hl))))⟩⟩
/-- isinstance, one built-in class -/
def tyOf : PyData → String
  | .none => "NoneType" | .bool _ => "bool" | .int _ => "int" | .str _ => "str" | .list _ => "list" | .tuple _ => "tuple" | .dict _ => "dict"
def isD : PyData → Bool
  | .dict _ => true
  | _ => false
theorem ty_of {K : PySem.W.Frag} {H : Hp} {v : V} {d : PyData} (h : Dq H v d) (hd : isD d = false) : TyX K H v (.type (tyOf d)) := by
  cases h with
  | non => exact .base .non
  | bl b => exact .base (.bl b)
  | int i => exact .base (.int i)
  | lst a b => exact .base (.lst a)
  | tup a b => exact .base (.tup a)
  | opq a => nomatch hd
  | dk a c b => nomatch hd
theorem cr_isi {X : Cx} {d : PyData} {T : String} {b : Bool} (hb : kitB (tyOf d) T = some b) {ρ : En} {te : TE} (h : Ev te ρ d) (hd : isD d = false := by rfl) : Ev (tCB (rIsi X.K) (tCons te (tCons (tC (.ty T)) tNil))) ρ (.bool b) := fun σ Hc H s R Q q =>
  h σ Hc H s R _ fun v Hc1 H1 s1 d1 => ⟨v, .ty T, .type (tyOf d), .type T, b, rfl, .ty T, ty_of (d1.mono s1.sub) hd, kit_ty hb, q _ Hc1 H1 s1 (.bl b)⟩
/-! ### slices -/
theorem ev_slL {K : PySem.W.Frag} {ρ : En} {te : TE} {tl th : TO} {ds : List PyData} {lo hi : Option Int} (h : Ev te ρ (.list ds)) (h1 : ∀ (σ : L2.St) H Q, Q lo H → tl σ H Q) (h2 : ∀ (σ : L2.St) H Q, Q hi H → th σ H Q) (es : List PyData)
    (he : ∀ (H : Hp) (xs : List V), DqA H xs ds → DqA H (cutV xs lo hi) es) : Ev (tSl (rSlL K) te tl th) ρ (.list es) := fun σ Hc H s R Q q => h σ Hc H s R _ fun v Hc1 H1 s1 d1 => by
  cases d1 with
  | lst a1 a2 =>
    refine h1 σ H1 _ (h2 σ H1 _ ⟨_, _, rfl, SqL.of (s1.sub _ _ a1), fun p hp => ?_⟩)
    exact q _ _ _ (s1.trans (Step.new s1.sub hp)) (.lst upd_same ((he _ _ a2).mono (same_new (s1.sub.free hp))))
theorem ev_slT {K : PySem.W.Frag} {ρ : En} {te : TE} {tl th : TO} {ds : List PyData} {lo hi : Option Int} (h : Ev te ρ (.tuple ds)) (h1 : ∀ (σ : L2.St) H Q, Q lo H → tl σ H Q) (h2 : ∀ (σ : L2.St) H Q, Q hi H → th σ H Q) (es : List PyData)
    (he : ∀ (H : Hp) (xs : List V), DqA H xs ds → DqA H (cutV xs lo hi) es) (hw : HT.sIx ds.length 0 lo = 0 ∧ HT.sIx ds.length ds.length hi = ds.length → es = ds) : Ev (tSl (rSlA K) te tl th) ρ (.tuple es) := fun σ Hc H s R Q q => h σ Hc H s R _ fun v Hc1 H1 s1 d1 => by
  cases d1 with
  | tup a1 a2 =>
    refine h1 σ H1 _ (h2 σ H1 _ ⟨_, _, rfl, SqT.of (s1.sub _ _ a1), fun w => ?_, fun _ p hp => ?_⟩)
    · rw [a2.length] at w
      refine q _ Hc1 H1 s1 ?_
      rw [hw w]
      exact .tup a1 a2
    · exact q _ _ _ (s1.trans (Step.new s1.sub hp)) (.tup upd_same ((he _ _ a2).mono (same_new (s1.sub.free hp))))
theorem ev_revL {K : PySem.W.Frag} {ρ : En} {te : TE} {ds : List PyData} (h : Ev te ρ (.list ds)) : Ev (tRevL K te) ρ (.list ds.reverse) := fun σ Hc H s R Q q => h σ Hc H s R _ fun v Hc1 H1 s1 d1 => by
  cases d1 with
  | lst a1 a2 => exact ⟨_, _, rfl, SqL.of (s1.sub _ _ a1), fun p hp => q _ _ _ (s1.trans (Step.new s1.sub hp)) (.lst upd_same (a2.rev.mono (same_new (s1.sub.free hp))))⟩
theorem to_none (σ : L2.St) (H : Hp) (Q : Option Int → Hp → Prop) (q : Q none H) : tNoPart σ H Q := q
theorem to_int (n : Int) (σ : L2.St) (H : Hp) (Q : Option Int → Hp → Prop) (q : Q (some n) H) : tPart (tC (.int n)) σ H Q := ⟨n, rfl, q⟩
theorem to_neg (n : Int) (σ : L2.St) (H : Hp) (Q : Option Int → Hp → Prop) (q : Q (some (-n)) H) : tPart (tUn (rU fun i => .int (-i)) (tC (.int n))) σ H Q := ⟨n, rfl, -n, rfl, q⟩
theorem cut_drop1 {H : Hp} (xs : List V) (ds : List PyData) (h : DqA H xs ds) : DqA H (cutV xs (some 1) none) (ds.drop 1) := by
  unfold cutV
  rw [show HT.sIx xs.length 0 (some 1) = min 1 xs.length from HT.sIx_nat xs.length 0 1, HT.sIx_none]
  have e : (xs.drop (min 1 xs.length)).take (xs.length - min 1 xs.length) = xs.drop 1 := by
    cases xs with
    | nil => rfl
    | cons x r =>
      rw [show min 1 (x :: r).length = 1 by rw [List.length_cons]; omega]
      exact List.take_of_length_le (by simp)
  rw [e]
  exact h.drop 1
theorem cut_take1 {H : Hp} (xs : List V) (ds : List PyData) (h : DqA H xs ds) : DqA H (cutV xs none (some 1)) (ds.take 1) := by
  unfold cutV
  rw [show HT.sIx xs.length xs.length (some 1) = min 1 xs.length from HT.sIx_nat xs.length xs.length 1, HT.sIx_none]
  have e : (xs.drop 0).take (min 1 xs.length - 0) = xs.take 1 := by
    cases xs with
    | nil => rfl
    | cons x r =>
      rw [show min 1 (x :: r).length = 1 by rw [List.length_cons]; omega]
      rfl
  rw [e]
  exact h.take 1
theorem cut_dropLast {H : Hp} (xs : List V) (ds : List PyData) (h : DqA H xs ds) : DqA H (cutV xs none (some (-1))) ds.dropLast := by
  unfold cutV
  rw [HT.sIx_none]
  have e : HT.sIx xs.length xs.length (some (-1)) = xs.length - 1 := by
    have := HT.clip_eq (-1) xs.length xs.length
    rw [if_pos (by decide)] at this
    omega
  rw [e, List.drop_zero, Nat.sub_zero, ← List.dropLast_eq_take]
  exact h.dropLast
end PH

set_option Elab.async false
set_option linter.all false
set_option maxRecDepth 100000
set_option maxHeartbeats 1000000
namespace PH
open PySem PySem.Spec PyProof.Rows L2
/-! ### an expression of the text, and the data that it gives -/
def teOf (X : Cx) (e : Expr) : TE := fun σ H Q => ∀ (pins : List (Addr × Obj)) (s : Shared), Inv X pins σ H s → wpAny (model X.prog X.w) X.A (eval e X.env) (EP X pins σ Q) X.xe s
def ttOf (X : Cx) (e : Expr) : TT := fun σ H Q => ∀ (pins : List (Addr × Obj)) (s : Shared), Inv X pins σ H s → wpAny (model X.prog X.w) X.A (isTrue e X.env (eval e X.env)) (TP X pins σ Q) X.xe s
def tiOf (X : Cx) (tg e : Expr) : TI := fun σ H R => ∀ (pins : List (Addr × Obj)) (s : Shared), Inv X pins σ H s → wpAny (model X.prog X.w) X.A (eval e X.env) (fun v s1 => wpAny (model X.prog X.w) X.A (pyIter v) (PIE X pins σ tg R) X.xe s1) X.xe s
def tsOf (X : Cx) (st : List Stmt) : TS := fun D σ H => ∀ (pins : List (Addr × Obj)) (s : Shared), Inv X pins σ H s → wpAny (model X.prog X.w) X.A (execs st X.env) (SP X pins D) X.xe s
section
variable {X : Cx} {ρ : En} {e a b : Expr} {te : TE} {d : PyData}
theorem pe_self (X : Cx) (e : Expr) : PE X e (teOf X e) := ⟨fun pins s _ _ _ I h => h pins s I⟩
theorem pt_self (X : Cx) (e : Expr) : PT X e (ttOf X e) := ⟨fun pins s _ _ _ I h => h pins s I⟩
theorem pi_self (X : Cx) (tg e : Expr) : PI X tg e (tiOf X tg e) := ⟨fun pins s _ _ _ I h => h pins s I⟩
theorem pss_self (X : Cx) (st : List Stmt) : PSs X st (tsOf X st) := ⟨fun pins s _ _ _ I h => h pins s I⟩
def DE (X : Cx) (e : Expr) (ρ : En) (d : PyData) : Prop := Ev (teOf X e) ρ d
def DT (X : Cx) (e : Expr) (ρ : En) (b : Bool) : Prop := Et (ttOf X e) ρ b
theorem de_of (h : PE X e te) (v : Ev te ρ d) : DE X e ρ d := fun σ Hc H s R Q q pins sh I => h.run pins sh σ H Q I (v σ Hc H s R Q q)
theorem dt_of {tt : TT} {b : Bool} (h : PT X e tt) (v : Et tt ρ b) : DT X e ρ b := fun σ Hc H s R Q q pins sh I => h.run pins sh σ H Q I (v σ Hc H s R Q q)
theorem DE.is {d' : PyData} (h : DE X e ρ d) (q : d = d') : DE X e ρ d' := q ▸ h
theorem DT.is {b b' : Bool} (h : DT X e ρ b) (q : b = b') : DT X e ρ b' := q ▸ h
/-- arguments -/
def DA (X : Cx) (es : List Expr) (ρ : En) (ds : List PyData) : Prop := ∃ ta, PA X es ta ∧ Ea ta ρ ds
theorem da_nil : DA X [] ρ [] := ⟨_, pa_nil, ea_nil⟩
theorem da_cons {es : List Expr} {ds : List PyData} (h : DE X e ρ d) (t : DA X es ρ ds) (hs : starEach (e :: es) X.env = (false, eval e X.env) :: starEach es X.env := by rfl) : DA X (e :: es) ρ (d :: ds) :=
  let ⟨_, p, q⟩ := t; ⟨_, pa_cons (pe_self X e) p hs, ea_cons h q⟩
theorem da_star {es : List Expr} {ds xs : List PyData} {p : Pos} (h : DE X e ρ (.list xs)) (t : DA X es ρ ds) (hs : starEach (.Starred e p :: es) X.env = (true, eval e X.env) :: starEach es X.env := by rfl) : DA X (.Starred e p :: es) ρ (xs ++ ds) :=
  let ⟨_, p, q⟩ := t; ⟨_, StX.pa_star (pe_self X e) p hs, ea_star h q⟩
variable {pos p : Pos} {i j : Int}
theorem d_v (n : Nat) {x : Str} (h : ρ[n]? = some (some d) := by rfl) (hN : X.N[n]? = some x := by rfl) (hv : Vis X.env.scope x := by first | exact Or.inl rfl | exact Or.inr (Or.inl rfl) | exact Or.inr (Or.inr rfl)) (hd : (x == ("__debug__" : Str)) = false := by decide)
    (hcd : (x == ("__classdict__" : Str)) = false := by decide) : DE X (.Name x pos) ρ d := de_of (pe_var hN hv hd hcd) (ev_var h)
theorem d_int {n : Int} {k : Nat} : DE X (.Constant (.int n) k pos) ρ (.int n) := de_of pe_int ev_int
theorem d_bl {b : Bool} {k : Nat} : DE X (.Constant (.bool b) k pos) ρ (.bool b) := de_of pe_bl ev_bl
theorem d_non {k : Nat} : DE X (.Constant .none k pos) ρ .none := de_of pe_non ev_non
theorem d_tup {es : List Expr} {k : Nat} {ds : List PyData} (h : DA X es ρ ds) (hl : ds.length ≤ 100000 := by exact Nat.le_of_ble_eq_true rfl) : DE X (.Tuple es k pos) ρ (.tuple ds) := let ⟨_, p, q⟩ := h; de_of (pe_tup p) (ev_tup q hl)
theorem d_lst {es : List Expr} {ds : List PyData} (h : DA X es ρ ds) (hl : ds.length ≤ 100000 := by exact Nat.le_of_ble_eq_true rfl) : DE X (.List es pos) ρ (.list ds) := let ⟨_, p, q⟩ := h; de_of (pe_lst p) (ev_lst q hl)
theorem d_bin {op : Operator} {r : R2} {x y z : PyData} (ho : OpR X (binaryOp op) r) (h2 : Op2 r x y z) (ha : DE X a ρ x) (hb : DE X b ρ y) : DE X (.BinOp a op b pos) ρ z := de_of (pe_op ho (pe_self X a) (pe_self X b)) (ev_op ha hb h2)
theorem d_add (ha : DE X a ρ (.int i)) (hb : DE X b ρ (.int j)) : DE X (.BinOp a .Add b pos) ρ (.int (i + j)) := d_bin op_add o2_int ha hb
theorem d_sub (ha : DE X a ρ (.int i)) (hb : DE X b ρ (.int j)) : DE X (.BinOp a .Sub b pos) ρ (.int (i - j)) := d_bin op_sub o2_int ha hb
theorem d_mul (hc : CMulW i j) (ha : DE X a ρ (.int i)) (hb : DE X b ρ (.int j)) : DE X (.BinOp a .Mult b pos) ρ (.int (i * j)) := d_bin op_mulW (o2_intC hc) ha hb
theorem d_div (hc : CDivZ i j) (ha : DE X a ρ (.int i)) (hb : DE X b ρ (.int j)) : DE X (.BinOp a .FloorDiv b pos) ρ (.int (i.fdiv j)) := d_bin op_fdivZ (o2_intC hc) ha hb
theorem d_mod (hc : j ≠ 0) (ha : DE X a ρ (.int i)) (hb : DE X b ρ (.int j)) : DE X (.BinOp a .Mod b pos) ρ (.int (i.fmod j)) := d_bin op_modN (o2_intC hc) ha hb
theorem d_subB {x y : Bool} (ha : DE X a ρ (.bool x)) (hb : DE X b ρ (.bool y)) : DE X (.BinOp a .Sub b pos) ρ (.int (b2i x - b2i y)) := d_bin op_subB o2_subB ha hb
theorem d_cat {ds es : List PyData} (ha : DE X a ρ (.list ds)) (hb : DE X b ρ (.list es)) (hl : ds.length + es.length ≤ 100000) : DE X (.BinOp a .Add b pos) ρ (.list (ds ++ es)) := d_bin op_cat (o2_cat hl) ha hb
theorem d_catT {ds es : List PyData} (ha : DE X a ρ (.tuple ds)) (hb : DE X b ρ (.tuple es)) (hl : ds.length + es.length ≤ 100000) : DE X (.BinOp a .Add b pos) ρ (.tuple (ds ++ es)) := d_bin op_catA (o2_catA hl) ha hb
theorem d_neg (ha : DE X a ρ (.int i)) : DE X (.UnaryOp .USub a pos) ρ (.int (-i)) := de_of (pe_un un_neg (pe_self X a)) (ev_un ha fun x Hc H s dx Q q => by
  cases dx
  exact ⟨i, rfl, q _ Hc H (Step.refl s) (.int _)⟩)
theorem d_ixT {ds : List PyData} (e : atI ds i = some d) (ha : DE X a ρ (.tuple ds)) (hb : DE X b ρ (.int i)) (hs : PlainIx b := by exact fun _ _ => rfl) : DE X (.Subscript a b pos) ρ d := de_of (pe_ix ix_tup (pe_self X a) (pe_self X b) hs) (ev_op ha hb (o2_ixT e))
theorem d_ixL {ds : List PyData} (e : atI ds i = some d) (ha : DE X a ρ (.list ds)) (hb : DE X b ρ (.int i)) (hs : PlainIx b := by exact fun _ _ => rfl) : DE X (.Subscript a b pos) ρ d := de_of (pe_ix ix_list (pe_self X a) (pe_self X b) hs) (ev_op ha hb (o2_ixL e))
/-! comparisons, as values and as tests -/
theorem d_cmp {op : CmpOp} {r : R2} {x y z : PyData} (ho : OpR X (compareOp op) r) (h2 : Op2 r x y z) (hm : behindInMarks op b = false) (ha : DE X a ρ x) (hb : DE X b ρ y) : DE X (.Compare a [op] [b] pos) ρ z := de_of (pe_cmpR ho (pe_self X a) (pe_self X b) hm) (ev_op ha hb h2)
theorem t_cmp {op : CmpOp} {r : R2} {x y : PyData} {k : Bool} (ho : OpR X (compareOp op) r) (h2 : Op2 r x y (.bool k)) (hm : behindInMarks op b = false) (ha : DE X a ρ x) (hb : DE X b ρ y) : DT X (.Compare a [op] [b] pos) ρ k := dt_of (pt_cmpR ho (pe_self X a) (pe_self X b) hm) (et_test (ev_op ha hb h2))
theorem d_lt (ha : DE X a ρ (.int i)) (hb : DE X b ρ (.int j)) : DE X (.Compare a [.Lt] [b] pos) ρ (.bool (decide (i < j))) := d_cmp op_lt o2_bool (nomark _) ha hb
theorem d_gt (ha : DE X a ρ (.int i)) (hb : DE X b ρ (.int j)) : DE X (.Compare a [.Gt] [b] pos) ρ (.bool (decide (j < i))) := d_cmp op_gt o2_bool (nomark _) ha hb
theorem d_le (ha : DE X a ρ (.int i)) (hb : DE X b ρ (.int j)) : DE X (.Compare a [.LtE] [b] pos) ρ (.bool (decide (i ≤ j))) := d_cmp op_le o2_bool (nomark _) ha hb
theorem d_ge (ha : DE X a ρ (.int i)) (hb : DE X b ρ (.int j)) : DE X (.Compare a [.GtE] [b] pos) ρ (.bool (decide (j ≤ i))) := d_cmp op_ge o2_bool (nomark _) ha hb
theorem d_eqI (ha : DE X a ρ (.int i)) (hb : DE X b ρ (.int j)) : DE X (.Compare a [.Eq] [b] pos) ρ (.bool (decide (i = j))) := d_cmp op_eq o2_eqI (nomark _) ha hb
theorem d_eqD {x y : PyData} (hu : X.A.units + 64 < cLine) (hx : SeqAt.shaped x = true) (hy : SeqAt.shaped y = true) (ha : DE X a ρ x) (hb : DE X b ρ y) : DE X (.Compare a [.Eq] [b] pos) ρ (.bool (PyData.eqv x y)) := d_cmp (op_eqD hu) (o2_eqD hx hy) (nomark _) ha hb
theorem d_ltT {ns ms : List Int} (hu : X.A.units < cLine) (ha : DE X a ρ (.tuple (ns.map .int))) (hb : DE X b ρ (.tuple (ms.map .int))) : DE X (.Compare a [.Lt] [b] pos) ρ (.bool (HT.lexLt ns ms)) := d_cmp (op_ltT hu) o2_ltT (nomark _) ha hb
theorem d_notN {x : PyData} {k : Nat} {p : Pos} (ha : DE X a ρ x) : DE X (.Compare a [.IsNot] [.Constant .none k p] pos) ρ (.bool (!isNone x)) := d_cmp op_notN o2_notN (nomark _) ha d_non
theorem t_lt (ha : DE X a ρ (.int i)) (hb : DE X b ρ (.int j)) : DT X (.Compare a [.Lt] [b] pos) ρ (decide (i < j)) := t_cmp op_lt o2_bool (nomark _) ha hb
theorem t_gt (ha : DE X a ρ (.int i)) (hb : DE X b ρ (.int j)) : DT X (.Compare a [.Gt] [b] pos) ρ (decide (j < i)) := t_cmp op_gt o2_bool (nomark _) ha hb
theorem t_le (ha : DE X a ρ (.int i)) (hb : DE X b ρ (.int j)) : DT X (.Compare a [.LtE] [b] pos) ρ (decide (i ≤ j)) := t_cmp op_le o2_bool (nomark _) ha hb
theorem t_ge (ha : DE X a ρ (.int i)) (hb : DE X b ρ (.int j)) : DT X (.Compare a [.GtE] [b] pos) ρ (decide (j ≤ i)) := t_cmp op_ge o2_bool (nomark _) ha hb
theorem t_eqI (ha : DE X a ρ (.int i)) (hb : DE X b ρ (.int j)) : DT X (.Compare a [.Eq] [b] pos) ρ (decide (i = j)) := t_cmp op_eq o2_eqI (nomark _) ha hb
theorem t_neI (ha : DE X a ρ (.int i)) (hb : DE X b ρ (.int j)) : DT X (.Compare a [.NotEq] [b] pos) ρ (!decide (i = j)) := t_cmp op_ne o2_neI (nomark _) ha hb
theorem t_neB {x y : Bool} (ha : DE X a ρ (.bool x)) (hb : DE X b ρ (.bool y)) : DT X (.Compare a [.NotEq] [b] pos) ρ (!(x == y)) := t_cmp op_ne o2_neB (nomark _) ha hb
theorem t_eqD {x y : PyData} (hu : X.A.units + 64 < cLine) (hx : SeqAt.shaped x = true) (hy : SeqAt.shaped y = true) (ha : DE X a ρ x) (hb : DE X b ρ y) : DT X (.Compare a [.Eq] [b] pos) ρ (PyData.eqv x y) := t_cmp (op_eqD hu) (o2_eqD hx hy) (nomark _) ha hb
theorem t_neD {x y : PyData} (hu : X.A.units + 64 < cLine) (hx : SeqAt.shaped x = true) (hy : SeqAt.shaped y = true) (ha : DE X a ρ x) (hb : DE X b ρ y) : DT X (.Compare a [.NotEq] [b] pos) ρ (!PyData.eqv x y) := t_cmp (op_neD hu) (o2_neD hx hy) (nomark _) ha hb
theorem t_isN {x : PyData} {k : Nat} {p : Pos} (ha : DE X a ρ x) : DT X (.Compare a [.Is] [.Constant .none k p] pos) ρ (isNone x) := t_cmp op_isN o2_isN (nomark _) ha d_non
theorem t_notN {x : PyData} {k : Nat} {p : Pos} (ha : DE X a ρ x) : DT X (.Compare a [.IsNot] [.Constant .none k p] pos) ρ (!isNone x) := t_cmp op_notN o2_notN (nomark _) ha d_non
theorem t_notIn {x : PyData} {ds : List PyData} (hu : X.A.units + 65 < cLine) (ho : OpR X (compareOp .NotIn) (rNotInD X.K)) (hx : SeqAt.shaped x = true) (hy : SeqAt.shaped (.list ds) = true) (hm : behindInMarks .NotIn b = false) (ha : DE X a ρ x) (hb : DE X b ρ (.list ds)) : DT X (.Compare a [.NotIn] [b] pos) ρ (!ds.any fun z => PyData.eqv z x) := t_cmp ho (o2_notInD hx hy) hm ha hb
/-! tests -/
theorem t_v {k : Bool} (h : DE X e ρ (.bool k)) (he : ∀ whole, isTrue e X.env whole = (do let v ← whole; standAt e.pos; holding [v] (truthy v)) := by intro _; rfl) : DT X e ρ k := dt_of (pt_val (pe_self X e) he) (et_B h)
theorem t_not {k : Bool} (h : DT X e ρ k) : DT X (.UnaryOp .Not e pos) ρ (!k) := dt_of (pt_not (pt_self X e)) (et_not h)
/-- and, or, of any number -/
def DW (X : Cx) (e : Expr) (ρ : En) (b : Bool) : Prop := ∃ tt, PW X e tt ∧ Et tt ρ b
theorem w_and1 {k : Bool} (h : DT X a ρ k) : DW X (.BoolOp .And [a] pos) ρ k := ⟨_, pw_and1 (pt_self X a), h⟩
theorem w_or1 {k : Bool} (h : DT X a ρ k) : DW X (.BoolOp .Or [a] pos) ρ k := ⟨_, pw_or1 (pt_self X a), h⟩
theorem w_and {k l : Bool} {rest : List Expr} (h : DT X a ρ k) (t : k = true → DW X (.BoolOp .And (b :: rest) pos) ρ l) (p : ∃ tt, PW X (.BoolOp .And (b :: rest) pos) tt ∧ (k = true → Et tt ρ l)) : DW X (.BoolOp .And (a :: b :: rest) pos) ρ (k && l) :=
  let ⟨_, p1, p2⟩ := p; ⟨_, pw_and (pt_self X a) p1, et_and h p2⟩
end
end PH

set_option Elab.async false
set_option linter.all false
set_option maxRecDepth 100000
set_option maxHeartbeats 1000000
namespace PH
open PySem PySem.Spec PyProof.Rows L2
section
variable {X : Cx} {ρ : En} {e a b c : Expr} {pos p : Pos} {d : PyData} {k l m : Bool}
/-! ### and, or, if-expressions -/
theorem t_and (h : DT X a ρ k) (t : k = true → DT X b ρ l) : DT X (.BoolOp .And [a, b] pos) ρ (k && l) := dt_of (PW.pt (pw_and (pt_self X a) (pw_and1 (pt_self X b)))) (et_and h t)
theorem t_or (h : DT X a ρ k) (t : k = false → DT X b ρ l) : DT X (.BoolOp .Or [a, b] pos) ρ (k || l) := dt_of (PW.pt (pw_or (pt_self X a) (pw_or1 (pt_self X b)))) (et_or h t)
theorem t_or3 (h : DT X a ρ k) (t : k = false → DT X b ρ l) (u : k = false → l = false → DT X c ρ m) : DT X (.BoolOp .Or [a, b, c] pos) ρ (k || (l || m)) :=
  dt_of (PW.pt (pw_or (pt_self X a) (pw_or (pt_self X b) (pw_or1 (pt_self X c))))) (et_or h fun e => et_or (t e) (u e))
theorem d_and (h : DE X a ρ (.bool k)) (t : k = true → DE X b ρ (.bool l)) : DE X (.BoolOp .And [a, b] pos) ρ (.bool (k && l)) := de_of (pe_and (pe_self X a) (pe_one (pe_self X b))) (ev_andV h t)
theorem d_or (h : DE X a ρ (.bool k)) (t : k = false → DE X b ρ (.bool l)) : DE X (.BoolOp .Or [a, b] pos) ρ (.bool (k || l)) := de_of (pe_or (pe_self X a) (pe_one (pe_self X b))) (ev_orV h t)
theorem d_and3 (h : DE X a ρ (.bool k)) (t : k = true → DE X b ρ (.bool l)) (u : k = true → l = true → DE X c ρ (.bool m)) : DE X (.BoolOp .And [a, b, c] pos) ρ (.bool (k && (l && m))) :=
  de_of (pe_and (pe_self X a) (pe_and (pe_self X b) (pe_one (pe_self X c)))) (ev_andV h fun e => ev_andV (t e) (u e))
theorem d_not (h : DE X a ρ (.bool k)) : DE X (.UnaryOp .Not a pos) ρ (.bool (!k)) := de_of (pe_not (pe_self X a)) (ev_notV h)
theorem d_if (h : DT X c ρ k) (h1 : k = true → DE X a ρ d) (h2 : k = false → DE X b ρ d) : DE X (.IfExp c a b pos) ρ d := de_of (pe_ifExp (pt_self X c) (pe_self X a) (pe_self X b)) (ev_if h h1 h2)
/-! ### slices, calls -/
theorem d_dl {k : Nat} {p1 p2 p3 : Pos} {ds : List PyData} (h : DE X a ρ (.list ds)) : DE X (.Subscript a (.Slice none (some (.UnaryOp .USub (.Constant (.int 1) k p1) p2)) none p3) pos) ρ (.list ds.dropLast) :=
  de_of (pe_slice sl_list (pe_self X a) po_none (po_some (pe_un un_neg pe_int))) (ev_slL h to_none (to_neg 1) _ fun H xs q => cut_dropLast xs _ q)
theorem d_tl {k : Nat} {p1 p3 : Pos} {ds : List PyData} (h : DE X a ρ (.tuple ds)) : DE X (.Subscript a (.Slice (some (.Constant (.int 1) k p1)) none none p3) pos) ρ (.tuple (ds.drop 1)) :=
  de_of (pe_slice sl_tupA (pe_self X a) (po_some pe_int) po_none) (ev_slT h (to_int 1) to_none _ (fun H xs q => cut_drop1 xs _ q) fun w => by
    rw [show HT.sIx ds.length 0 (some 1) = min 1 ds.length from HT.sIx_nat ds.length 0 1] at w
    have : ds = [] := List.eq_nil_of_length_eq_zero (by omega)
    rw [this] <;> rfl)
theorem d_hd {k : Nat} {p1 p3 : Pos} {ds : List PyData} (h : DE X a ρ (.tuple ds)) : DE X (.Subscript a (.Slice none (some (.Constant (.int 1) k p1)) none p3) pos) ρ (.tuple (ds.take 1)) :=
  de_of (pe_slice sl_tupA (pe_self X a) po_none (po_some pe_int)) (ev_slT h to_none (to_int 1) _ (fun H xs q => cut_take1 xs _ q) fun w => by
    rw [show HT.sIx ds.length ds.length (some 1) = min 1 ds.length from HT.sIx_nat ds.length ds.length 1] at w
    exact List.take_of_length_le (by omega))
theorem d_rev {k : Nat} {p1 p2 p3 : Pos} {ds : List PyData} (h : DE X a ρ (.list ds)) : DE X (.Subscript a (.Slice none none (some (.UnaryOp .USub (.Constant (.int 1) k p1) p2)) p3) pos) ρ (.list ds.reverse) := de_of (pe_revL (pe_self X a)) (ev_revL h)
/-- the built-in names that stand as they do at the start, and gcd -/
structure Top (mg : Str → Option Value) : Prop where
  isinstance : mg "isinstance" = none
  int : mg "int" = none
  bool : mg "bool" = none
  tuple : mg "tuple" = none
  len : mg "len" = none
  all : mg "all" = none
  any : mg "any" = none
  sorted : mg "sorted" = none
  zip : mg "zip" = none
  list : mg "list" = none
  range : mg "range" = none
  sum : mg "sum" = none
  min : mg "min" = none
  max : mg "max" = none
  abs : mg "abs" = none
  gcd : mg "gcd" = some (.builtin "math.gcd")
theorem bt_isinstance : bootBuiltins "isinstance" = some (.builtin "isinstance") := by decide +kernel
theorem bt_len : bootBuiltins "len" = some (.builtin "len") := by decide +kernel
theorem bt_all : bootBuiltins "all" = some (.builtin "all") := by decide +kernel
theorem bt_any : bootBuiltins "any" = some (.builtin "any") := by decide +kernel
theorem bt_sorted : bootBuiltins "sorted" = some (.builtin "sorted") := by decide +kernel
theorem bt_sum : bootBuiltins "sum" = some (.builtin "sum") := by decide +kernel
theorem bt_min : bootBuiltins "min" = some (.builtin "min") := by decide +kernel
theorem bt_max : bootBuiltins "max" = some (.builtin "max") := by decide +kernel
theorem bt_abs : bootBuiltins "abs" = some (.builtin "abs") := by decide +kernel
theorem bt_int : bootBuiltins "int" = some (.type "int") := by decide +kernel
theorem bt_bool : bootBuiltins "bool" = some (.type "bool") := by decide +kernel
theorem bt_tuple : bootBuiltins "tuple" = some (.type "tuple") := by decide +kernel
theorem bt_list : bootBuiltins "list" = some (.type "list") := by decide +kernel
abbrev dB (x : Str) : Prop := x ≠ "__name__" ∧ (x == ("__debug__" : Str)) = false
/-- no star -/
abbrev NS (e : Expr) : Prop := ∀ es env, starEach (e :: es) env = (false, eval e env) :: starEach es env
theorem d_callB {id : String} {x : Str} {r : List V → Hp → VK → Prop} {es : List Expr} {ds : List PyData} (hc : CallR X (.builtin id) r) (hg : Gl X x) (hm : X.mg x = none) (hv : bootBuiltins x = some (.builtin id)) (hx : dB x) (h : DA X (e :: es) ρ ds) (hr : OpN r ds d)
    (he : starEach (e :: es) X.env = (false, eval e X.env) :: starEach es X.env := by rfl) (hpl : (backTo pos (starEach es X.env)).any (·.1) = false := by rfl) : DE X (.Call (.Name x p) (e :: es) [] pos) ρ d :=
  let ⟨_, p1, p2⟩ := h; de_of (pe_callB hc hg hm hv p1 hx.1 hx.2 he hpl) (ev_cb p2 hr)
theorem d_callT {T : String} {x : Str} {r : List V → Hp → VK → Prop} {es : List Expr} {ds : List PyData} (hc : CallR X (.type T) r) (hg : Gl X x) (hm : X.mg x = none) (hv : bootBuiltins x = some (.type T)) (hx : dB x) (h : DA X (e :: es) ρ ds) (hr : OpN r ds d)
    (he : starEach (e :: es) X.env = (false, eval e X.env) :: starEach es X.env := by rfl) (hpl : (backTo pos (starEach es X.env)).any (·.1) = false := by rfl) : DE X (.Call (.Name x p) (e :: es) [] pos) ρ d :=
  let ⟨_, p1, p2⟩ := h; de_of (pe_callTy hc hg hm hv p1 hx.1 hx.2 he hpl) (ev_cb p2 hr)
theorem db_len : dB "len" := by decide +kernel
theorem db_all : dB "all" := by decide +kernel
theorem db_any : dB "any" := by decide +kernel
theorem db_sum : dB "sum" := by decide +kernel
theorem db_min : dB "min" := by decide +kernel
theorem db_max : dB "max" := by decide +kernel
theorem db_abs : dB "abs" := by decide +kernel
theorem db_int : dB "int" := by decide +kernel
theorem db_list : dB "list" := by decide +kernel
theorem db_tuple : dB "tuple" := by decide +kernel
theorem db_sorted : dB "sorted" := by decide +kernel
theorem le_small {n : Nat} (h : Nat.ble n 100000 = true := by rfl) : n ≤ 100000 := Nat.le_of_ble_eq_true h
theorem d_lenL (T : Top X.mg) {ds : List PyData} (h : DE X e ρ (.list ds)) (n : NS e := by exact fun _ _ => rfl) (hg : Gl X "len" := by rfl) : DE X (.Call (.Name "len" p) [e] [] pos) ρ (.int ds.length) := d_callB call_len_seq hg T.len bt_len db_len (da_cons h da_nil (n _ _)) on_len (n _ _)
theorem d_lenT (T : Top X.mg) {ds : List PyData} (h : DE X e ρ (.tuple ds)) (n : NS e := by exact fun _ _ => rfl) (hg : Gl X "len" := by rfl) : DE X (.Call (.Name "len" p) [e] [] pos) ρ (.int ds.length) := d_callB call_len_seq hg T.len bt_len db_len (da_cons h da_nil (n _ _)) on_lenT (n _ _)
theorem d_all (T : Top X.mg) {bs : List Bool} (hc : X.calm = true) (h : DE X e ρ (.list (bs.map .bool))) (n : NS e := by exact fun _ _ => rfl) (hg : Gl X "all" := by rfl) : DE X (.Call (.Name "all" p) [e] [] pos) ρ (.bool (bs.all id)) := d_callB (cr_all hc) hg T.all bt_all db_all (da_cons h da_nil (n _ _)) on_all (n _ _)
theorem d_any (T : Top X.mg) {bs : List Bool} (hc : X.calm = true) (h : DE X e ρ (.list (bs.map .bool))) (n : NS e := by exact fun _ _ => rfl) (hg : Gl X "any" := by rfl) : DE X (.Call (.Name "any" p) [e] [] pos) ρ (.bool (bs.any id)) := d_callB (cr_any hc) hg T.any bt_any db_any (da_cons h da_nil (n _ _)) on_any (n _ _)
theorem d_sum (T : Top X.mg) {ns : List Int} (hc : X.calm = true) (h : DE X e ρ (.list (ns.map .int))) (n : NS e := by exact fun _ _ => rfl) (hg : Gl X "sum" := by rfl) : DE X (.Call (.Name "sum" p) [e] [] pos) ρ (.int ns.sum) := d_callB (cr_sum hc) hg T.sum bt_sum db_sum (da_cons h da_nil (n _ _)) on_sum (n _ _)
theorem d_min (T : Top X.mg) {i j : Int} (hc : X.calm = true) (h1 : DE X a ρ (.int i)) (h2 : DE X b ρ (.int j)) (n1 : NS a := by exact fun _ _ => rfl) (n2 : NS b := by exact fun _ _ => rfl) (hpl : (backTo pos (starEach [b] X.env)).any (·.1) = false := by rfl) (hg : Gl X "min" := by rfl) : DE X (.Call (.Name "min" p) [a, b] [] pos) ρ (.int (min i j)) := d_callB (call_min2 hc) hg T.min bt_min db_min (da_cons h1 (da_cons h2 da_nil (n2 _ _)) (n1 _ _)) on_min (n1 _ _) hpl
theorem d_max (T : Top X.mg) {i j : Int} (hc : X.calm = true) (h1 : DE X a ρ (.int i)) (h2 : DE X b ρ (.int j)) (n1 : NS a := by exact fun _ _ => rfl) (n2 : NS b := by exact fun _ _ => rfl) (hpl : (backTo pos (starEach [b] X.env)).any (·.1) = false := by rfl) (hg : Gl X "max" := by rfl) : DE X (.Call (.Name "max" p) [a, b] [] pos) ρ (.int (max i j)) := d_callB (call_max2 hc) hg T.max bt_max db_max (da_cons h1 (da_cons h2 da_nil (n2 _ _)) (n1 _ _)) on_max (n1 _ _) hpl
theorem d_abs (T : Top X.mg) {i : Int} (h1 : DE X a ρ (.int i)) (n : NS a := by exact fun _ _ => rfl) (hg : Gl X "abs" := by rfl) : DE X (.Call (.Name "abs" p) [a] [] pos) ρ (.int i.natAbs) := d_callB call_abs hg T.abs bt_abs db_abs (da_cons h1 da_nil (n _ _)) on_abs (n _ _)
theorem d_intI (T : Top X.mg) {i : Int} (h1 : DE X a ρ (.int i)) (n : NS a := by exact fun _ _ => rfl) (hg : Gl X "int" := by rfl) : DE X (.Call (.Name "int" p) [a] [] pos) ρ (.int i) := d_callT call_int1 hg T.int bt_int db_int (da_cons h1 da_nil (n _ _)) on_intI (n _ _)
theorem d_intB (T : Top X.mg) (h1 : DE X a ρ (.bool k)) (n : NS a := by exact fun _ _ => rfl) (hg : Gl X "int" := by rfl) : DE X (.Call (.Name "int" p) [a] [] pos) ρ (.int (if k then 1 else 0)) := d_callT call_int1 hg T.int bt_int db_int (da_cons h1 da_nil (n _ _)) on_intB (n _ _)
theorem d_list (T : Top X.mg) {ds : List PyData} (h : DE X e ρ (.tuple ds)) (n : NS e := by exact fun _ _ => rfl) (hg : Gl X "list" := by rfl) : DE X (.Call (.Name "list" p) [e] [] pos) ρ (.list ds) := d_callT call_list_of hg T.list bt_list db_list (da_cons h da_nil (n _ _)) on_list (n _ _)
theorem d_tuple (T : Top X.mg) {ds : List PyData} (h : DE X e ρ (.list ds)) (n : NS e := by exact fun _ _ => rfl) (hg : Gl X "tuple" := by rfl) : DE X (.Call (.Name "tuple" p) [e] [] pos) ρ (.tuple ds) := d_callT call_tuple_of hg T.tuple bt_tuple db_tuple (da_cons h da_nil (n _ _)) on_tuple (n _ _)
theorem d_gcd (T : Top X.mg) {i j : Int} (h1 : DE X a ρ (.int i)) (h2 : DE X b ρ (.int j)) (hg : Gl X "gcd" := by rfl) (he : starEach [a, b] X.env = (false, eval a X.env) :: starEach [b] X.env := by rfl) (hpl : (backTo pos (starEach [b] X.env)).any (·.1) = false := by rfl)
    (hb : starEach [b] X.env = (false, eval b X.env) :: starEach [] X.env := by rfl) : DE X (.Call (.Name "gcd" p) [a, b] [] pos) ρ (.int (Nat.gcd i.natAbs j.natAbs : Nat)) :=
  let ⟨_, p1, p2⟩ := da_cons h1 (da_cons h2 da_nil hb) he; de_of (pe_callBfun cr_gcd hg T.gcd p1 (by decide) he hpl) (ev_cb p2 on_gcd)
theorem d_gcd3 (T : Top X.mg) {i j n : Int} (h1 : DE X a ρ (.int i)) (h2 : DE X b ρ (.int j)) (h3 : DE X c ρ (.int n)) (hg : Gl X "gcd" := by rfl) (he : starEach [a, b, c] X.env = (false, eval a X.env) :: starEach [b, c] X.env := by rfl) (hpl : (backTo pos (starEach [b, c] X.env)).any (·.1) = false := by rfl)
    (hb : starEach [b, c] X.env = (false, eval b X.env) :: starEach [c] X.env := by rfl) (hb2 : starEach [c] X.env = (false, eval c X.env) :: starEach [] X.env := by rfl) : DE X (.Call (.Name "gcd" p) [a, b, c] [] pos) ρ (.int (gcd3 i j n : Nat)) :=
  let ⟨_, p1, p2⟩ := da_cons h1 (da_cons h2 (da_cons h3 da_nil hb2) hb) he; de_of (pe_callBfun cr_gcd3 hg T.gcd p1 (by decide) he hpl) (ev_cb p2 on_gcd3)
theorem kit_ii : kitB "int" "int" = some true := by decide +kernel
theorem kit_ib : kitB "int" "bool" = some false := by decide +kernel
theorem kit_tt : kitB "tuple" "tuple" = some true := by decide +kernel
theorem db_bool : dB "bool" := by decide +kernel
theorem tn_isinstance : (("isinstance" : Str) ≠ "__name__") ∧ ((("isinstance" : Str) == ("__debug__" : Str)) = false) := by decide +kernel
theorem d_isi (T : Top X.mg) {x : Str} {T' : String} (h : DE X e ρ d) (hv : bootBuiltins x = some (.type T')) (hx : dB x) (hb : kitB (tyOf d) T' = some k) (hmx : X.mg x = none) (hgx : Gl X x := by rfl) (hg : Gl X "isinstance" := by rfl) (hd : isD d = false := by rfl)
    (he : starEach [e, .Name x p] X.env = (false, eval e X.env) :: starEach [.Name x p] X.env := by rfl) (hpl : (backTo pos (starEach [.Name x p] X.env)).any (·.1) = false := by rfl) (hs : starEach [.Name x p] X.env = (false, eval (.Name x p) X.env) :: starEach [] X.env := by rfl) {p2 : Pos} :
    DE X (.Call (.Name "isinstance" p2) [e, .Name x p] [] pos) ρ (.bool k) :=
  de_of (pe_callB call_isi hg T.isinstance bt_isinstance (pa_cons (pe_self X e) (pa_cons (pe_bltn hgx hmx hv (v := .ty T') rfl hx.1 hx.2) pa_nil hs) he) (by decide +kernel) (by decide +kernel) he hpl) (cr_isi hb h hd)
theorem d_isInt (T : Top X.mg) {i : Int} (h : DE X e ρ (.int i)) (hgx : Gl X "int" := by rfl) (hg : Gl X "isinstance" := by rfl)
    (he : starEach [e, .Name "int" p] X.env = (false, eval e X.env) :: starEach [.Name "int" p] X.env := by rfl) (hpl : (backTo pos (starEach [.Name "int" p] X.env)).any (·.1) = false := by rfl) {p2 : Pos} :
    DE X (.Call (.Name "isinstance" p2) [e, .Name "int" p] [] pos) ρ (.bool true) := d_isi T (d := .int i) (T' := "int") h bt_int db_int kit_ii T.int hgx hg rfl he hpl rfl
theorem d_isBoolI (T : Top X.mg) {i : Int} (h : DE X e ρ (.int i)) (hgx : Gl X "bool" := by rfl) (hg : Gl X "isinstance" := by rfl)
    (he : starEach [e, .Name "bool" p] X.env = (false, eval e X.env) :: starEach [.Name "bool" p] X.env := by rfl) (hpl : (backTo pos (starEach [.Name "bool" p] X.env)).any (·.1) = false := by rfl) {p2 : Pos} :
    DE X (.Call (.Name "isinstance" p2) [e, .Name "bool" p] [] pos) ρ (.bool false) := d_isi T (d := .int i) (T' := "bool") h bt_bool db_bool kit_ib T.bool hgx hg rfl he hpl rfl
theorem d_isTup (T : Top X.mg) {ds : List PyData} (h : DE X e ρ (.tuple ds)) (hgx : Gl X "tuple" := by rfl) (hg : Gl X "isinstance" := by rfl)
    (he : starEach [e, .Name "tuple" p] X.env = (false, eval e X.env) :: starEach [.Name "tuple" p] X.env := by rfl) (hpl : (backTo pos (starEach [.Name "tuple" p] X.env)).any (·.1) = false := by rfl) {p2 : Pos} :
    DE X (.Call (.Name "isinstance" p2) [e, .Name "tuple" p] [] pos) ρ (.bool true) := d_isi T (d := .tuple ds) (T' := "tuple") h bt_tuple db_tuple kit_tt T.tuple hgx hg rfl he hpl rfl
end
/-! ### a def of the text, called -/
structure Kn (P : Program) (w : World) (K : PySem.W.Frag) (mg : Str → Option Value) (base : Heap) (x : Str) (k : Nat) (R : List PyData → PyData → Prop) : Prop where
  ex : ∃ (f : Addr) (fd : FuncData) (ps : List Str), FnOk P w K mg base CX0 k f fd ps (spD R) ∧ mg x = some (.ref f) ∧ PySem.W.keepIn K (.ref f) = true ∧ Binds K fd ps []
section
variable {X : Cx} {ρ : En} {e : Expr} {es : List Expr} {pos p : Pos} {d : PyData} {x : Str} {k : Nat} {R : List PyData → PyData → Prop} {ds : List PyData}
theorem d_call (G : Kn X.prog X.w X.K X.mg X.base x k R) (hr : Room k X.A) (h : DA X (e :: es) ρ ds) (hR : R ds d) (hg : Gl X x := by rfl) (hx : (x == ("__debug__" : Str)) = false := by decide)
    (he : starEach (e :: es) X.env = (false, eval e X.env) :: starEach es X.env := by rfl) (hpl : (backTo pos (starEach es X.env)).any (·.1) = false := by rfl) : DE X (.Call (.Name x p) (e :: es) [] pos) ρ d := by
  obtain ⟨f, fd, ps, F, hm, hk, hb⟩ := G.ex
  obtain ⟨ta, p1, p2⟩ := h
  exact de_of (pe_call F hr hg hm hk hb .nil pass0 p1 hx he hpl) (ev_call p2 hR)
end
/-! ### what a for walks -/
def Strm (J : It) (Hc1 : Hp) (ds : List PyData) : Prop := ∀ Hc H, Same Hc1 Hc → Same Hc H → ∀ i : Nat, (i < ds.length → J.go i H ∧ ∀ x H', J.yld i H x H' → ∃ Hc', Step Hc H Hc' H' ∧ ∀ d, ds[i]? = some d → Dq Hc' x d) ∧ (ds.length ≤ i → J.stop i H)
def Ei (wi : TI) (ρ : En) (ds : List PyData) : Prop := ∀ (σ : L2.St) (Hc H : Hp), Same Hc H → Rep Hc σ ρ → ∀ R : It → Hp → Prop, (∀ J Hc1 H1, Step Hc H Hc1 H1 → Strm J Hc1 ds → R J H1) → wi σ H R
def DI (X : Cx) (tg e : Expr) (ρ : En) (ds : List PyData) : Prop := Ei (tiOf X tg e) ρ ds
section
variable {X : Cx} {ρ : En} {tg e a b : Expr} {ds : List PyData} {pos p : Pos}
theorem di_of {wi : TI} (h : PI X tg e wi) (v : Ei wi ρ ds) : DI X tg e ρ ds := fun σ Hc H s R Q q pins sh I => h.run pins sh σ H Q I (v σ Hc H s R Q q)
theorem strm_l {K : PySem.W.Frag} {a : Addr} {xs : List V} {Hc : Hp} (h1 : Hc a = some (.lst xs)) (h2 : DqA Hc xs ds) : Strm (Itl K a) Hc ds := fun Hc2 H2 s1 s2 i => by
  have hs : SqL K H2 a xs := SqL.of (s2 _ _ (s1 _ _ h1))
  have hl := h2.length
  refine ⟨fun hi => ⟨⟨xs, xs[i], hs, List.getElem?_eq_getElem (by omega)⟩, fun x H' y => ?_⟩, fun hi => ⟨xs, hs, by omega⟩⟩
  obtain ⟨rfl, y⟩ := y
  refine ⟨Hc2, Step.refl s2, fun d hd => ?_⟩
  obtain ⟨v, hv, dv⟩ := h2.get hd
  have := y xs hs
  rw [hv] at this
  rw [← Option.some.inj this]
  exact dv.mono s1
theorem strm_t {K : PySem.W.Frag} {a : Addr} {xs : List V} {Hc : Hp} (h1 : Hc a = some (.tup xs)) (h2 : DqA Hc xs ds) : Strm (Itt K a) Hc ds := fun Hc2 H2 s1 s2 i => by
  have hs : SqT K H2 a xs := SqT.of (s2 _ _ (s1 _ _ h1))
  have hl := h2.length
  refine ⟨fun hi => ⟨⟨xs, xs[i], hs, List.getElem?_eq_getElem (by omega)⟩, fun x H' y => ?_⟩, fun hi => ⟨xs, hs, by omega⟩⟩
  obtain ⟨rfl, y⟩ := y
  refine ⟨Hc2, Step.refl s2, fun d hd => ?_⟩
  obtain ⟨v, hv, dv⟩ := h2.get hd
  have := y xs hs
  rw [hv] at this
  rw [← Option.some.inj this]
  exact dv.mono s1
theorem di_list (h : DE X e ρ (.list ds)) : DI X tg e ρ ds := di_of (pi_list (pe_self X e)) fun σ Hc H s R Q q => h σ Hc H s R _ fun v Hc1 H1 s1 d1 => by
  cases d1 with
  | lst a1 a2 => exact ⟨_, rfl, ⟨_, SqL.of (s1.sub _ _ a1)⟩, q _ Hc1 H1 s1 (strm_l a1 a2)⟩
theorem di_tup (h : DE X e ρ (.tuple ds)) : DI X tg e ρ ds := di_of (pi_tup (pe_self X e)) fun σ Hc H s R Q q => h σ Hc H s R _ fun v Hc1 H1 s1 d1 => by
  cases d1 with
  | tup a1 a2 => exact ⟨_, rfl, ⟨_, SqT.of (s1.sub _ _ a1)⟩, q _ Hc1 H1 s1 (strm_t a1 a2)⟩
theorem di_range {n : Int} (T : Top X.mg) (h : DE X a ρ (.int n)) (hn : n < 2 ^ 62) (hn0 : -(2 ^ 62) ≤ n) (hg : Gl X "range" := by rfl) (hs : starEach [a] X.env = [(false, eval a X.env)] := by rfl) (hs2 : starEach [a] X.env = (false, eval a X.env) :: starEach [] X.env := by rfl) :
    DI X tg (.Call (.Name "range" p) [a] [] pos) ρ ((List.range n.toNat).map fun i : Nat => .int (i : Int)) := di_of (pi_range1 hg T.range (pa_cons (pe_self X a) pa_nil hs2) hs) fun σ Hc H s R Q q => h σ Hc H s R _ fun v Hc1 H1 s1 d1 => by
  cases d1
  refine ⟨n, rfl, hn0, hn, q _ Hc1 H1 s1 fun Hc2 H2 z1 z2 i => ?_⟩
  rw [List.length_map, List.length_range]
  refine ⟨fun hi => ⟨hi, fun x H' y => ?_⟩, fun hi => hi⟩
  obtain ⟨rfl, rfl⟩ := y
  refine ⟨Hc2, Step.refl z2, fun d hd => ?_⟩
  rw [List.getElem?_map, List.getElem?_range hi] at hd
  have e2 : PyData.int (i : Int) = d := Option.some.inj hd
  rw [← e2, show (0 : Int) + (i : Nat) = (i : Int) from Int.zero_add _]
  exact .int _
theorem di_zip {es fs : List PyData} {elts : List Expr} {kk : Nat} {tpos : Pos} (T : Top X.mg) (h1 : DE X a ρ (.tuple es)) (h2 : DE X b ρ (.tuple fs)) (hl : es.length = fs.length) (hg : Gl X "zip" := by rfl)
    (hs : starEach [a, b] X.env = (false, eval a X.env) :: starEach [b] X.env := by rfl) (hs2 : starEach [b] X.env = (false, eval b X.env) :: starEach [] X.env := by rfl) (hpl : (backTo pos (starEach [b] X.env)).any (·.1) = false := by rfl) :
    DI X (.Tuple elts kk tpos) (.Call (.Name "zip" p) [a, b] [] pos) ρ ((es.zip fs).map fun q => .tuple [q.1, q.2]) := di_of (RZ.pi_zipA hg T.zip (pa_cons (pe_self X a) (pa_cons (pe_self X b) pa_nil hs2) hs) hs hpl) fun σ Hc H s R Q q => h1 σ Hc H s R _ fun v Hc1 H1 s1 d1 => h2 σ Hc1 H1 s1.sub (R.mono s1.cc) _ fun u Hc2 H2 s2 d2 => by
  cases d1 with
  | @tup ad xs _ a1 a2 =>
    cases d2 with
    | @tup bd ys _ b1 b2 =>
      refine ⟨_, _, _, _, rfl, .inr ⟨SqT.of (s2.sub _ _ (s2.cc _ _ a1)), SqT.of (s2.sub _ _ b1), q _ Hc2 H2 (s1.trans s2) fun Hc3 H3 z1 z2 i => ?_⟩⟩
      have h3 : SqT X.K H3 ad xs := SqT.of (z2 _ _ (z1 _ _ (s2.cc _ _ a1)))
      have h4 : SqT X.K H3 bd ys := SqT.of (z2 _ _ (z1 _ _ b1))
      have l1 := a2.length
      have l2 := b2.length
      rw [List.length_map, List.length_zip]
      refine ⟨fun hi => ⟨⟨xs, ys, xs[i], ys[i], h3, h4, List.getElem?_eq_getElem (by omega), List.getElem?_eq_getElem (by omega)⟩, fun x H' y => ?_⟩, fun hi => ⟨xs, ys, h3, h4, by omega⟩⟩
      obtain ⟨t, x1, y1, rfl, nt, rfl, f1, f2⟩ := y
      refine ⟨upd Hc3 t (.tup [x1, y1]), Step.new z2 nt, fun d hd => ?_⟩
      obtain ⟨e1, g1, g2⟩ := a2.getV (f1 _ h3)
      obtain ⟨e2, g3, g4⟩ := b2.getV (f2 _ h4)
      rw [List.getElem?_map, (List.getElem?_zip_eq_some (z := (e1, e2))).mpr ⟨g1, g3⟩] at hd
      have e3 : PyData.tuple [e1, e2] = d := Option.some.inj hd
      rw [← e3]
      have nn := same_new (o := .tup [x1, y1]) (z2.free nt)
      exact .tup upd_same (.cons (g2.mono ((s2.cc.trans z1).trans nn)) (.cons (g4.mono (z1.trans nn)) .nil))
end
/-! ### targets -/
def Bd (g : TG) (ρ : En) (d : PyData) (ρ' : En) (vs : List Nat) : Prop := ∀ (x : V) (σ : L2.St) (Hc H : Hp), Same Hc H → Rep Hc σ ρ → Dq Hc x d → ∀ Q : L2.St → Hp → Prop, (∀ σ', Rep Hc σ' ρ' → wipe σ' vs = wipe σ vs → Q σ' H) → g x σ H Q
def Bds (g : TGs) (ρ : En) (ds : List PyData) (ρ' : En) (vs : List Nat) : Prop := ∀ (xs : List V) (σ : L2.St) (Hc H : Hp), Same Hc H → Rep Hc σ ρ → DqA Hc xs ds → ∀ Q : L2.St → Hp → Prop, (∀ σ', Rep Hc σ' ρ' → wipe σ' vs = wipe σ vs → Q σ' H) → g xs σ H Q
theorem bd_name {ρ : En} {d : PyData} {i : Nat} {vs : List Nat} (hi : i ∈ vs) : Bd (gName i) ρ d (ρ.set i (some d)) vs := fun x σ Hc H s R dx Q q => q _ (R.set dx i) (wipe_set σ i _ vs hi)
theorem bds_nil {ρ : En} {vs : List Nat} : Bds gNil ρ [] ρ vs := fun xs σ Hc H s R dx Q q => by
  cases dx
  exact ⟨rfl, q σ R rfl⟩
theorem bds_cons {ρ ρ1 ρ2 : En} {d : PyData} {ds : List PyData} {t : TG} {u : TGs} {vs : List Nat} (h1 : Bd t ρ d ρ1 vs) (h2 : Bds u ρ1 ds ρ2 vs) : Bds (gCons t u) ρ (d :: ds) ρ2 vs := fun xs σ Hc H s R dx Q q => by
  cases dx with
  | cons a b => exact ⟨_, _, rfl, h1 _ σ Hc H s R a _ fun σ1 r1 w1 => h2 _ σ1 Hc H s r1 b Q fun σ2 r2 w2 => q σ2 r2 (w2.trans w1)⟩
theorem bd_tup {K : PySem.W.Frag} {n : Nat} {ρ ρ' : En} {ds : List PyData} {t : TGs} {vs : List Nat} (h : Bds t ρ ds ρ' vs) (hn : ds.length = n) : Bd (gTup K n t) ρ (.tuple ds) ρ' vs := fun x σ Hc H s R dx Q q => by
  cases dx with
  | tup a1 a2 => exact ⟨_, _, rfl, SqT.of (s _ _ a1), by rw [a2.length]; exact hn, h _ σ Hc H s R a2 Q q⟩
/-! ### comprehensions -/
section
variable {β : Type}
theorem ev_lc {wi : TI} {g : TG} {tt : TT} {te : TE} {vs : List Nat} {ρ : En} {xs : List β} {enc f : β → PyData} {t : β → Bool} {b : β → En} (hi : Ei wi ρ (xs.map enc)) (hb : ∀ x ∈ xs, Bd g (wipeE ρ vs) (enc x) (b x) vs)
    (ht : ∀ x ∈ xs, Et tt (b x) (t x)) (he : ∀ x ∈ xs, t x = true → Ev te (b x) (f x)) (hl : xs.length ≤ 100000) : Ev (tLc wi g tt te vs) ρ (.list ((xs.filter t).map f)) := fun σ Hc H s R Q q =>
  hi σ Hc H s R _ fun J Hc1 H1 s1 st D hD => by
    have hcD : Hc1 D = none := s1.sub.free hD
    refine ⟨fun i m H2 => m = xs.length - i ∧ i ≤ xs.length ∧ ∃ Hc2 acc, Step Hc1 H1 Hc2 H2 ∧ Hc2 D = none ∧ H2 D = some (.lst acc) ∧ DqA Hc2 acc (((xs.take i).filter t).map f), ⟨_, rfl, Nat.zero_le _, Hc1, [], ⟨Same.refl _, same_new hD, fun c o e => by
      rw [upd_ne (ne_of_none e hcD)]; exact s1.sub c o e, fun _ h _ _ => h⟩, hcD, upd_same, .nil⟩, ?_⟩
    rintro i m H2 ⟨rfl, hi2, Hc2, acc, s2, n2, h2, d2⟩
    obtain ⟨st1, st2⟩ := st Hc2 H2 s2.cc s2.sub i
    rw [List.length_map] at st1 st2
    by_cases hlt : i < xs.length
    · obtain ⟨go, yl⟩ := st1 hlt
      have gx : xs[i]? = some xs[i] := List.getElem?_eq_getElem hlt
      generalize xs[i] = x at gx
      have mx : x ∈ xs := List.mem_of_getElem? gx
      have tk : xs.take (i + 1) = xs.take i ++ [x] := by rw [List.take_add_one, gx]; rfl
      refine .inr ⟨go, fun H' => ∃ Hc2 acc, Step Hc1 H1 Hc2 H' ∧ Hc2 D = none ∧ H' D = some (.lst acc) ∧ DqA Hc2 acc (((xs.take (i + 1)).filter t).map f), fun H' h => ⟨xs.length - (i + 1), by omega, rfl, hlt, h⟩, fun v H3 y => ?_⟩
      obtain ⟨Hc3, s3, dv⟩ := yl v H3 y
      have dv := dv (enc x) (by rw [List.getElem?_map, gx]; rfl)
      refine hb x mx v _ Hc3 H3 s3.sub ((R.mono ((s1.cc.trans s2.cc).trans s3.cc)).wipe vs) dv _ fun σ' R' w' => ⟨by rw [w', wipe_wipe σ vs vs fun _ h => h], ?_⟩
      refine ht x mx σ' Hc3 H3 s3.sub R' _ fun Hc4 H4 s4 => ?_
      have h2ne : H2 D ≠ none := by rw [h2]; exact fun z => nomatch z
      have h2t : ∀ xs, H2 D ≠ some (.tup xs) := fun xs => by rw [h2]; exact fun z => nomatch z
      have s34 := s3.trans s4
      cases ct : t x with
      | true =>
        rw [if_pos rfl]
        refine he x mx ct σ' Hc4 H4 s4.sub (R'.mono s4.cc) _ fun y Hc5 H5 s5 dy => ?_
        have s35 := s34.trans s5
        have hD5 : H5 D = some (.lst acc) := s35.hh _ _ h2
        have n5 : Hc5 D = none := s35.fr D n2 h2ne h2t
        refine ⟨acc, hD5, ?_, Hc5, acc ++ [y], ⟨s2.cc.trans s35.cc, same_mut (s2.hh.trans s35.hh) hD, fun c o e => ?_, (s2.trans s35).fr⟩, n5, upd_same, ?_⟩
        · rw [d2.length, List.length_map]
          have h1 := List.length_filter_le t (xs.take i)
          rw [List.length_take] at h1
          exact Nat.lt_of_lt_of_le (show _ < 100001 by omega) (by decide)
        · rw [upd_ne (ne_of_none e n5)]
          exact s35.sub c o e
        · rw [tk, List.filter_append, List.map_append]
          have : [x].filter t = [x] := by simp [ct]
          rw [this]
          exact (d2.mono s35.cc).append (.cons dy .nil)
      | false =>
        rw [if_neg (by decide)]
        refine ⟨Hc4, acc, s2.trans s34, s34.fr D n2 h2ne h2t, s34.hh _ _ h2, ?_⟩
        rw [tk, List.filter_append, List.map_append]
        have : [x].filter t = [] := by simp [ct]
        rw [this, List.map_nil, List.append_nil]
        exact d2.mono s34.cc
    · have e : i = xs.length := by omega
      subst e
      refine .inl ⟨st2 (by omega), q _ (upd Hc2 D (.lst acc)) H2 ⟨(s1.cc.trans s2.cc).trans (same_new n2), s1.hh.trans s2.hh, fun c o z => ?_, fun c h1 h2' h3 => ?_⟩ (.lst upd_same ?_)⟩
      · by_cases hc : c = D
        · subst hc
          rw [upd_same] at z
          rw [← z]; exact h2
        · rw [upd_ne hc] at z
          exact s2.sub c o z
      · have hcD' : c ≠ D := fun z => by
          subst z
          have := s1.hh.free hD
          exact h2' this
        rw [upd_ne hcD']
        exact (s1.trans s2).fr c h1 h2' h3
      · rw [List.take_length] at d2
        exact d2.mono (same_new n2)
variable {X : Cx} {ρ : En} {tg iter elt cnd : Expr} {scope : Scope} {own : List (Str × Nat)} {pos : Pos} {g : TG} {xs : List β} {enc f : β → PyData} {t : β → Bool} {b : β → En}
def teB (X : Cx) (scope : Scope) (e : Expr) : TE := fun σ H' Q => ∀ (s : Shared) (H : Hp) (C : Addr) (cl : List (Str × Addr)) (fp : List Addr), teOf (X.blk s H scope (compEnvC scope cl C X.env) fp) e σ H' Q
def ttB (X : Cx) (scope : Scope) (e : Expr) : TT := fun σ H' Q => ∀ (s : Shared) (H : Hp) (C : Addr) (cl : List (Str × Addr)) (fp : List Addr), ttOf (X.blk s H scope (compEnvC scope cl C X.env) fp) e σ H' Q
/-- the expression e of a comprehension's block, wherever it stands -/
def DEB (X : Cx) (scope : Scope) (e : Expr) (ρ : En) (d : PyData) : Prop := ∀ (s : Shared) (H : Hp) (C : Addr) (cl : List (Str × Addr)) (fp : List Addr), DE (X.blk s H scope (compEnvC scope cl C X.env) fp) e ρ d
def DTB (X : Cx) (scope : Scope) (e : Expr) (ρ : En) (k : Bool) : Prop := ∀ (s : Shared) (H : Hp) (C : Addr) (cl : List (Str × Addr)) (fp : List Addr), DT (X.blk s H scope (compEnvC scope cl C X.env) fp) e ρ k
def PGB (X : Cx) (scope : Scope) (tg : Expr) (g : TG) : Prop := ∀ (s : Shared) (H : Hp) (C : Addr) (cl : List (Str × Addr)) (fp : List Addr), PG (X.blk s H scope (compEnvC scope cl C X.env) fp) tg g
theorem d_lc (hc : X.calm = true) (hN : X.N.Nodup) (ok : BlkOk X.N X.env.scope scope own) (hi : DI X tg iter ρ (xs.map enc)) (hg : PGB X scope tg g) (hb : ∀ x ∈ xs, Bd g (wipeE ρ (own.map (·.2))) (enc x) (b x) (own.map (·.2)))
    (he : ∀ x ∈ xs, DEB X scope elt (b x) (f x)) (hl : xs.length ≤ 100000) (hs : ∀ x, foldedSetIterable iter X.env x = pure x := by intro _; rfl) : DE X (.ListComp elt [⟨tg, iter, [], 0⟩] scope pos) ρ (.list (xs.map f)) := by
  have h := ev_lc (t := fun _ => true) (tt := tYes) (te := teB X scope elt) (f := f) hi hb (fun x _ σ Hc H s R Q q => q Hc H (Step.refl s)) (fun x hx _ σ Hc H s R Q q s' H' C cl fp => he x hx s' H' C cl fp σ Hc H s R Q q) hl
  have e1 : xs.filter (fun _ => true) = xs := by simp
  rw [e1] at h
  exact de_of (pe_lc hc hN (pi_self X tg iter) ok hg (fun _ _ _ _ _ => pts_nil) (fun s H C cl fp => ⟨fun pins sh σ H' Q I z => z s H C cl fp pins sh I⟩) hs) h
theorem d_lcf (hc : X.calm = true) (hN : X.N.Nodup) (ok : BlkOk X.N X.env.scope scope own) (hi : DI X tg iter ρ (xs.map enc)) (hg : PGB X scope tg g) (hb : ∀ x ∈ xs, Bd g (wipeE ρ (own.map (·.2))) (enc x) (b x) (own.map (·.2)))
    (ht : ∀ x ∈ xs, DTB X scope cnd (b x) (t x)) (he : ∀ x ∈ xs, t x = true → DEB X scope elt (b x) (f x)) (hl : xs.length ≤ 100000) (hs : ∀ x, foldedSetIterable iter X.env x = pure x := by intro _; rfl) : DE X (.ListComp elt [⟨tg, iter, [cnd], 0⟩] scope pos) ρ (.list ((xs.filter t).map f)) := by
  have h := ev_lc (tt := ttB X scope cnd) (te := teB X scope elt) (f := f) hi hb (fun x hx σ Hc H s R Q q s' H' C cl fp => ht x hx s' H' C cl fp σ Hc H s R Q q) (fun x hx ct σ Hc H s R Q q s' H' C cl fp => he x hx ct s' H' C cl fp σ Hc H s R Q q) hl
  exact de_of (pe_lc hc hN (pi_self X tg iter) ok hg (fun s H C cl fp => pts_one ⟨fun pins sh σ H' Q I z => z s H C cl fp pins sh I⟩) (fun s H C cl fp => ⟨fun pins sh σ H' Q I z => z s H C cl fp pins sh I⟩) hs) h
end
end PH

set_option Elab.async false
set_option linter.all false
set_option maxRecDepth 100000
set_option maxHeartbeats 1000000
namespace PH
open PySem PySem.Spec PyProof.Rows L2
/-! ### statements -/
inductive Out where
  | nx (ρ : En) | rt (d : PyData) | bk (ρ : En) | ct (ρ : En)
def Wish (D : Ends) (Hc H : Hp) : Out → Prop
  | .nx ρ => ∀ σ' Hc' H', Step Hc H Hc' H' → Rep Hc' σ' ρ → D.nx σ' H'
  | .bk ρ => ∀ σ' Hc' H', Step Hc H Hc' H' → Rep Hc' σ' ρ → D.bk σ' H'
  | .ct ρ => ∀ σ' Hc' H', Step Hc H Hc' H' → Rep Hc' σ' ρ → D.ct σ' H'
  | .rt d => ∀ v Hc' H', Step Hc H Hc' H' → Dq Hc' v d → D.rt v H'
theorem Wish.step {D : Ends} {Hc H Hc1 H1 : Hp} (s : Step Hc H Hc1 H1) : ∀ {o : Out}, Wish D Hc H o → Wish D Hc1 H1 o
  | .nx ρ, h => fun σ' Hc' H' t r => h σ' Hc' H' (s.trans t) r
  | .bk ρ, h => fun σ' Hc' H' t r => h σ' Hc' H' (s.trans t) r
  | .ct ρ, h => fun σ' Hc' H' t r => h σ' Hc' H' (s.trans t) r
  | .rt d, h => fun v Hc' H' t r => h v Hc' H' (s.trans t) r
def Sv (ts : TS) (ρ : En) (o : Out) : Prop := ∀ (D : Ends) (σ : L2.St) (Hc H : Hp), Same Hc H → Rep Hc σ ρ → Wish D Hc H o → ts D σ H
def ts1 (X : Cx) (st : Stmt) : TS := fun D σ H => ∀ (pins : List (Addr × Obj)) (s : Shared), Inv X pins σ H s → wpAny (model X.prog X.w) X.A (exec st X.env) (SP X pins D) X.xe s
theorem ps_self (X : Cx) (st : Stmt) : PS X st (ts1 X st) := ⟨fun pins s _ _ _ I h => h pins s I⟩
def DS (X : Cx) (st : List Stmt) (ρ : En) (o : Out) : Prop := Sv (tsOf X st) ρ o
def D1 (X : Cx) (st : Stmt) (ρ : En) (o : Out) : Prop := Sv (ts1 X st) ρ o
section
variable {X : Cx} {ρ ρ1 : En} {o : Out} {st : Stmt} {rest sa sb : List Stmt} {e a b c : Expr} {pos p : Pos} {d : PyData} {k : Bool}
theorem ds_of {t : TS} (h : PSs X rest t) (v : Sv t ρ o) : DS X rest ρ o := fun D σ Hc H s R w pins sh I => h.run pins sh σ H D I (v D σ Hc H s R w)
theorem d1_of {t : TS} (h : PS X st t) (v : Sv t ρ o) : D1 X st ρ o := fun D σ Hc H s R w pins sh I => h.run pins sh σ H D I (v D σ Hc H s R w)
theorem ds_nil : DS X [] ρ (.nx ρ) := ds_of pss_nil fun D σ Hc H s R w => w σ Hc H (Step.refl s) R
theorem ds_cons (h : D1 X st ρ (.nx ρ1)) (t : DS X rest ρ1 o) : DS X (st :: rest) ρ o := ds_of (pss_cons (ps_self X st) (pss_self X rest)) fun D σ Hc H s R w =>
  h { D with nx := tsOf X rest D } σ Hc H s R fun σ' Hc' H' s' R' => t D σ' Hc' H' s'.sub R' (w.step s')
theorem ds_rt (h : D1 X st ρ (.rt d)) : DS X (st :: rest) ρ (.rt d) := ds_of (pss_cons (ps_self X st) (pss_self X rest)) fun D σ Hc H s R w => h { D with nx := tsOf X rest D } σ Hc H s R w
theorem DS.is {o' : Out} (h : DS X rest ρ o) (q : o = o') : DS X rest ρ o' := q ▸ h
/-- x = e -/
theorem s_set (i : Nat) {x : Str} {p1 : Pos} (hN : X.N.Nodup) (he : DE X e ρ d) (hi : X.N[i]? = some x := by rfl) (hx : Loc X.env.scope x := by first | exact Or.inl rfl | exact Or.inr rfl) (hs : swapsWith e (some (.Name x p1)) pos.line X.env = pure false := by rfl)
    (hf : X.fn x = true ∨ X.env.scope.names.lookup x = some .local := by first | exact .inl rfl | exact .inr rfl) : D1 X (.Assign [.Name x p1] e pos) ρ (.nx (ρ.set i (some d))) :=
  d1_of (ps_set hN hi hx (pe_self X e) hs hf) fun D σ Hc H s R w => he σ Hc H s R _ fun v Hc1 H1 s1 d1 => w _ Hc1 H1 s1 ((R.mono s1.cc).set d1 i)
/-- a, b, .. = e -/
theorem s_asg {g : TG} {vs : List Nat} {tg : Expr} (he : DE X e ρ d) (hg : PG X tg g) (hb : Bd g ρ d ρ1 vs) (hs : swapsWithSole [tg] e pos.line X.env = pure false := by rfl) (hw : swappedStores [tg] e X.env = pure none := by rfl) (hT : (assignEach [tg] X.env).map (·.2) = [assign tg X.env] := by rfl) : D1 X (.Assign [tg] e pos) ρ (.nx ρ1) :=
  d1_of (ps_asg (pe_self X e) hg hs hw hT) fun D σ Hc H s R w => he σ Hc H s R _ fun v Hc1 H1 s1 d1 => hb v σ Hc1 H1 s1.sub (R.mono s1.cc) d1 _ fun σ' R' _ => w σ' Hc1 H1 s1 R'
/-- a, b = e, f -/
theorem s_par {i j : Nat} {x y : Str} {px py pt : Pos} {kt k2 : Nat} {pt2 : Pos} {d2 : PyData} (hc : X.calm = true) (hN : X.N.Nodup) (hi : X.N[i]? = some x) (hj : X.N[j]? = some y) (hij : i ≠ j) (h1 : DE X a ρ d) (h2 : DE X b ρ d2)
    (hx : X.env.scope.names.lookup x = some .local := by rfl) (hy : X.env.scope.names.lookup y = some .local := by rfl) (n1 : starEach [a, b] X.env = (false, eval a X.env) :: starEach [b] X.env := by rfl) (n2 : starEach [b] X.env = (false, eval b X.env) :: starEach [] X.env := by rfl)
    (hw : swappedStores [.Tuple [.Name x px, .Name y py] kt pt] (.Tuple [a, b] k2 pt2) X.env = pure (some [x, y]) := by rfl) (hs : swapsWithSole [.Tuple [.Name x px, .Name y py] kt pt] (.Tuple [a, b] k2 pt2) pos.line X.env = pure false := by rfl) :
    D1 X (.Assign [.Tuple [.Name x px, .Name y py] kt pt] (.Tuple [a, b] k2 pt2) pos) ρ (.nx ((ρ.set i (some d)).set j (some d2))) :=
  let ⟨_, q1, q2⟩ := da_cons h1 (da_cons h2 da_nil n2) n1
  d1_of (ps_par hc hN hi hj hij hx hy q1 hw hs) fun D σ Hc H s R w => q2 σ Hc H s R _ fun vs Hc1 H1 s1 d1 => by
    cases d1 with
    | cons g1 t =>
      cases t with
      | cons g2 t =>
        cases t
        exact ⟨_, _, rfl, w _ Hc1 H1 s1 (((R.mono s1.cc).set g1 i).set g2 j)⟩
theorem s_par3 {i j l : Nat} {x y z : Str} {px py pz pt : Pos} {kt k2 : Nat} {pt2 : Pos} {d2 d3 : PyData} (hc : X.calm = true) (hN : X.N.Nodup) (hi : X.N[i]? = some x) (hj : X.N[j]? = some y) (hl : X.N[l]? = some z) (hij : i ≠ j) (hil : i ≠ l) (hjl : j ≠ l) (h1 : DE X a ρ d) (h2 : DE X b ρ d2) (h3 : DE X c ρ d3)
    (hx : X.env.scope.names.lookup x = some .local := by rfl) (hy : X.env.scope.names.lookup y = some .local := by rfl) (hz : X.env.scope.names.lookup z = some .local := by rfl) (n1 : starEach [a, b, c] X.env = (false, eval a X.env) :: starEach [b, c] X.env := by rfl) (n2 : starEach [b, c] X.env = (false, eval b X.env) :: starEach [c] X.env := by rfl) (n3 : starEach [c] X.env = (false, eval c X.env) :: starEach [] X.env := by rfl)
    (hw : swappedStores [.Tuple [.Name x px, .Name y py, .Name z pz] kt pt] (.Tuple [a, b, c] k2 pt2) X.env = pure (some [x, y, z]) := by rfl) (hs : swapsWithSole [.Tuple [.Name x px, .Name y py, .Name z pz] kt pt] (.Tuple [a, b, c] k2 pt2) pos.line X.env = pure false := by rfl) :
    D1 X (.Assign [.Tuple [.Name x px, .Name y py, .Name z pz] kt pt] (.Tuple [a, b, c] k2 pt2) pos) ρ (.nx (((ρ.set i (some d)).set j (some d2)).set l (some d3))) :=
  let ⟨_, q1, q2⟩ := da_cons h1 (da_cons h2 (da_cons h3 da_nil n3) n2) n1
  d1_of (ps_par3 hc hN hi hj hl hij hil hjl hx hy hz q1 hw hs) fun D σ Hc H s R w => q2 σ Hc H s R _ fun vs Hc1 H1 s1 d1 => by
    cases d1 with
    | cons g1 t =>
      cases t with
      | cons g2 t =>
        cases t with
        | cons g3 t =>
          cases t
          exact ⟨_, _, _, rfl, w _ Hc1 H1 s1 ((((R.mono s1.cc).set g1 i).set g2 j).set g3 l)⟩
theorem s_ret (he : DE X e ρ d) : D1 X (.Return (some e) pos) ρ (.rt d) := d1_of (ps_ret (pe_self X e)) fun D σ Hc H s R w => he σ Hc H s R _ w
theorem s_if (h : DT X c ρ k) (h1 : k = true → DS X sa ρ o) (h2 : k = false → DS X sb ρ o) : D1 X (.If c sa sb pos) ρ o := d1_of (ps_if (pt_self X c) (pss_self X sa) (pss_self X sb)) fun D σ Hc H s R w => h σ Hc H s R _ fun Hc1 H1 s1 => by
  cases k with
  | true =>
    show tsOf X sa D σ H1
    exact h1 rfl D σ Hc1 H1 s1.sub (R.mono s1.cc) (w.step s1)
  | false =>
    show tsOf X sb D σ H1
    exact h2 rfl D σ Hc1 H1 s1.sub (R.mono s1.cc) (w.step s1)
/-- if t: (something that leaves), not taken -/
theorem s_skip (h : DT X c ρ false) : D1 X (.If c sa [] pos) ρ (.nx ρ) := s_if h (fun z => nomatch z) fun _ => ds_nil
end
/-! ### for -/
section
variable {β : Type} (enc : β → PyData) (b : β → En → En → Prop) (body : En → Out → Prop)
/-- the turns of a for, one after another -/
inductive ForR : List β → En → Out → Prop
  | nil {ρ : En} : ForR [] ρ (.nx ρ)
  | next {x : β} {xs : List β} {ρ ρ1 ρ2 : En} {o : Out} : b x ρ ρ1 → body ρ1 (.nx ρ2) → ForR xs ρ2 o → ForR (x :: xs) ρ o
  | ret {x : β} {xs : List β} {ρ ρ1 : En} {d : PyData} : b x ρ ρ1 → body ρ1 (.rt d) → ForR (x :: xs) ρ (.rt d)
end
section
variable {X : Cx} {β : Type}
theorem sv_for {wi : TI} {g : TG} {tb : TS} {vs : List Nat} {enc : β → PyData} {xs : List β} {ρ : En} {o : Out} (hi : Ei wi ρ (xs.map enc)) (h : ForR (fun x ρ ρ1 => Bd g ρ (enc x) ρ1 vs) (Sv tb) xs ρ o) : Sv (tFor wi g tb) ρ o := fun D σ Hc H s R w =>
  hi σ Hc H s R _ fun J Hc1 H1 s1 st => by
    refine ⟨fun i m σ2 H2 => m = xs.length - i ∧ i ≤ xs.length ∧ ∃ Hc2 ρ2, Step Hc1 H1 Hc2 H2 ∧ Rep Hc2 σ2 ρ2 ∧ ForR (fun x ρ ρ1 => Bd g ρ (enc x) ρ1 vs) (Sv tb) (xs.drop i) ρ2 o, ⟨_, rfl, Nat.zero_le _, Hc1, ρ, Step.refl s1.sub, R.mono s1.cc, h⟩, ?_⟩
    rintro i m σ2 H2 ⟨rfl, hi2, Hc2, ρ2, s2, r2, f⟩
    obtain ⟨st1, st2⟩ := st Hc2 H2 s2.cc s2.sub i
    rw [List.length_map] at st1 st2
    by_cases hlt : i < xs.length
    · obtain ⟨go, yl⟩ := st1 hlt
      have gx : xs[i]? = some xs[i] := List.getElem?_eq_getElem hlt
      have dr : xs.drop i = xs[i] :: xs.drop (i + 1) := List.drop_eq_getElem_cons hlt
      generalize xs[i] = x at gx dr
      rw [dr] at f
      refine .inr ⟨go, fun σ' H' => ∃ Hc' ρ', Step Hc1 H1 Hc' H' ∧ Rep Hc' σ' ρ' ∧ ForR (fun x ρ ρ1 => Bd g ρ (enc x) ρ1 vs) (Sv tb) (xs.drop (i + 1)) ρ' o, fun σ' H' h => ⟨xs.length - (i + 1), by omega, rfl, hlt, h⟩, fun v H3 y => ?_⟩
      obtain ⟨Hc3, s3, dv⟩ := yl v H3 y
      have dv := dv (enc x) (by rw [List.getElem?_map, gx]; rfl)
      cases f with
      | next b1 b2 b3 => exact b1 v σ2 Hc3 H3 s3.sub (r2.mono s3.cc) dv _ fun σ' R' _ => b2 _ σ' Hc3 H3 s3.sub R' fun σ4 Hc4 H4 s4 R4 => ⟨Hc4, _, (s2.trans s3).trans s4, R4, b3⟩
      | ret b1 b2 => exact b1 v σ2 Hc3 H3 s3.sub (r2.mono s3.cc) dv _ fun σ' R' _ => b2 _ σ' Hc3 H3 s3.sub R' (w.step ((s1.trans s2).trans s3))
    · have e : i = xs.length := by omega
      subst e
      rw [List.drop_length] at f
      cases f
      exact .inl ⟨st2 (by omega), w σ2 Hc2 H2 (s1.trans s2) r2⟩
theorem s_for {g : TG} {vs : List Nat} {tg iter : Expr} {body : List Stmt} {pos : Pos} {enc : β → PyData} {xs : List β} {ρ : En} {o : Out} (hc : X.calm = true) (hi : DI X tg iter ρ (xs.map enc)) (hg : PG X tg g) (h : ForR (fun x ρ ρ1 => Bd g ρ (enc x) ρ1 vs) (DS X body) xs ρ o)
    (hp : PassesOwn (model X.prog X.w) X.A X.env X.xe := by exact PassesOwn.never) (hs : ∀ x, foldedSetIterable iter X.env x = pure x := by intro _; rfl) : D1 X (.For tg iter body [] pos) ρ o := d1_of (ps_for hp hc (pi_self X tg iter) hg (pss_self X body) hs) (sv_for hi h)
/-! ### while -/
inductive WhR (c : En → Bool → Prop) (body : En → Out → Prop) : Nat → En → Out → Prop
  | done {n : Nat} {ρ : En} : c ρ false → WhR c body n ρ (.nx ρ)
  | turn {n : Nat} {ρ ρ1 : En} {o : Out} : c ρ true → body ρ (.nx ρ1) → WhR c body n ρ1 o → WhR c body (n + 1) ρ o
theorem sv_while {tt : TT} {tb : TS} {n : Nat} {ρ : En} {o : Out} (h : WhR (Et tt) (Sv tb) n ρ o) : Sv (tWhile tt tb) ρ o := fun D σ Hc H s R w =>
  ⟨fun m σ2 H2 => ∃ Hc2 ρ2, Step Hc H Hc2 H2 ∧ Rep Hc2 σ2 ρ2 ∧ WhR (Et tt) (Sv tb) m ρ2 o, ⟨n, Hc, ρ, Step.refl s, R, h⟩, by
    rintro m σ2 H2 ⟨Hc2, ρ2, s2, r2, f⟩
    cases f with
    | done a =>
      refine a σ2 Hc2 H2 s2.sub r2 _ fun Hc3 H3 s3 => ?_
      rw [if_neg (by decide)]
      exact w σ2 Hc3 H3 (s2.trans s3) (r2.mono s3.cc)
    | @turn m' _ ρ3 _ a b f' =>
        refine a σ2 Hc2 H2 s2.sub r2 _ fun Hc3 H3 s3 => ?_
        rw [if_pos rfl]
        exact ⟨fun σ' H' => ∃ Hc' ρ', Step Hc H Hc' H' ∧ Rep Hc' σ' ρ' ∧ WhR (Et tt) (Sv tb) m' ρ' o, fun σ' H' h => ⟨m', Nat.lt_succ_self _, h⟩, b _ σ2 Hc3 H3 s3.sub (r2.mono s3.cc) fun σ4 Hc4 H4 s4 R4 => ⟨Hc4, ρ3, (s2.trans s3).trans s4, R4, f'⟩⟩⟩
theorem s_while {c : Expr} {body : List Stmt} {pos : Pos} {n : Nat} {ρ : En} {o : Out} (h : WhR (DT X c) (DS X body) n ρ o) (hp : PassesOwn (model X.prog X.w) X.A X.env X.xe := by exact PassesOwn.never) : D1 X (.While c body [] pos) ρ o := d1_of (ps_while hp (pt_self X c) (pss_self X body)) (sv_while h)
/-! ### x = [.. for ..] -/
variable {ρ : En} {tg iter elt cnd : Expr} {scope : Scope} {own : List (Str × Nat)} {pos spos py : Pos} {y : Str} {g : TG} {xs : List β} {enc f : β → PyData} {t : β → Bool} {b : β → En}
theorem sv_asg {te : TE} {d : PyData} {i : Nat} (h : Ev te ρ d) : Sv (tAsg te (gName i)) ρ (.nx (ρ.set i (some d))) := fun D σ Hc H s R w => h σ Hc H s R _ fun v Hc1 H1 s1 d1 => w _ Hc1 H1 s1 ((R.mono s1.cc).set d1 i)
theorem s_setLc (i : Nat) (hc : X.calm = true) (hN : X.N.Nodup) (hsw : swapsWith (.ListComp elt [⟨tg, iter, [], 0⟩] scope pos) (some (.Name y py)) spos.line X.env = pure true) (ok : BlkOk X.N X.env.scope scope own) (hi : DI X tg iter ρ (xs.map enc)) (hg : PGB X scope tg g) (hb : ∀ x ∈ xs, Bd g (wipeE ρ (own.map (·.2))) (enc x) (b x) (own.map (·.2)))
    (he : ∀ x ∈ xs, DEB X scope elt (b x) (f x)) (hl : xs.length ≤ 100000) (hy : X.N[i]? = some y := by rfl) (hyl : X.env.scope.names.lookup y = some .local := by rfl) (hs : ∀ x, foldedSetIterable iter X.env x = pure x := by intro _; rfl) : D1 X (.Assign [.Name y py] (.ListComp elt [⟨tg, iter, [], 0⟩] scope pos) spos) ρ (.nx (ρ.set i (some (.list (xs.map f))))) := by
  have h := ev_lc (t := fun _ => true) (tt := tYes) (te := teB X scope elt) (f := f) hi hb (fun x _ σ Hc H s R Q q => q Hc H (Step.refl s)) (fun x hx _ σ Hc H s R Q q s' H' C cl fp => he x hx s' H' C cl fp σ Hc H s R Q q) hl
  have e1 : xs.filter (fun _ => true) = xs := by simp
  rw [e1] at h
  exact d1_of (ps_setLc hc hN hy hyl hsw (pi_self X tg iter) ok hg (fun _ _ _ _ _ => pts_nil) (fun s H C cl fp => ⟨fun pins sh σ H' Q I z => z s H C cl fp pins sh I⟩) hs) (sv_asg h)
theorem s_setLcf (i : Nat) (hc : X.calm = true) (hN : X.N.Nodup) (hsw : swapsWith (.ListComp elt [⟨tg, iter, [cnd], 0⟩] scope pos) (some (.Name y py)) spos.line X.env = pure true) (ok : BlkOk X.N X.env.scope scope own) (hi : DI X tg iter ρ (xs.map enc)) (hg : PGB X scope tg g) (hb : ∀ x ∈ xs, Bd g (wipeE ρ (own.map (·.2))) (enc x) (b x) (own.map (·.2)))
    (ht : ∀ x ∈ xs, DTB X scope cnd (b x) (t x)) (he : ∀ x ∈ xs, t x = true → DEB X scope elt (b x) (f x)) (hl : xs.length ≤ 100000) (hy : X.N[i]? = some y := by rfl) (hyl : X.env.scope.names.lookup y = some .local := by rfl) (hs : ∀ x, foldedSetIterable iter X.env x = pure x := by intro _; rfl) :
    D1 X (.Assign [.Name y py] (.ListComp elt [⟨tg, iter, [cnd], 0⟩] scope pos) spos) ρ (.nx (ρ.set i (some (.list ((xs.filter t).map f))))) := by
  have h := ev_lc (tt := ttB X scope cnd) (te := teB X scope elt) (f := f) hi hb (fun x hx σ Hc H s R Q q s' H' C cl fp => ht x hx s' H' C cl fp σ Hc H s R Q q) (fun x hx ct σ Hc H s R Q q s' H' C cl fp => he x hx ct s' H' C cl fp σ Hc H s R Q q) hl
  exact d1_of (ps_setLc hc hN hy hyl hsw (pi_self X tg iter) ok hg (fun s H C cl fp => pts_one ⟨fun pins sh σ H' Q I z => z s H C cl fp pins sh I⟩) (fun s H C cl fp => ⟨fun pins sh σ H' Q I z => z s H C cl fp pins sh I⟩) hs) (sv_asg h)
end
/-! ### a def of the text keeps its promise -/
def startE (N : List Str) (ds : List PyData) : En := ds.map some ++ List.replicate (N.length - ds.length) none
theorem rep_start {H : Hp} {N : List Str} : ∀ {vs : List V} {ds : List PyData}, DqA H vs ds → Rep H (L2.start N vs) (startE N ds) := by
  intro vs ds h
  refine ⟨by simp [L2.start, startE, h.length], fun i d e => ?_⟩
  unfold startE at e
  unfold L2.start
  by_cases hi : i < ds.length
  · rw [List.getElem?_append_left (by simpa using hi), List.getElem?_map] at e
    rw [List.getElem?_append_left (by simpa [h.length] using hi), List.getElem?_map]
    cases g : ds[i]? with
    | none => rw [g] at e; cases e
    | some d' =>
      rw [g] at e
      have e2 : d' = d := by simpa using e
      subst e2
      obtain ⟨v, h1, h2⟩ := h.get g
      exact ⟨v, by rw [h1]; rfl, h2⟩
  · rw [List.getElem?_append_right (by simpa using Nat.le_of_not_lt hi), List.getElem?_replicate] at e
    split at e <;> cases e
section
variable {P : Program} {w : World} {K : PySem.W.Frag} {mg : Str → Option Value} {base : Heap}
/-- the context of a def's body -/
abbrev cxD (P : Program) (w : World) (K : PySem.W.Frag) (mg : Str → Option Value) (base : Heap) (N : List Str) (x : Str) (st : Stmt) (f : Addr) (cdv : Value) (A : Around) (outer : List Env) (s : Shared) (H : Hp) (E : XK) : Cx := (cxOf CX0 P w K mg base N x (defScope st) f cdv A outer s H E).nox
theorem kn_of {x : Str} {st : Stmt} {f : Addr} {fd : FuncData} {N ps : List Str} {k : Nat} {R : List PyData → PyData → Prop} (F : Fun K x x st f fd) (S : FnScope N ps (defScope st)) (hm : mg x = some (.ref f)) (hb : Binds K fd ps []) (len : ∀ ds d, R ds d → ds.length = ps.length)
    (body : ∀ (cdv : Value) (A : Around) (outer : List Env) (s : Shared) (H : Hp) (E : XK), Room k (cxD P w K mg base N x st f cdv A outer s H E).A → ∀ ds d, R ds d → DS (cxD P w K mg base N x st f cdv A outer s H E) (defBody st) (startE N ds) (.rt d)) : Kn P w K mg base x (k + 1) R := by
  refine ⟨f, fd, ps, F.ok S (fun vs H Q E h => ?_) (fun cdv A outer s H vs Q E hr h => ?_), hm, F.kp, hb⟩
  · obtain ⟨Hc, ds, d, _, da, hR, _⟩ := h
    rw [da.length]
    exact len ds d hR
  · obtain ⟨Hc, ds, d, sm, da, hR, q⟩ := h
    exact ⟨_, pss_self _ _, body cdv A outer s H E hr ds d hR _ (L2.start N vs) Hc H sm (rep_start da) q⟩
theorem bk {N : List Str} {x : Str} {st : Stmt} {f : Addr} {cdv : Value} {A : Around} {outer : List Env} {s : Shared} {H : Hp} {E : XK} {scope : Scope} {own : List (Str × Nat)} (h : blkC N (defScope st) scope own = true) :
    BlkOk (cxD P w K mg base N x st f cdv A outer s H E).N (cxD P w K mg base N x st f cdv A outer s H E).env.scope scope own := blkOk_by h
theorem Kn.mono {x : Str} {j k : Nat} {R : List PyData → PyData → Prop} (h : Kn P w K mg base x j R) (hl : j ≤ k) : Kn P w K mg base x k R := by
  obtain ⟨f, fd, ps, F, a, b, c⟩ := h.ex
  exact ⟨f, fd, ps, F.mono hl, a, b, c⟩
end
end PH

set_option Elab.async false
set_option linter.all false
set_option maxRecDepth 100000
set_option maxHeartbeats 1000000
namespace PH
open PySem PySem.Spec PyProof.Rows L2
/-- a def of the text where the top has put it -/
structure Fd (K : PySem.W.Frag) (mg : Str → Option Value) (x : Str) (st : Stmt) (ps : List Str) : Prop where
  ex : ∃ (f : Addr) (fd : FuncData), Fun K x x st f fd ∧ mg x = some (.ref f) ∧ Binds K fd ps []
section
variable {P : Program} {w : World} {K : PySem.W.Frag} {mg : Str → Option Value} {base : Heap}
theorem kn {x : Str} {st : Stmt} {N ps : List Str} {k : Nat} {R : List PyData → PyData → Prop} (F : Fd K mg x st ps) (S : FnScope N ps (defScope st)) (len : ∀ ds d, R ds d → ds.length = ps.length)
    (body : ∀ (f : Addr) (cdv : Value) (A : Around) (outer : List Env) (s : Shared) (H : Hp) (E : XK), Room k (cxD P w K mg base N x st f cdv A outer s H E).A → ∀ ds d, R ds d → DS (cxD P w K mg base N x st f cdv A outer s H E) (defBody st) (startE N ds) (.rt d)) : Kn P w K mg base x (k + 1) R := by
  obtain ⟨f, fd, F1, hm, hb⟩ := F.ex
  exact kn_of F1 S hm hb len fun cdv A outer s H E hr ds d hR => body f cdv A outer s H E hr ds d hR
end
/-! ### numbers of bounded size -/
abbrev Sm (n : Nat) (x : Int) : Prop := x.natAbs < 2 ^ n
theorem Sm.mono {m n : Nat} {x : Int} (h : Sm m x) (l : m ≤ n) : Sm n x := Nat.lt_of_lt_of_le h (Nat.pow_le_pow_right (by decide) l)
theorem Sm.mul {m n : Nat} {x y : Int} (a : Sm m x) (b : Sm n y) : Sm (m + n) (x * y) := wide_lt a b
theorem Sm.add {n : Nat} {x y : Int} (a : Sm n x) (b : Sm n y) : Sm (n + 1) (x + y) := by
  have h : (2 : Nat) ^ (n + 1) = 2 ^ n + 2 ^ n := by rw [Nat.pow_succ]; omega
  unfold Sm at *; omega
theorem Sm.neg {n : Nat} {x : Int} (a : Sm n x) : Sm n (-x) := by unfold Sm at *; omega
theorem Sm.sub {n : Nat} {x y : Int} (a : Sm n x) (b : Sm n y) : Sm (n + 1) (x - y) := Int.sub_eq_add_neg ▸ a.add b.neg
theorem cm {m n : Nat} {x y : Int} (a : Sm m x) (b : Sm n y) (h : m + n ≤ 900000) : CMulW x y := wide_mul (a.mono (Nat.le_succ m)) (b.mono (Nat.le_succ n)) (Nat.succ_pos _) (Nat.succ_pos _) (by omega)
theorem cz {n : Nat} {x : Int} {y : Int} (h0 : y ≠ 0) (a : Sm n y) (h : n ≤ 8999) : CDivZ x y := ⟨h0, Nat.lt_of_lt_of_le (PySem.Flt.log2_lt_of (Nat.succ_pos n) (a.mono (Nat.le_succ n))) (by omega)⟩
/-! ### places -/
abbrev Pl := Int × Int × Int
def plD (p : Pl) : PyData := .tuple [.int p.1, .int p.2.1, .int p.2.2]
def sg (z : Int) (g : Nat) : Int := if 0 < z then (g : Int) else -(g : Int)
def mkPl (x y z : Int) : Pl := (x.fdiv (sg z (gcd3 x y z)), y.fdiv (sg z (gcd3 x y z)), z.fdiv (sg z (gcd3 x y z)))
def moved (p q : Pl) : Pl := mkPl (p.1 * q.2.2 + q.1 * p.2.2) (p.2.1 * q.2.2 + q.2.1 * p.2.2) (p.2.2 * q.2.2)
def apart (p q : Pl) : Pl := mkPl (p.1 * q.2.2 - q.1 * p.2.2) (p.2.1 * q.2.2 - q.2.1 * p.2.2) (p.2.2 * q.2.2)
def turn (p q r : Pl) : Int := b2i (decide (0 < (apart q p).1 * (apart r p).2.1 - (apart q p).2.1 * (apart r p).1)) - b2i (decide ((apart q p).1 * (apart r p).2.1 - (apart q p).2.1 * (apart r p).1 < 0))
structure PlOk (n : Nat) (p : Pl) : Prop where
  x : Sm n p.1
  y : Sm n p.2.1
  d : Sm n p.2.2
  pos : 0 < p.2.2
  one : gcd3 p.1 p.2.1 p.2.2 = 1
theorem gcd3_dvd (x y z : Int) : ((gcd3 x y z : Nat) : Int) ∣ x ∧ ((gcd3 x y z : Nat) : Int) ∣ y ∧ ((gcd3 x y z : Nat) : Int) ∣ z := by
  have h : gcd3 x y z ∣ x.natAbs.gcd y.natAbs := Nat.gcd_dvd_left _ _
  exact ⟨Int.ofNat_dvd_left.mpr (Nat.dvd_trans h (Nat.gcd_dvd_left _ _)), Int.ofNat_dvd_left.mpr (Nat.dvd_trans h (Nat.gcd_dvd_right _ _)), Int.ofNat_dvd_left.mpr (Nat.gcd_dvd_right _ _)⟩
theorem gcd3_pos {x y z : Int} (h : z ≠ 0) : 0 < gcd3 x y z := Nat.gcd_pos_of_pos_right _ (by omega)
theorem sg_ne {z : Int} {g : Nat} (h : 0 < g) : sg z g ≠ 0 := by unfold sg; split <;> omega
theorem sg_dvd {z a : Int} {g : Nat} (h : (g : Int) ∣ a) : sg z g ∣ a := by
  unfold sg
  split
  · exact h
  · exact Int.neg_dvd.mpr h
theorem sg_abs (z : Int) (g : Nat) : (sg z g).natAbs = g := by unfold sg; split <;> omega
/-- a divisor's quotient -/
theorem fdiv_mul {a b : Int} (h : b ∣ a) (h0 : b ≠ 0) : a.fdiv b * b = a := by
  obtain ⟨c, rfl⟩ := h
  rw [Int.mul_fdiv_cancel_left _ h0, Int.mul_comm]
theorem fdiv_sm {n : Nat} {a b : Int} (h : b ∣ a) (h0 : b ≠ 0) (hs : Sm n a) : Sm n (a.fdiv b) := by
  have e := fdiv_mul h h0
  have h1 : (a.fdiv b).natAbs * b.natAbs = a.natAbs := by rw [← Int.natAbs_mul, e]
  have h2 : 1 ≤ b.natAbs := by omega
  have := Nat.le_mul_of_pos_right (a.fdiv b).natAbs h2
  unfold Sm at *; omega
theorem mkPl_ok {n : Nat} {x y z : Int} (h : z ≠ 0) (hx : Sm n x) (hy : Sm n y) (hz : Sm n z) : PlOk n (mkPl x y z) := by
  obtain ⟨d1, d2, d3⟩ := gcd3_dvd x y z
  have gp := gcd3_pos (x := x) (y := y) h
  have g0 := sg_ne (z := z) gp
  have e1 := fdiv_mul (sg_dvd (z := z) d1) g0
  have e2 := fdiv_mul (sg_dvd (z := z) d2) g0
  have e3 := fdiv_mul (sg_dvd (z := z) d3) g0
  refine ⟨fdiv_sm (sg_dvd d1) g0 hx, fdiv_sm (sg_dvd d2) g0 hy, fdiv_sm (sg_dvd d3) g0 hz, ?_, ?_⟩
  · show 0 < z.fdiv (sg z (gcd3 x y z))
    generalize z.fdiv (sg z (gcd3 x y z)) = k at e3
    by_cases c : 0 < z
    · have hs : sg z (gcd3 x y z) = gcd3 x y z := if_pos c
      rw [hs] at e3
      exact Int.pos_of_mul_pos_left (by rw [e3]; exact c) (by omega)
    · have hs : sg z (gcd3 x y z) = -(gcd3 x y z : Int) := if_neg c
      rw [hs] at e3
      have : 0 < k * (gcd3 x y z : Int) := by
        have : k * -(gcd3 x y z : Int) = -(k * (gcd3 x y z : Int)) := Int.mul_neg _ _
        omega
      exact Int.pos_of_mul_pos_left this (by omega)
  · show gcd3 (x.fdiv (sg z (gcd3 x y z))) (y.fdiv (sg z (gcd3 x y z))) (z.fdiv (sg z (gcd3 x y z))) = 1
    generalize x.fdiv (sg z (gcd3 x y z)) = a at e1
    generalize y.fdiv (sg z (gcd3 x y z)) = b at e2
    generalize z.fdiv (sg z (gcd3 x y z)) = c at e3
    have k1 : a.natAbs * gcd3 x y z = x.natAbs := by rw [← sg_abs z (gcd3 x y z), ← Int.natAbs_mul, e1]
    have k2 : b.natAbs * gcd3 x y z = y.natAbs := by rw [← sg_abs z (gcd3 x y z), ← Int.natAbs_mul, e2]
    have k3 : c.natAbs * gcd3 x y z = z.natAbs := by rw [← sg_abs z (gcd3 x y z), ← Int.natAbs_mul, e3]
    have : gcd3 a b c * gcd3 x y z = gcd3 x y z := by
      conv => rhs; unfold gcd3
      rw [← k1, ← k2, ← k3, Nat.gcd_mul_right, Nat.gcd_mul_right] <;> rfl
    have h1 : gcd3 a b c * gcd3 x y z = 1 * gcd3 x y z := by rw [this, Nat.one_mul]
    exact Nat.eq_of_mul_eq_mul_right gp h1
theorem PlOk.mono {m n : Nat} {p : Pl} (h : PlOk m p) (l : m ≤ n) : PlOk n p := ⟨h.x.mono l, h.y.mono l, h.d.mono l, h.pos, h.one⟩
theorem PlOk.ne {n : Nat} {p : Pl} (h : PlOk n p) : p.2.2 ≠ 0 := by have := h.pos; omega
theorem apart_ok {n : Nat} {p q : Pl} (hp : PlOk n p) (hq : PlOk n q) : PlOk (n + n + 1) (apart p q) :=
  mkPl_ok (Int.mul_ne_zero hp.ne hq.ne) ((hp.x.mul hq.d).sub (hq.x.mul hp.d)) ((hp.y.mul hq.d).sub (hq.y.mul hp.d)) ((hp.d.mul hq.d).mono (Nat.le_succ _))
theorem moved_ok {n : Nat} {p q : Pl} (hp : PlOk n p) (hq : PlOk n q) : PlOk (n + n + 1) (moved p q) :=
  mkPl_ok (Int.mul_ne_zero hp.ne hq.ne) ((hp.x.mul hq.d).add (hq.x.mul hp.d)) ((hp.y.mul hq.d).add (hq.y.mul hp.d)) ((hp.d.mul hq.d).mono (Nat.le_succ _))
end PH

set_option Elab.async false
set_option linter.all false
set_option maxRecDepth 100000
set_option maxHeartbeats 1000000
namespace PH
open PySem PySem.Spec PyProof.Rows L2
/-! ### the program's own functions, over plain data -/
abbrev Pr := Int × Int
def prD (u : Pr) : PyData := .tuple [.int u.1, .int u.2]
def mkFr (a b : Int) : Pr := (a.fdiv (sg b (a.natAbs.gcd b.natAbs)), b.fdiv (sg b (a.natAbs.gcd b.natAbs)))
def isLess (s t : Pr) : Bool := decide (s.1 * t.2 < t.1 * s.2)
def scaledN (p : Pl) : Pl := mkPl (p.1 * (-1)) (p.2.1 * (-1)) (p.2.2 * 1)
def mkDir (a b : Int) : Pr := (a.fdiv (a.natAbs.gcd b.natAbs : Nat), b.fdiv (a.natAbs.gcd b.natAbs : Nat))
def back (u : Pr) : Pr := (-u.1, -u.2)
def quarter (u : Pr) : Pr := (-u.2, u.1)
def towards (p q : Pl) : Pr := mkDir (apart q p).1 (apart q p).2.1
def mkHalf (a b c : Int) : Pl := (a.fdiv (gcd3 a b c : Nat), b.fdiv (gcd3 a b c : Nat), c.fdiv (gcd3 a b c : Nat))
def depth (h p : Pl) : Int := h.1 * p.1 + h.2.1 * p.2.1 - h.2.2 * p.2.2
def facing (h : Pl) : Pl := (-h.1, -h.2.1, -h.2.2)
def height (u : Pr) (p : Pl) : Pr := mkFr (u.1 * p.1 + u.2 * p.2.1) p.2.2
def halfFrom (u h : Pr) : Pl := mkHalf (u.1 * h.2) (u.2 * h.2) h.1
def halfAt (u : Pr) (p : Pl) : Pl := halfFrom u (height u p)
def comesFirst (p q : Pl) : Bool := HT.lexLt [p.1 * q.2.2, p.2.1 * q.2.2] [q.1 * p.2.2, q.2.1 * p.2.2]
structure FrOk (n : Nat) (s : Pr) : Prop where
  p : Sm n s.1
  q : Sm n s.2
  pos : 0 < s.2
  one : s.1.natAbs.gcd s.2.natAbs = 1
structure DirOk (n : Nat) (u : Pr) : Prop where
  a : Sm n u.1
  b : Sm n u.2
  one : u.1.natAbs.gcd u.2.natAbs = 1
structure HfOk (n : Nat) (h : Pl) : Prop where
  a : Sm n h.1
  b : Sm n h.2.1
  c : Sm n h.2.2
  ne : ¬ (h.1 = 0 ∧ h.2.1 = 0)
theorem DirOk.ne {n : Nat} {u : Pr} (h : DirOk n u) : ¬ (u.1 = 0 ∧ u.2 = 0) := fun ⟨a, b⟩ => by
  have := h.one
  rw [a, b] at this
  exact absurd this (by decide)
theorem gcd2_dvd (x y : Int) : ((x.natAbs.gcd y.natAbs : Nat) : Int) ∣ x ∧ ((x.natAbs.gcd y.natAbs : Nat) : Int) ∣ y :=
  ⟨Int.ofNat_dvd_left.mpr (Nat.gcd_dvd_left _ _), Int.ofNat_dvd_left.mpr (Nat.gcd_dvd_right _ _)⟩
theorem mkFr_ok {m n : Nat} {a b : Int} (h : b ≠ 0) (ha : Sm n a) (hb : Sm n b) : FrOk n (mkFr a b) := by
  obtain ⟨d1, d2⟩ := gcd2_dvd a b
  have gp : 0 < a.natAbs.gcd b.natAbs := Nat.gcd_pos_of_pos_right _ (by omega)
  have g0 := sg_ne (z := b) gp
  have e1 := fdiv_mul (sg_dvd (z := b) d1) g0
  have e2 := fdiv_mul (sg_dvd (z := b) d2) g0
  refine ⟨fdiv_sm (sg_dvd d1) g0 ha, fdiv_sm (sg_dvd d2) g0 hb, ?_, ?_⟩
  · show 0 < b.fdiv (sg b (a.natAbs.gcd b.natAbs))
    generalize b.fdiv (sg b (a.natAbs.gcd b.natAbs)) = k at e2
    by_cases c : 0 < b
    · have hs : sg b (a.natAbs.gcd b.natAbs) = (a.natAbs.gcd b.natAbs : Nat) := if_pos c
      rw [hs] at e2
      exact Int.pos_of_mul_pos_left (by rw [e2]; exact c) (by omega)
    · have hs : sg b (a.natAbs.gcd b.natAbs) = -((a.natAbs.gcd b.natAbs : Nat) : Int) := if_neg c
      rw [hs] at e2
      have : 0 < k * ((a.natAbs.gcd b.natAbs : Nat) : Int) := by
        have : k * -((a.natAbs.gcd b.natAbs : Nat) : Int) = -(k * ((a.natAbs.gcd b.natAbs : Nat) : Int)) := Int.mul_neg _ _
        omega
      exact Int.pos_of_mul_pos_left this (by omega)
  · show (a.fdiv (sg b (a.natAbs.gcd b.natAbs))).natAbs.gcd (b.fdiv (sg b (a.natAbs.gcd b.natAbs))).natAbs = 1
    generalize a.fdiv (sg b (a.natAbs.gcd b.natAbs)) = x at e1
    generalize b.fdiv (sg b (a.natAbs.gcd b.natAbs)) = y at e2
    have k1 : x.natAbs * a.natAbs.gcd b.natAbs = a.natAbs := by rw [← sg_abs b (a.natAbs.gcd b.natAbs), ← Int.natAbs_mul, e1]
    have k2 : y.natAbs * a.natAbs.gcd b.natAbs = b.natAbs := by rw [← sg_abs b (a.natAbs.gcd b.natAbs), ← Int.natAbs_mul, e2]
    have : x.natAbs.gcd y.natAbs * a.natAbs.gcd b.natAbs = a.natAbs.gcd b.natAbs := (Nat.gcd_mul_right _ _ _).symm.trans (by rw [k1, k2])
    have h1 : x.natAbs.gcd y.natAbs * a.natAbs.gcd b.natAbs = 1 * a.natAbs.gcd b.natAbs := by rw [this, Nat.one_mul]
    exact Nat.eq_of_mul_eq_mul_right gp h1
theorem mkDir_ok {n : Nat} {a b : Int} (h : ¬ (a = 0 ∧ b = 0)) (ha : Sm n a) (hb : Sm n b) : DirOk n (mkDir a b) := by
  obtain ⟨d1, d2⟩ := gcd2_dvd a b
  have gp : 0 < a.natAbs.gcd b.natAbs := by
    by_cases c : a = 0
    · exact Nat.gcd_pos_of_pos_right _ (by omega)
    · exact Nat.gcd_pos_of_pos_left _ (by omega)
  have g0 : ((a.natAbs.gcd b.natAbs : Nat) : Int) ≠ 0 := by omega
  have e1 := fdiv_mul d1 g0
  have e2 := fdiv_mul d2 g0
  refine ⟨fdiv_sm d1 g0 ha, fdiv_sm d2 g0 hb, ?_⟩
  show (a.fdiv (a.natAbs.gcd b.natAbs : Nat)).natAbs.gcd (b.fdiv (a.natAbs.gcd b.natAbs : Nat)).natAbs = 1
  generalize a.fdiv (a.natAbs.gcd b.natAbs : Nat) = x at e1
  generalize b.fdiv (a.natAbs.gcd b.natAbs : Nat) = y at e2
  have k1 : x.natAbs * a.natAbs.gcd b.natAbs = a.natAbs := by
    have := congrArg Int.natAbs e1
    rw [Int.natAbs_mul, Int.natAbs_natCast] at this
    exact this
  have k2 : y.natAbs * a.natAbs.gcd b.natAbs = b.natAbs := by
    have := congrArg Int.natAbs e2
    rw [Int.natAbs_mul, Int.natAbs_natCast] at this
    exact this
  have : x.natAbs.gcd y.natAbs * a.natAbs.gcd b.natAbs = a.natAbs.gcd b.natAbs := (Nat.gcd_mul_right _ _ _).symm.trans (by rw [k1, k2])
  have h1 : x.natAbs.gcd y.natAbs * a.natAbs.gcd b.natAbs = 1 * a.natAbs.gcd b.natAbs := by rw [this, Nat.one_mul]
  exact Nat.eq_of_mul_eq_mul_right gp h1
theorem gcd3_half_pos {a b c : Int} (h : ¬ (a = 0 ∧ b = 0)) : 0 < gcd3 a b c := by
  unfold gcd3
  refine Nat.gcd_pos_of_pos_left _ ?_
  by_cases c : a = 0
  · exact Nat.gcd_pos_of_pos_right _ (by omega)
  · exact Nat.gcd_pos_of_pos_left _ (by omega)
theorem gcd3_half_sm {n : Nat} {a b c : Int} (h : ¬ (a = 0 ∧ b = 0)) (ha : Sm n a) (hb : Sm n b) : Sm n (gcd3 a b c : Nat) := by
  have d1 := (gcd3_dvd a b c).1
  have d2 := (gcd3_dvd a b c).2.1
  have e1 : gcd3 a b c ∣ a.natAbs := Int.ofNat_dvd_left.mp d1
  have e2 : gcd3 a b c ∣ b.natAbs := Int.ofNat_dvd_left.mp d2
  unfold Sm at *
  rw [Int.natAbs_natCast]
  by_cases c : a = 0
  · have := Nat.le_of_dvd (by omega) e2
    omega
  · have := Nat.le_of_dvd (by omega) e1
    omega
theorem gcd2_sm {n : Nat} {a b : Int} (h : ¬ (a = 0 ∧ b = 0)) (ha : Sm n a) (hb : Sm n b) : Sm n (a.natAbs.gcd b.natAbs : Nat) := by
  unfold Sm at *
  rw [Int.natAbs_natCast]
  by_cases c : a = 0
  · have := Nat.le_of_dvd (by omega) (Nat.gcd_dvd_right a.natAbs b.natAbs)
    omega
  · have := Nat.le_of_dvd (by omega) (Nat.gcd_dvd_left a.natAbs b.natAbs)
    omega
theorem gcd2_ne {a b : Int} (h : ¬ (a = 0 ∧ b = 0)) : ((a.natAbs.gcd b.natAbs : Nat) : Int) ≠ 0 := by
  have : 0 < a.natAbs.gcd b.natAbs := by
    by_cases c : a = 0
    · exact Nat.gcd_pos_of_pos_right _ (by omega)
    · exact Nat.gcd_pos_of_pos_left _ (by omega)
  omega
theorem mkHalf_ok {n : Nat} {a b c : Int} (h : ¬ (a = 0 ∧ b = 0)) (ha : Sm n a) (hb : Sm n b) (hc : Sm n c) : HfOk n (mkHalf a b c) := by
  obtain ⟨d1, d2, d3⟩ := gcd3_dvd a b c
  have gp := gcd3_half_pos (c := c) h
  have g0 : ((gcd3 a b c : Nat) : Int) ≠ 0 := by omega
  refine ⟨fdiv_sm d1 g0 ha, fdiv_sm d2 g0 hb, fdiv_sm d3 g0 hc, fun ⟨z1, z2⟩ => h ?_⟩
  have e1 := fdiv_mul d1 g0
  have e2 := fdiv_mul d2 g0
  have z1 : a.fdiv (gcd3 a b c : Nat) = 0 := z1
  have z2 : b.fdiv (gcd3 a b c : Nat) = 0 := z2
  rw [z1] at e1
  rw [z2] at e2
  omega
/-- places in their form are told by their coordinates -/
theorem pl_inj {m n : Nat} {p q : Pl} (hp : PlOk m p) (hq : PlOk n q) (h1 : p.1 * q.2.2 = q.1 * p.2.2) (h2 : p.2.1 * q.2.2 = q.2.1 * p.2.2) : p = q := by
  have key : ∀ {p q : Pl} {m n : Nat}, PlOk m p → PlOk n q → p.1 * q.2.2 = q.1 * p.2.2 → p.2.1 * q.2.2 = q.2.1 * p.2.2 → p.2.2.natAbs ∣ q.2.2.natAbs := by
    intro p q m n hp hq h1 h2
    have o := hp.one
    unfold gcd3 at o
    have a1 : p.2.2.natAbs ∣ p.1.natAbs * q.2.2.natAbs := ⟨q.1.natAbs, by rw [← Int.natAbs_mul, h1, Int.natAbs_mul, Nat.mul_comm]⟩
    have a2 : p.2.2.natAbs ∣ p.2.1.natAbs * q.2.2.natAbs := ⟨q.2.1.natAbs, by rw [← Int.natAbs_mul, h2, Int.natAbs_mul, Nat.mul_comm]⟩
    have a3 : p.2.2.natAbs ∣ p.2.2.natAbs * q.2.2.natAbs := ⟨q.2.2.natAbs, rfl⟩
    have g := Nat.dvd_gcd (Nat.dvd_gcd a1 a2) a3
    rw [Nat.gcd_mul_right, Nat.gcd_mul_right, o, Nat.one_mul] at g
    exact g
  have d1 := key hp hq h1 h2
  have d2 := key hq hp h1.symm h2.symm
  have e := Nat.dvd_antisymm d1 d2
  have e' : p.2.2 = q.2.2 := by have := hp.pos; have := hq.pos; omega
  rw [← e'] at h1 h2
  have n0 := hp.ne
  exact Prod.ext (Int.eq_of_mul_eq_mul_right n0 h1) (Prod.ext (Int.eq_of_mul_eq_mul_right n0 h2) e')
theorem mkPl_spec {x y z : Int} (h : z ≠ 0) : (mkPl x y z).1 * z = x * (mkPl x y z).2.2 ∧ (mkPl x y z).2.1 * z = y * (mkPl x y z).2.2 := by
  obtain ⟨d1, d2, d3⟩ := gcd3_dvd x y z
  have g0 := sg_ne (z := z) (gcd3_pos (x := x) (y := y) h)
  have e1 := fdiv_mul (sg_dvd (z := z) d1) g0
  have e2 := fdiv_mul (sg_dvd (z := z) d2) g0
  have e3 := fdiv_mul (sg_dvd (z := z) d3) g0
  show x.fdiv (sg z (gcd3 x y z)) * z = x * z.fdiv (sg z (gcd3 x y z)) ∧ y.fdiv (sg z (gcd3 x y z)) * z = y * z.fdiv (sg z (gcd3 x y z))
  generalize sg z (gcd3 x y z) = g at *
  generalize x.fdiv g = a at *
  generalize y.fdiv g = b at *
  generalize z.fdiv g = c at *
  rw [← e1, ← e2, ← e3]
  constructor <;> grind
theorem apart_ne {m n : Nat} {p q : Pl} (hp : PlOk m p) (hq : PlOk n q) (h : p ≠ q) : ¬ ((apart q p).1 = 0 ∧ (apart q p).2.1 = 0) := fun ⟨a, b⟩ => by
  have z0 : q.2.2 * p.2.2 ≠ 0 := Int.mul_ne_zero hq.ne hp.ne
  obtain ⟨s1, s2⟩ := mkPl_spec (x := q.1 * p.2.2 - p.1 * q.2.2) (y := q.2.1 * p.2.2 - p.2.1 * q.2.2) z0
  have a' : (mkPl (q.1 * p.2.2 - p.1 * q.2.2) (q.2.1 * p.2.2 - p.2.1 * q.2.2) (q.2.2 * p.2.2)).1 = 0 := a
  have b' : (mkPl (q.1 * p.2.2 - p.1 * q.2.2) (q.2.1 * p.2.2 - p.2.1 * q.2.2) (q.2.2 * p.2.2)).2.1 = 0 := b
  have dn := (mkPl_ok (n := (q.1 * p.2.2 - p.1 * q.2.2).natAbs + (q.2.1 * p.2.2 - p.2.1 * q.2.2).natAbs + (q.2.2 * p.2.2).natAbs) z0
    (Nat.lt_of_le_of_lt (by omega) Nat.lt_two_pow_self) (Nat.lt_of_le_of_lt (by omega) Nat.lt_two_pow_self) (Nat.lt_of_le_of_lt (by omega) Nat.lt_two_pow_self) (x := q.1 * p.2.2 - p.1 * q.2.2) (y := q.2.1 * p.2.2 - p.2.1 * q.2.2)).ne
  rw [a'] at s1
  rw [b'] at s2
  have t1 := (Int.mul_eq_zero.mp (show (q.1 * p.2.2 - p.1 * q.2.2) * _ = 0 by rw [← s1, Int.zero_mul])).resolve_right dn
  have t2 := (Int.mul_eq_zero.mp (show (q.2.1 * p.2.2 - p.2.1 * q.2.2) * _ = 0 by rw [← s2, Int.zero_mul])).resolve_right dn
  exact h (pl_inj hp hq (by omega) (by omega))
theorem towards_ok {n : Nat} {p q : Pl} (hp : PlOk n p) (hq : PlOk n q) (h : p ≠ q) : DirOk (n + n + 1) (towards p q) :=
  mkDir_ok (apart_ne hp hq h) (apart_ok hq hp).x (apart_ok hq hp).y
theorem back_ok {n : Nat} {u : Pr} (h : DirOk n u) : DirOk n (back u) := ⟨h.a.neg, h.b.neg, by
  show (-u.1).natAbs.gcd (-u.2).natAbs = 1
  rw [Int.natAbs_neg, Int.natAbs_neg]; exact h.one⟩
theorem quarter_ok {n : Nat} {u : Pr} (h : DirOk n u) : DirOk n (quarter u) := ⟨h.b.neg, h.a, by
  show (-u.2).natAbs.gcd u.1.natAbs = 1
  rw [Int.natAbs_neg, Nat.gcd_comm]; exact h.one⟩
theorem height_sm {m n : Nat} {u : Pr} {p : Pl} (hu : DirOk m u) (hp : PlOk n p) : FrOk (m + n + 1) (height u p) :=
  mkFr_ok (m := 0) hp.ne ((hu.a.mul hp.x).add (hu.b.mul hp.y)) (hp.d.mono (by omega))
theorem halfAt_ok {m n : Nat} {u : Pr} {p : Pl} (hu : DirOk m u) (hp : PlOk n p) : HfOk (m + n + 1) (halfAt u p) := by
  have f := height_sm hu hp
  have q : Sm n (height u p).2 := fdiv_sm (sg_dvd (gcd2_dvd _ _).2) (sg_ne (Nat.gcd_pos_of_pos_right _ (by have := hp.ne; omega))) hp.d
  refine mkHalf_ok (fun ⟨a, b⟩ => hu.ne ?_) ((hu.a.mul q).mono (by omega)) ((hu.b.mul q).mono (by omega)) f.p
  have := f.pos
  exact ⟨(Int.mul_eq_zero.mp a).resolve_right (by omega), (Int.mul_eq_zero.mp b).resolve_right (by omega)⟩
theorem facing_ok {n : Nat} {h : Pl} (k : HfOk n h) : HfOk n (facing h) := ⟨k.a.neg, k.b.neg, k.c.neg, fun ⟨a, b⟩ => k.ne (by
  have a' : -h.1 = 0 := a
  have b' : -h.2.1 = 0 := b
  omega)⟩
end PH

set_option Elab.async false
set_option linter.all false
set_option maxRecDepth 100000
set_option maxHeartbeats 1000000
namespace PH
open PySem PySem.Spec PyProof.Rows L2
/-! ### the walks -/
section
variable {P : Program} {w : World} {K : PySem.W.Frag} {mg : Str → Option Value} {base : Heap}
def R_is_number (ds : List PyData) (d : PyData) : Prop := ∃ i : Int, ds = [.int i] ∧ d = .bool true
theorem sc_is_number : FnScope ["value"] ["value"] (defScope (topS 8)) := ⟨rfl, rfl, rfl, by decide +kernel, rfl, by decide +kernel, by decide +kernel⟩
theorem kn_is_number (T : Top mg) (F : Fd K mg "is_number" (topS 8) ["value"]) : Kn P w K mg base "is_number" 1 R_is_number := by
  refine kn F sc_is_number (by rintro ds d ⟨i, rfl, rfl⟩; rfl) fun f cdv A outer s H E hr ds d => ?_
  rintro ⟨i, rfl, rfl⟩
  exact ds_rt (s_ret (DE.is (d_and (d_isInt T (d_v 0)) fun _ => d_not (d_isBoolI T (d_v 0))) rfl))
def R_place (ds : List PyData) (d : PyData) : Prop := ∃ x y z : Int, ds = [.int x, .int y, .int z] ∧ z ≠ 0 ∧ Sm 8999 z ∧ d = plD (mkPl x y z)
theorem sc_place : FnScope ["x", "y", "d", "divisor", "one"] ["x", "y", "d"] (defScope (topS 14)) := ⟨rfl, rfl, rfl, by decide +kernel, rfl, by decide +kernel, by decide +kernel⟩
theorem kn_place (T : Top mg) (F : Fd K mg "place" (topS 14) ["x", "y", "d"]) (G : Kn P w K mg base "is_number" 1 R_is_number) : Kn P w K mg base "place" 2 R_place := by
  refine kn F sc_place (by rintro ds d ⟨x, y, z, rfl, _⟩; rfl) fun f cdv A outer s H E hr ds d => ?_
  rintro ⟨x, y, z, rfl, hz, sz, rfl⟩
  have gs : Sm 8999 (sg z (gcd3 x y z)) := by
    unfold Sm at *
    rw [sg_abs]
    have := Nat.le_of_dvd (by omega) (show gcd3 x y z ∣ z.natAbs from Nat.gcd_dvd_right _ _)
    omega
  have g0 : sg z (gcd3 x y z) ≠ 0 := sg_ne (gcd3_pos hz)
  refine ds_cons (s_skip (DT.is (t_or (t_not (t_v (d_all T (bs := [x, y, z].map fun _ => true) rfl (d_lc (own := [("one", 4)]) (g := gName 4) (xs := [x, y, z]) (enc := .int) (f := fun _ => .bool true) rfl sc_place.nd (bk (by decide +kernel)) (di_tup (d_tup (da_cons (d_v 0) (da_cons (d_v 1) (da_cons (d_v 2) da_nil)))))
    (fun _ _ _ _ _ => pg_name (i := 4) sc_place.nd rfl (Or.inl rfl)) (fun _ _ => bd_name (by decide)) (fun i _ _ _ _ _ _ => d_call G hr (da_cons (d_v 4) da_nil) ⟨i, rfl, rfl⟩) le_small))))
    fun _ => t_eqI (d_v 2) d_int) (show _ = false by simp [hz]))) ?_
  refine ds_cons (s_set 3 sc_place.nd (d := .int (sg z (gcd3 x y z))) (d_if (t_gt (d_v 2) d_int) (fun h => DE.is (d_gcd3 T (d_v 0) (d_v 1) (d_v 2)) ?_) fun h => DE.is (d_neg (d_gcd3 T (d_v 0) (d_v 1) (d_v 2))) ?_)) ?_
  · unfold sg; rw [if_pos (of_decide_eq_true h)]
  · unfold sg; rw [if_neg (of_decide_eq_false h)]
  · exact ds_rt (s_ret (d_tup (da_cons (d_div (cz g0 gs (by decide)) (d_v 0) (d_v 3)) (da_cons (d_div (cz g0 gs (by decide)) (d_v 1) (d_v 3)) (da_cons (d_div (cz g0 gs (by decide)) (d_v 2) (d_v 3)) da_nil)))))
end
end PH

set_option Elab.async false
set_option linter.all false
set_option maxRecDepth 100000
set_option maxHeartbeats 1000000
namespace PH
open PySem PySem.Spec PyProof.Rows L2
section
variable {P : Program} {w : World} {K : PySem.W.Frag} {mg : Str → Option Value} {base : Heap}
def R_row (ds : List PyData) (d : PyData) : Prop := ∃ p : Pl, ds = [plD p, .int 3] ∧ d = .bool true
theorem sc_row : FnScope ["value", "many", "one"] ["value", "many"] (defScope (topS 9)) := ⟨rfl, rfl, rfl, by decide +kernel, rfl, by decide +kernel, by decide +kernel⟩
theorem kn_row (T : Top mg) (F : Fd K mg "is_row_of_numbers" (topS 9) ["value", "many"]) (G : Kn P w K mg base "is_number" 1 R_is_number) : Kn P w K mg base "is_row_of_numbers" 2 R_row := by
  refine kn F sc_row (by rintro ds d ⟨p, rfl, _⟩; rfl) fun f cdv A outer s H E hr ds d => ?_
  rintro ⟨p, rfl, rfl⟩
  exact ds_rt (s_ret (DE.is (d_and3 (d_isTup T (d_v 0)) (fun _ => d_eqI (d_lenT T (d_v 0)) (d_v 1)) fun _ _ => d_all T (bs := [p.1, p.2.1, p.2.2].map fun _ => true) rfl (d_lc (own := [("one", 2)]) (g := gName 2) (xs := [p.1, p.2.1, p.2.2]) (enc := .int) (f := fun _ => .bool true) rfl sc_row.nd (bk (by decide +kernel)) (di_tup (d_v 0))
    (fun _ _ _ _ _ => pg_name (i := 2) sc_row.nd rfl (Or.inl rfl)) (fun _ _ => bd_name (by decide)) (fun i _ _ _ _ _ _ => d_call G hr (da_cons (d_v 2) da_nil) ⟨i, rfl, rfl⟩) le_small)) rfl))
def R_fraction (ds : List PyData) (d : PyData) : Prop := ∃ a b : Int, ds = [.int a, .int b] ∧ b ≠ 0 ∧ Sm 8999 b ∧ d = prD (mkFr a b)
theorem sc_fraction : FnScope ["p", "q", "divisor"] ["p", "q"] (defScope (topS 10)) := ⟨rfl, rfl, rfl, by decide +kernel, rfl, by decide +kernel, by decide +kernel⟩
theorem kn_fraction (T : Top mg) (F : Fd K mg "fraction" (topS 10) ["p", "q"]) : Kn P w K mg base "fraction" 1 R_fraction := by
  refine kn F sc_fraction (by rintro ds d ⟨a, b, rfl, _⟩; rfl) fun f cdv A outer s H E hr ds d => ?_
  rintro ⟨a, b, rfl, hb, sb, rfl⟩
  have gp : 0 < a.natAbs.gcd b.natAbs := Nat.gcd_pos_of_pos_right _ (by omega)
  have g0 := sg_ne (z := b) gp
  have gs : Sm 8999 (sg b (a.natAbs.gcd b.natAbs)) := by
    have := gcd2_sm (a := a) (b := b) (n := 8999)
    unfold Sm at *
    rw [sg_abs]
    have := Nat.le_of_dvd (by omega) (Nat.gcd_dvd_right a.natAbs b.natAbs)
    omega
  refine ds_cons (s_set 2 sc_fraction.nd (d := .int (sg b (a.natAbs.gcd b.natAbs))) (d_if (t_gt (d_v 1) d_int) (fun h => DE.is (d_gcd T (d_v 0) (d_v 1)) ?_) fun h => DE.is (d_neg (d_gcd T (d_v 0) (d_v 1))) ?_)) ?_
  · unfold sg; rw [if_pos (of_decide_eq_true h)]
  · unfold sg; rw [if_neg (of_decide_eq_false h)]
  · exact ds_rt (s_ret (d_tup (da_cons (d_div (cz g0 gs (by decide)) (d_v 0) (d_v 2)) (da_cons (d_div (cz g0 gs (by decide)) (d_v 1) (d_v 2)) da_nil))))
def R_isLess (ds : List PyData) (d : PyData) : Prop := ∃ (s t : Pr) (n : Nat), ds = [prD s, prD t] ∧ n ≤ 20000 ∧ Sm n s.1 ∧ Sm n s.2 ∧ Sm n t.1 ∧ Sm n t.2 ∧ d = .bool (isLess s t)
theorem sc_isLess : FnScope ["s", "t"] ["s", "t"] (defScope (topS 12)) := ⟨rfl, rfl, rfl, by decide +kernel, rfl, by decide +kernel, by decide +kernel⟩
theorem kn_isLess (F : Fd K mg "is_less" (topS 12) ["s", "t"]) : Kn P w K mg base "is_less" 1 R_isLess := by
  refine kn F sc_isLess (by rintro ds d ⟨a, b, n, rfl, _⟩; rfl) fun f cdv A outer s H E hr ds d => ?_
  rintro ⟨s, t, n, rfl, hn, h1, h2, h3, h4, rfl⟩
  exact ds_rt (s_ret (d_lt (d_mul (cm h1 h4 (by omega)) (d_ixT rfl (d_v 0) d_int) (d_ixT rfl (d_v 1) d_int)) (d_mul (cm h3 h2 (by omega)) (d_ixT rfl (d_v 1) d_int) (d_ixT rfl (d_v 0) d_int))))
def R_isPlace (ds : List PyData) (d : PyData) : Prop := ∃ (p : Pl) (n : Nat), ds = [plD p] ∧ PlOk n p ∧ d = .bool true
theorem sc_isPlace : FnScope ["value"] ["value"] (defScope (topS 15)) := ⟨rfl, rfl, rfl, by decide +kernel, rfl, by decide +kernel, by decide +kernel⟩
theorem kn_isPlace (T : Top mg) (F : Fd K mg "is_place" (topS 15) ["value"]) (G : Kn P w K mg base "is_row_of_numbers" 2 R_row) : Kn P w K mg base "is_place" 3 R_isPlace := by
  refine kn F sc_isPlace (by rintro ds d ⟨p, n, rfl, _⟩; rfl) fun f cdv A outer s H E hr ds d => ?_
  rintro ⟨p, n, rfl, hp, rfl⟩
  have := hp.pos
  have := hp.one
  exact ds_rt (s_ret (DE.is (d_and3 (k := true) (d_call G hr (da_cons (d_v 0) (da_cons d_int da_nil)) ⟨p, rfl, rfl⟩) (fun _ => d_gt (i := p.2.2) (j := 0) (d_ixT rfl (d_v 0) d_int) d_int) fun _ _ => d_eqI (d_gcd3 (i := p.1) (j := p.2.1) (n := p.2.2) T (d_ixT rfl (d_v 0) d_int) (d_ixT rfl (d_v 0) d_int) (d_ixT rfl (d_v 0) d_int)) d_int)
    (show PyData.bool _ = _ by simp [*])))
def R_first (ds : List PyData) (d : PyData) : Prop := ∃ (p q : Pl) (n : Nat), ds = [plD p, plD q] ∧ n ≤ 20000 ∧ PlOk n p ∧ PlOk n q ∧ d = .bool (comesFirst p q)
theorem sc_first : FnScope ["p", "q"] ["p", "q"] (defScope (topS 18)) := ⟨rfl, rfl, rfl, by decide +kernel, rfl, by decide +kernel, by decide +kernel⟩
theorem kn_first (F : Fd K mg "comes_first" (topS 18) ["p", "q"]) : Kn P w K mg base "comes_first" 1 R_first := by
  refine kn F sc_first (by rintro ds d ⟨p, q, n, rfl, _⟩; rfl) fun f cdv A outer s H E hr ds d => ?_
  rintro ⟨p, q, n, rfl, hn, hp, hq, rfl⟩
  exact ds_rt (s_ret (d_ltT (ns := [p.1 * q.2.2, p.2.1 * q.2.2]) (ms := [q.1 * p.2.2, q.2.1 * p.2.2]) hr.units0
    (d_tup (da_cons (d_mul (cm hp.x hq.d (by omega)) (d_ixT rfl (d_v 0) d_int) (d_ixT rfl (d_v 1) d_int)) (da_cons (d_mul (cm hp.y hq.d (by omega)) (d_ixT rfl (d_v 0) d_int) (d_ixT rfl (d_v 1) d_int)) da_nil)))
    (d_tup (da_cons (d_mul (cm hq.x hp.d (by omega)) (d_ixT rfl (d_v 1) d_int) (d_ixT rfl (d_v 0) d_int)) (da_cons (d_mul (cm hq.y hp.d (by omega)) (d_ixT rfl (d_v 1) d_int) (d_ixT rfl (d_v 0) d_int)) da_nil)))))
/-- places from two places -/
def R_pp (g : Pl → Pl → Pl) (ds : List PyData) (d : PyData) : Prop := ∃ (p q : Pl) (n : Nat), ds = [plD p, plD q] ∧ n ≤ 4400 ∧ PlOk n p ∧ PlOk n q ∧ d = plD (g p q)
theorem sc_moved : FnScope ["p", "q"] ["p", "q"] (defScope (topS 19)) := ⟨rfl, rfl, rfl, by decide +kernel, rfl, by decide +kernel, by decide +kernel⟩
theorem kn_moved (F : Fd K mg "moved" (topS 19) ["p", "q"]) (G : Kn P w K mg base "place" 2 R_place) : Kn P w K mg base "moved" 3 (R_pp moved) := by
  refine kn F sc_moved (by rintro ds d ⟨p, q, n, rfl, _⟩; rfl) fun f cdv A outer s H E hr ds d => ?_
  rintro ⟨p, q, n, rfl, hn, hp, hq, rfl⟩
  exact ds_rt (s_ret (d_call G hr (da_cons (d_add (d_mul (cm hp.x hq.d (by omega)) (d_ixT rfl (d_v 0) d_int) (d_ixT rfl (d_v 1) d_int)) (d_mul (cm hq.x hp.d (by omega)) (d_ixT rfl (d_v 1) d_int) (d_ixT rfl (d_v 0) d_int)))
    (da_cons (d_add (d_mul (cm hp.y hq.d (by omega)) (d_ixT rfl (d_v 0) d_int) (d_ixT rfl (d_v 1) d_int)) (d_mul (cm hq.y hp.d (by omega)) (d_ixT rfl (d_v 1) d_int) (d_ixT rfl (d_v 0) d_int)))
    (da_cons (d_mul (cm hp.d hq.d (by omega)) (d_ixT rfl (d_v 0) d_int) (d_ixT rfl (d_v 1) d_int)) da_nil))) ⟨_, _, _, rfl, Int.mul_ne_zero hp.ne hq.ne, (hp.d.mul hq.d).mono (by omega), rfl⟩))
theorem sc_apart : FnScope ["p", "q"] ["p", "q"] (defScope (topS 20)) := ⟨rfl, rfl, rfl, by decide +kernel, rfl, by decide +kernel, by decide +kernel⟩
theorem kn_apart (F : Fd K mg "apart" (topS 20) ["p", "q"]) (G : Kn P w K mg base "place" 2 R_place) : Kn P w K mg base "apart" 3 (R_pp apart) := by
  refine kn F sc_apart (by rintro ds d ⟨p, q, n, rfl, _⟩; rfl) fun f cdv A outer s H E hr ds d => ?_
  rintro ⟨p, q, n, rfl, hn, hp, hq, rfl⟩
  exact ds_rt (s_ret (d_call G hr (da_cons (d_sub (d_mul (cm hp.x hq.d (by omega)) (d_ixT rfl (d_v 0) d_int) (d_ixT rfl (d_v 1) d_int)) (d_mul (cm hq.x hp.d (by omega)) (d_ixT rfl (d_v 1) d_int) (d_ixT rfl (d_v 0) d_int)))
    (da_cons (d_sub (d_mul (cm hp.y hq.d (by omega)) (d_ixT rfl (d_v 0) d_int) (d_ixT rfl (d_v 1) d_int)) (d_mul (cm hq.y hp.d (by omega)) (d_ixT rfl (d_v 1) d_int) (d_ixT rfl (d_v 0) d_int)))
    (da_cons (d_mul (cm hp.d hq.d (by omega)) (d_ixT rfl (d_v 0) d_int) (d_ixT rfl (d_v 1) d_int)) da_nil))) ⟨_, _, _, rfl, Int.mul_ne_zero hp.ne hq.ne, (hp.d.mul hq.d).mono (by omega), rfl⟩))
def R_scaled (ds : List PyData) (d : PyData) : Prop := ∃ (p : Pl) (n : Nat), ds = [plD p, .int (-1), .int 1] ∧ n ≤ 8000 ∧ PlOk n p ∧ d = plD (scaledN p)
theorem sc_scaled : FnScope ["p", "m", "n"] ["p", "m", "n"] (defScope (topS 21)) := ⟨rfl, rfl, rfl, by decide +kernel, rfl, by decide +kernel, by decide +kernel⟩
theorem sm1 : Sm 1 (-1) := by decide
theorem sm1' : Sm 1 1 := by decide
theorem kn_scaled (F : Fd K mg "scaled" (topS 21) ["p", "m", "n"]) (G : Kn P w K mg base "place" 2 R_place) : Kn P w K mg base "scaled" 3 R_scaled := by
  refine kn F sc_scaled (by rintro ds d ⟨p, n, rfl, _⟩; rfl) fun f cdv A outer s H E hr ds d => ?_
  rintro ⟨p, n, rfl, hn, hp, rfl⟩
  exact ds_rt (s_ret (d_call G hr (da_cons (d_mul (cm hp.x sm1 (by omega)) (d_ixT rfl (d_v 0) d_int) (d_v 1)) (da_cons (d_mul (cm hp.y sm1 (by omega)) (d_ixT rfl (d_v 0) d_int) (d_v 1)) (da_cons (d_mul (cm hp.d sm1' (by omega)) (d_ixT rfl (d_v 0) d_int) (d_v 2)) da_nil)))
    ⟨_, _, _, rfl, Int.mul_ne_zero hp.ne (by decide), (hp.d.mul sm1').mono (by omega), rfl⟩))
def R_turn (ds : List PyData) (d : PyData) : Prop := ∃ (p q r : Pl) (n : Nat), ds = [plD p, plD q, plD r] ∧ n ≤ 4400 ∧ PlOk n p ∧ PlOk n q ∧ PlOk n r ∧ d = .int (turn p q r)
theorem sc_turn : FnScope ["p", "q", "r", "one", "other", "found"] ["p", "q", "r"] (defScope (topS 22)) := ⟨rfl, rfl, rfl, by decide +kernel, rfl, by decide +kernel, by decide +kernel⟩
theorem kn_turn (F : Fd K mg "turn" (topS 22) ["p", "q", "r"]) (G : Kn P w K mg base "apart" 3 (R_pp apart)) : Kn P w K mg base "turn" 4 R_turn := by
  refine kn F sc_turn (by rintro ds d ⟨p, q, r, n, rfl, _⟩; rfl) fun f cdv A outer s H E hr ds d => ?_
  rintro ⟨p, q, r, n, rfl, hn, hp, hq, hr', rfl⟩
  have a1 := apart_ok hq hp
  have a2 := apart_ok hr' hp
  exact ds_cons (s_par rfl sc_turn.nd (i := 3) (j := 4) rfl rfl (by decide) (d_call G hr (da_cons (d_v 1) (da_cons (d_v 0) da_nil)) ⟨q, p, n, rfl, hn, hq, hp, rfl⟩) (d_call G hr (da_cons (d_v 2) (da_cons (d_v 0) da_nil)) ⟨r, p, n, rfl, hn, hr', hp, rfl⟩))
    (ds_cons (s_set 5 sc_turn.nd (d_sub (d_mul (cm a1.x a2.y (by omega)) (d_ixT rfl (d_v 3) d_int) (d_ixT rfl (d_v 4) d_int)) (d_mul (cm a1.y a2.x (by omega)) (d_ixT rfl (d_v 3) d_int) (d_ixT rfl (d_v 4) d_int))))
    (ds_rt (s_ret (d_subB (d_gt (d_v 5) d_int) (d_lt (d_v 5) d_int)))))
end
end PH

set_option Elab.async false
set_option linter.all false
set_option maxRecDepth 100000
set_option maxHeartbeats 1000000
namespace PH
open PySem PySem.Spec PyProof.Rows L2
/-- a == b == c -/
theorem t_chain {X : Cx} {ρ : En} {a b c : Expr} {pos : Pos} {i j l : Int} (ha : DE X a ρ (.int i)) (hb : DE X b ρ (.int j)) (hc : DE X c ρ (.int l)) (hm : lastMarks [.Eq, .Eq] [b, c] = false := by with_unfolding_all rfl) :
    DT X (.Compare a [.Eq, .Eq] [b, c] pos) ρ (decide (i = j) && decide (j = l)) := dt_of (pt_chain op_eq op_eq (pe_self X a) (pe_self X b) (pe_self X c) hm) (et_test fun σ Hc H s R Q q => ha σ Hc H s R _ fun x Hc1 H1 s1 d1 => hb σ Hc1 H1 s1.sub (R.mono s1.cc) _ fun y Hc2 H2 s2 d2 => by
  cases d1
  cases d2
  have e1 : decide (V.int i = V.int j) = decide (i = j) := by rw [dec_int]; exact (Bool.beq_eq_decide_eq i j)
  refine ⟨rfl, _, rfl, ?_⟩
  rw [e1]
  clear e1
  generalize decide (i = j) = k1 at q ⊢
  cases k1 with
  | true =>
    rw [if_pos rfl]
    refine hc σ Hc2 H2 s2.sub ((R.mono s1.cc).mono s2.cc) _ fun z Hc3 H3 s3 d3 => ?_
    cases d3
    have e2 : decide (V.int j = V.int l) = decide (j = l) := by rw [dec_int]; exact (Bool.beq_eq_decide_eq j l)
    refine ⟨rfl, ?_⟩
    rw [e2]
    exact q _ Hc3 H3 ((s1.trans s2).trans s3) (.bl _)
  | false =>
    rw [if_neg (by decide)]
    exact q _ Hc2 H2 (s1.trans s2) (.bl _))
section
variable {P : Program} {w : World} {K : PySem.W.Frag} {mg : Str → Option Value} {base : Heap}
def R_direction (ds : List PyData) (d : PyData) : Prop := ∃ a b : Int, ds = [.int a, .int b] ∧ ¬ (a = 0 ∧ b = 0) ∧ Sm 8999 a ∧ Sm 8999 b ∧ d = prD (mkDir a b)
theorem sc_direction : FnScope ["a", "b", "divisor"] ["a", "b"] (defScope (topS 24)) := ⟨rfl, rfl, rfl, by decide +kernel, rfl, by decide +kernel, by decide +kernel⟩
theorem kn_direction (T : Top mg) (F : Fd K mg "direction" (topS 24) ["a", "b"]) (G : Kn P w K mg base "is_number" 1 R_is_number) : Kn P w K mg base "direction" 2 R_direction := by
  refine kn F sc_direction (by rintro ds d ⟨a, b, rfl, _⟩; rfl) fun f cdv A outer s H E hr ds d => ?_
  rintro ⟨a, b, rfl, h0, sa, sb, rfl⟩
  have g0 := gcd2_ne h0
  have gs := gcd2_sm h0 sa sb
  refine ds_cons (s_skip (DT.is (t_or3 (t_not (t_v (d_call G hr (da_cons (d_v 0) da_nil) ⟨a, rfl, rfl⟩))) (fun _ => t_not (t_v (d_call G hr (da_cons (d_v 1) da_nil) ⟨b, rfl, rfl⟩))) fun _ _ => t_chain (i := a) (j := b) (l := 0) (d_v 0) (d_v 1) d_int) ?_)) ?_
  · have : (decide (a = b) && decide (b = 0)) = false := by
      rw [Bool.and_eq_false_iff, decide_eq_false_iff_not, decide_eq_false_iff_not]
      omega
    rw [this]; rfl
  · exact ds_cons (s_set 2 sc_direction.nd (d_gcd T (d_v 0) (d_v 1))) (ds_rt (s_ret (d_tup (da_cons (d_div (cz g0 gs (by decide)) (d_v 0) (d_v 2)) (da_cons (d_div (cz g0 gs (by decide)) (d_v 1) (d_v 2)) da_nil)))))
def R_pr (g : Pr → Pr) (ds : List PyData) (d : PyData) : Prop := ∃ u : Pr, ds = [prD u] ∧ d = prD (g u)
theorem sc_back : FnScope ["u"] ["u"] (defScope (topS 25)) := ⟨rfl, rfl, rfl, by decide +kernel, rfl, by decide +kernel, by decide +kernel⟩
theorem kn_back (F : Fd K mg "back" (topS 25) ["u"]) : Kn P w K mg base "back" 1 (R_pr back) := by
  refine kn F sc_back (by rintro ds d ⟨u, rfl, _⟩; rfl) fun f cdv A outer s H E hr ds d => ?_
  rintro ⟨u, rfl, rfl⟩
  exact ds_rt (s_ret (d_tup (da_cons (d_neg (d_ixT rfl (d_v 0) d_int)) (da_cons (d_neg (d_ixT rfl (d_v 0) d_int)) da_nil))))
theorem sc_quarter : FnScope ["u"] ["u"] (defScope (topS 26)) := ⟨rfl, rfl, rfl, by decide +kernel, rfl, by decide +kernel, by decide +kernel⟩
theorem kn_quarter (F : Fd K mg "quarter" (topS 26) ["u"]) : Kn P w K mg base "quarter" 1 (R_pr quarter) := by
  refine kn F sc_quarter (by rintro ds d ⟨u, rfl, _⟩; rfl) fun f cdv A outer s H E hr ds d => ?_
  rintro ⟨u, rfl, rfl⟩
  exact ds_rt (s_ret (d_tup (da_cons (d_neg (d_ixT rfl (d_v 0) d_int)) (da_cons (d_ixT rfl (d_v 0) d_int) da_nil))))
def R_towards (ds : List PyData) (d : PyData) : Prop := ∃ (p q : Pl) (n : Nat), ds = [plD p, plD q] ∧ n ≤ 4400 ∧ PlOk n p ∧ PlOk n q ∧ p ≠ q ∧ d = prD (towards p q)
theorem sc_towards : FnScope ["p", "q", "way"] ["p", "q"] (defScope (topS 27)) := ⟨rfl, rfl, rfl, by decide +kernel, rfl, by decide +kernel, by decide +kernel⟩
theorem kn_towards (F : Fd K mg "towards" (topS 27) ["p", "q"]) (G : Kn P w K mg base "apart" 3 (R_pp apart)) (G2 : Kn P w K mg base "direction" 2 R_direction) : Kn P w K mg base "towards" 4 R_towards := by
  refine kn F sc_towards (by rintro ds d ⟨p, q, n, rfl, _⟩; rfl) fun f cdv A outer s H E hr ds d => ?_
  rintro ⟨p, q, n, rfl, hn, hp, hq, hne, rfl⟩
  have a := apart_ok hq hp
  exact ds_cons (s_set 2 sc_towards.nd (d_call G hr (da_cons (d_v 1) (da_cons (d_v 0) da_nil)) ⟨q, p, n, rfl, hn, hq, hp, rfl⟩))
    (ds_rt (s_ret (d_call G2 (hr.mono (by decide)) (da_cons (d_ixT rfl (d_v 2) d_int) (da_cons (d_ixT rfl (d_v 2) d_int) da_nil)) ⟨_, _, rfl, apart_ne hp hq hne, a.x.mono (by omega), a.y.mono (by omega), rfl⟩)))
def R_half (ds : List PyData) (d : PyData) : Prop := ∃ a b c : Int, ds = [.int a, .int b, .int c] ∧ ¬ (a = 0 ∧ b = 0) ∧ Sm 8999 a ∧ Sm 8999 b ∧ d = plD (mkHalf a b c)
theorem sc_half : FnScope ["a", "b", "c", "divisor", "one"] ["a", "b", "c"] (defScope (topS 29)) := ⟨rfl, rfl, rfl, by decide +kernel, rfl, by decide +kernel, by decide +kernel⟩
theorem kn_half (T : Top mg) (F : Fd K mg "half" (topS 29) ["a", "b", "c"]) (G : Kn P w K mg base "is_number" 1 R_is_number) : Kn P w K mg base "half" 2 R_half := by
  refine kn F sc_half (by rintro ds d ⟨a, b, c, rfl, _⟩; rfl) fun f cdv A outer s H E hr ds d => ?_
  rintro ⟨x, y, z, rfl, h0, sx, sy, rfl⟩
  have g0 : ((gcd3 x y z : Nat) : Int) ≠ 0 := by have := gcd3_half_pos (c := z) h0; omega
  have gs := gcd3_half_sm (c := z) h0 sx sy
  refine ds_cons (s_skip (DT.is (t_or (k := false) (l := (decide (x = y) && decide (y = 0))) (t_not (k := true) (t_v (d_all T (bs := [x, y, z].map fun _ => true) rfl (d_lc (own := [("one", 4)]) (g := gName 4) (xs := [x, y, z]) (enc := .int) (f := fun _ => .bool true) rfl sc_half.nd (bk (by decide +kernel)) (di_tup (d_tup (da_cons (d_v 0) (da_cons (d_v 1) (da_cons (d_v 2) da_nil)))))
    (fun _ _ _ _ _ => pg_name (i := 4) sc_half.nd rfl (Or.inl rfl)) (fun _ _ => bd_name (by decide)) (fun i _ _ _ _ _ _ => d_call G hr (da_cons (d_v 4) da_nil) ⟨i, rfl, rfl⟩) le_small))))
    fun _ => t_chain (d_v 0) (d_v 1) d_int) ?_)) ?_
  · have : (decide (x = y) && decide (y = 0)) = false := by
      rw [Bool.and_eq_false_iff, decide_eq_false_iff_not, decide_eq_false_iff_not]
      omega
    rw [this]; rfl
  · exact ds_cons (s_set 3 sc_half.nd (d_gcd3 T (d_v 0) (d_v 1) (d_v 2))) (ds_rt (s_ret (d_tup (da_cons (d_div (cz g0 gs (by decide)) (d_v 0) (d_v 3)) (da_cons (d_div (cz g0 gs (by decide)) (d_v 1) (d_v 3)) (da_cons (d_div (cz g0 gs (by decide)) (d_v 2) (d_v 3)) da_nil))))))
def R_depth (ds : List PyData) (d : PyData) : Prop := ∃ (h p : Pl) (m n : Nat), ds = [plD h, plD p] ∧ m + n ≤ 100000 ∧ HfOk m h ∧ PlOk n p ∧ d = .int (depth h p)
theorem sc_depth : FnScope ["half_plane", "p", "a", "b", "c"] ["half_plane", "p"] (defScope (topS 30)) := ⟨rfl, rfl, rfl, by decide +kernel, rfl, by decide +kernel, by decide +kernel⟩
theorem kn_depth (F : Fd K mg "depth" (topS 30) ["half_plane", "p"]) : Kn P w K mg base "depth" 1 R_depth := by
  refine kn F sc_depth (by rintro ds d ⟨h, p, m, n, rfl, _⟩; rfl) fun f cdv A outer s H E hr ds d => ?_
  rintro ⟨h, p, m, n, rfl, hn, hh, hp, rfl⟩
  exact ds_cons (s_asg (vs := [2, 3, 4]) (d_v 0) (pg_tup (n := 3) rfl (pgs_cons (pg_name (i := 2) sc_depth.nd rfl (.inl rfl)) (pgs_cons (pg_name (i := 3) sc_depth.nd rfl (.inl rfl)) (pgs_cons (pg_name (i := 4) sc_depth.nd rfl (.inl rfl)) pgs_nil)))) (bd_tup (bds_cons (bd_name (by decide)) (bds_cons (bd_name (by decide)) (bds_cons (bd_name (by decide)) bds_nil))) rfl))
    (ds_rt (s_ret (d_sub (d_add (d_mul (cm hh.a hp.x (by omega)) (d_v 2) (d_ixT rfl (d_v 1) d_int)) (d_mul (cm hh.b hp.y (by omega)) (d_v 3) (d_ixT rfl (d_v 1) d_int))) (d_mul (cm hh.c hp.d (by omega)) (d_v 4) (d_ixT rfl (d_v 1) d_int)))))
def R_has (ds : List PyData) (d : PyData) : Prop := ∃ (h p : Pl) (m n : Nat), ds = [plD h, plD p] ∧ m + n ≤ 100000 ∧ HfOk m h ∧ PlOk n p ∧ d = .bool (decide (0 ≤ depth h p))
theorem sc_has : FnScope ["half_plane", "p"] ["half_plane", "p"] (defScope (topS 31)) := ⟨rfl, rfl, rfl, by decide +kernel, rfl, by decide +kernel, by decide +kernel⟩
theorem kn_has (F : Fd K mg "has" (topS 31) ["half_plane", "p"]) (G : Kn P w K mg base "depth" 1 R_depth) : Kn P w K mg base "has" 2 R_has := by
  refine kn F sc_has (by rintro ds d ⟨h, p, m, n, rfl, _⟩; rfl) fun f cdv A outer s H E hr ds d => ?_
  rintro ⟨h, p, m, n, rfl, hn, hh, hp, rfl⟩
  exact ds_rt (s_ret (d_ge (d_call G hr (da_cons (d_v 0) (da_cons (d_v 1) da_nil)) ⟨h, p, m, n, rfl, hn, hh, hp, rfl⟩) d_int))
def R_facing (ds : List PyData) (d : PyData) : Prop := ∃ h : Pl, ds = [plD h] ∧ d = plD (facing h)
theorem sc_facing : FnScope ["half_plane", "a", "b", "c"] ["half_plane"] (defScope (topS 32)) := ⟨rfl, rfl, rfl, by decide +kernel, rfl, by decide +kernel, by decide +kernel⟩
theorem kn_facing (F : Fd K mg "facing" (topS 32) ["half_plane"]) : Kn P w K mg base "facing" 1 R_facing := by
  refine kn F sc_facing (by rintro ds d ⟨h, rfl, _⟩; rfl) fun f cdv A outer s H E hr ds d => ?_
  rintro ⟨h, rfl, rfl⟩
  exact ds_cons (s_asg (vs := [1, 2, 3]) (d_v 0) (pg_tup (n := 3) rfl (pgs_cons (pg_name (i := 1) sc_facing.nd rfl (.inl rfl)) (pgs_cons (pg_name (i := 2) sc_facing.nd rfl (.inl rfl)) (pgs_cons (pg_name (i := 3) sc_facing.nd rfl (.inl rfl)) pgs_nil)))) (bd_tup (bds_cons (bd_name (by decide)) (bds_cons (bd_name (by decide)) (bds_cons (bd_name (by decide)) bds_nil))) rfl))
    (ds_rt (s_ret (d_tup (da_cons (d_neg (d_v 1)) (da_cons (d_neg (d_v 2)) (da_cons (d_neg (d_v 3)) da_nil))))))
def R_height (ds : List PyData) (d : PyData) : Prop := ∃ (u : Pr) (p : Pl) (m n : Nat), ds = [prD u, plD p] ∧ m ≤ 9000 ∧ n ≤ 8999 ∧ DirOk m u ∧ PlOk n p ∧ d = prD (height u p)
theorem sc_height : FnScope ["u", "p"] ["u", "p"] (defScope (topS 33)) := ⟨rfl, rfl, rfl, by decide +kernel, rfl, by decide +kernel, by decide +kernel⟩
theorem kn_height (F : Fd K mg "height" (topS 33) ["u", "p"]) (G : Kn P w K mg base "fraction" 1 R_fraction) : Kn P w K mg base "height" 2 R_height := by
  refine kn F sc_height (by rintro ds d ⟨h, p, m, n, rfl, _⟩; rfl) fun f cdv A outer s H E hr ds d => ?_
  rintro ⟨u, p, m, n, rfl, hm, hn, hu, hp, rfl⟩
  exact ds_rt (s_ret (d_call G hr (da_cons (d_add (d_mul (cm hu.a hp.x (by omega)) (d_ixT rfl (d_v 0) d_int) (d_ixT rfl (d_v 1) d_int)) (d_mul (cm hu.b hp.y (by omega)) (d_ixT rfl (d_v 0) d_int) (d_ixT rfl (d_v 1) d_int))) (da_cons (d_ixT rfl (d_v 1) d_int) da_nil)) ⟨_, _, rfl, hp.ne, hp.d.mono (by omega), rfl⟩))
def R_halfFrom (ds : List PyData) (d : PyData) : Prop := ∃ (u h : Pr) (m n : Nat), ds = [prD u, prD h] ∧ m + n ≤ 8999 ∧ DirOk m u ∧ 0 < h.2 ∧ Sm n h.2 ∧ d = plD (halfFrom u h)
theorem sc_halfFrom : FnScope ["u", "h"] ["u", "h"] (defScope (topS 34)) := ⟨rfl, rfl, rfl, by decide +kernel, rfl, by decide +kernel, by decide +kernel⟩
theorem kn_halfFrom (F : Fd K mg "half_from" (topS 34) ["u", "h"]) (G : Kn P w K mg base "half" 2 R_half) : Kn P w K mg base "half_from" 3 R_halfFrom := by
  refine kn F sc_halfFrom (by rintro ds d ⟨h, p, m, n, rfl, _⟩; rfl) fun f cdv A outer s H E hr ds d => ?_
  rintro ⟨u, h, m, n, rfl, hn, hu, hp, hs, rfl⟩
  exact ds_rt (s_ret (d_call G hr (da_cons (d_mul (cm hu.a hs (by omega)) (d_ixT rfl (d_v 0) d_int) (d_ixT rfl (d_v 1) d_int)) (da_cons (d_mul (cm hu.b hs (by omega)) (d_ixT rfl (d_v 0) d_int) (d_ixT rfl (d_v 1) d_int)) (da_cons (d_ixT rfl (d_v 1) d_int) da_nil)))
    ⟨_, _, _, rfl, fun ⟨a, b⟩ => hu.ne ⟨(Int.mul_eq_zero.mp a).resolve_right (by omega), (Int.mul_eq_zero.mp b).resolve_right (by omega)⟩, (hu.a.mul hs).mono (by omega), (hu.b.mul hs).mono (by omega), rfl⟩))
def R_halfAt (ds : List PyData) (d : PyData) : Prop := ∃ (u : Pr) (p : Pl) (m n : Nat), ds = [prD u, plD p] ∧ m + n ≤ 8999 ∧ DirOk m u ∧ PlOk n p ∧ d = plD (halfAt u p)
theorem sc_halfAt : FnScope ["u", "p"] ["u", "p"] (defScope (topS 35)) := ⟨rfl, rfl, rfl, by decide +kernel, rfl, by decide +kernel, by decide +kernel⟩
theorem height_den {n : Nat} {u : Pr} {p : Pl} (hp : PlOk n p) : Sm n (height u p).2 := fdiv_sm (sg_dvd (gcd2_dvd _ _).2) (sg_ne (Nat.gcd_pos_of_pos_right _ (by have := hp.ne; omega))) hp.d
theorem kn_halfAt (F : Fd K mg "half_at" (topS 35) ["u", "p"]) (G : Kn P w K mg base "half_from" 3 R_halfFrom) (G2 : Kn P w K mg base "height" 2 R_height) : Kn P w K mg base "half_at" 4 R_halfAt := by
  refine kn F sc_halfAt (by rintro ds d ⟨h, p, m, n, rfl, _⟩; rfl) fun f cdv A outer s H E hr ds d => ?_
  rintro ⟨u, p, m, n, rfl, hn, hu, hp, rfl⟩
  exact ds_rt (s_ret (d_call G hr (da_cons (d_v 0) (da_cons (d_call G2 (hr.mono (by decide)) (da_cons (d_v 0) (da_cons (d_v 1) da_nil)) ⟨u, p, m, n, rfl, by omega, by omega, hu, hp, rfl⟩) da_nil)) ⟨u, height u p, m, n, rfl, hn, hu, (height_sm hu hp).pos, height_den hp, rfl⟩))
end
end PH

set_option Elab.async false
set_option linter.all false
set_option maxRecDepth 100000
set_option maxHeartbeats 1000000
namespace PH
open PySem PySem.Spec PyProof.Rows L2
/-! ### a dict comprehension whose keys are tuples -/
section
variable {X : Cx}
/-- D[t] = v for a tuple t, as a comprehension does it -/
theorem setT {pl : List (Addr × Obj)} {τ : L2.St} {Hx : Hp} {sh : Shared} {Er : Value → Shared → Prop} {dd kb : Addr} {es : List (List Key × V)} {ky : List Key} {x : V} {ux : Value} {R : Unit → Shared → Prop} (hu : X.A.units + 1 < cLine) (I : Inv X pl τ Hx sh)
    (h1 : Hx dd = some (.dT es)) (h2 : Hx kb = some (.tup (ky.map kV))) (hz : es.length < sizeLine) (rx : RelV x ux) (go : ∀ sh', Inv X pl τ (upd Hx dd (.dT (putK es ky x))) sh' → R () sh') :
    wpAny (model X.prog X.w) X.A (dictSet dd (.ref kb) ux) R Er sh := by
  obtain ⟨z0, ns, ts, rel, dh⟩ := L2.dt_of I.hok h1
  have l0 : ts.length ≤ sizeLine := by rw [← Paired.length rel]; exact z0
  have l1 : (putK es ky x).length ≤ sizeLine := by
    have := length_putK es ky x
    omega
  refine wpAny_dictSet_heap (hsz := l0) (show X.A.units < cLine by omega) (key_of I.hok h2) dh fun hp' dh' sb => go _ ?_
  obtain ⟨ob, ents, ep, g1, g2, g3, g4, _, g5⟩ := dh'
  refine d_write I (by rw [h1]; exact True.intro) sb ⟨ob, g1⟩ ⟨l1, ns, _, (rel.put ky h2 rx).keeps fun c ys ec => ?_, ob, ents, ep, g1, g2, g3, g4, g5⟩
  rw [upd_ne (ne_of ec h1 (fun z => nomatch z))]
  exact ec
/-- {k: v for target in iter}: D the new dict -/
def tDcT (wi : TI) (g : TG) (tk tv : TE) (own : List Nat) : TE := fun σ H Q => wi σ H fun J Ha => ∀ D, Ha D = none → ∃ W : Nat → Nat → Hp → Prop, (∃ n, W 0 n (upd Ha D (.dT []))) ∧ ∀ i n Hb, W i n Hb →
  (J.stop i Hb ∧ Q (.ref D) Hb) ∨ (J.go i Hb ∧ ∃ Nx : Hp → Prop, (∀ Hd, Nx Hd → ∃ n', n' < n ∧ W (i + 1) n' Hd) ∧ ∀ x Hd, J.yld i Hb x Hd → g x (wipe σ own) Hd fun τ He => wipe τ own = wipe σ own ∧
    tk τ He fun y Hf => tv τ Hf fun z Hg => ∃ es k b, y = .ref b ∧ Hg b = some (.tup (k.map kV)) ∧ Hg D = some (.dT es) ∧ es.length < sizeLine ∧ Nx (upd Hg D (.dT (putK es k z))))
theorem coreT {pins : List (Addr × Obj)} {sh : Shared} {σ : L2.St} {H : Hp} {Q : VK} {kx vx tg iter : Expr} {sc : Scope} {own : List (Str × Nat)} {ps ps' : Pos} {wi : TI} {g : TG} {tk tv : TE} {use : Option (Value → Sem Unit)} {Qf : Value → Shared → Prop}
    (hu : X.A.units + 1 < cLine) (calm : X.calm = true) (nd : X.N.Nodup) (I : Inv X pins σ H sh) (hi : PI X tg iter wi) (ok : BlkOk X.N X.env.scope sc own) (hg : PGB X sc tg g)
    (hk : ∀ s0 H0 C cl fp, PE (X.blk s0 H0 sc (compEnvC sc cl C X.env) fp) kx tk) (hv : ∀ s0 H0 C cl fp, PE (X.blk s0 H0 sc (compEnvC sc cl C X.env) fp) vx tv) (fold : ∀ x, foldedSetIterable iter X.env x = pure x) (read : tDcT wi g tk tv (own.map (·.2)) σ H Q)
    (fin : ∀ D C s2 m H2, Inv X pins σ H2 s2 → Q (.ref D) H2 → s2.heap.Ns C m → FpOk X pins H2 C → compPost (model X.prog X.w) X.A X.xe use Qf (.ref D) C (.ok .next) s2) :
    wpAny (model X.prog X.w) X.A (comprehension (.DictComp kx vx [⟨tg, iter, [], 0⟩] sc ps) sc X.env ps' newDict false (eval iter X.env) use) Qf X.xe sh := by
  have captured : ∀ y ∈ sc.names, y.2 = .free → ∃ c, X.env.cells.lookup y.1 = some c := fun y hy e =>
    I.ok.has _ ((ok.free y hy e).elim .inl .inr)
  refine wpAny_comprehension_free (use := use) rfl fold (closure_ok captured) ok.kind (fun y hy e => by rw [ok.uniq y hy, e]) (thn (hi.run pins sh σ H _ I read) fun _ sa ha => thn ha fun itv sb hb => ?_)
  obtain ⟨it, fp, tn, J, Hb, rfl, Ib, Tn, at0, fok, rd⟩ := hb
  refine wpAny_newObj_type (newEnv_comp ?_)
  generalize eD : sb.heap.objs.size = D
  have freeD : Hb D = none := Ib.hok.fresh (Nat.le_of_eq eD)
  obtain ⟨W, ⟨n0, w0⟩, turn⟩ := rd D freeD
  generalize eC : ({ sb with heap := sb.heap.push { cls := .type "dict", data := .dict #[] } } : Shared) = sc3
  have Ic : Inv X pins σ (upd Hb D (.dT [])) sc3 := by
    rw [← eC]
    refine Ib.laid (t' := sb.toks) (fun b o e => Heap.get?_push_of_some _ e) (Nat.le_of_eq eD) ?_
    rw [← eD]
    exact dt_empty sb.heap Ib.big
  have hC : sc3.heap = sb.heap.push { cls := .type "dict", data := .dict #[] } := by rw [← eC]
  have low : ∀ b ∈ fp, b < sb.heap.objs.size := fun b hb => let ⟨_, e, _⟩ := Tn.obj _ _ at0 b hb; Heap.lt_size e
  have fok3 : ∀ b ∈ fp, FpOk X pins (upd Hb D (.dT [])) b ∧ b < sc3.heap.objs.size := fun b hb => by
    have lt := low b hb
    refine ⟨⟨?_, (fok b hb).2⟩, by rw [hC, Heap.size_push]; exact Nat.lt_succ_of_lt lt⟩
    rw [upd_ne (by rw [← eD]; exact Nat.ne_of_lt lt)]
    exact (fok b hb).1
  have at3 : tn 0 sc3.heap := Tn.keep _ _ _ at0 fun b _ o e => by rw [hC]; exact Heap.get?_push_of_some _ e
  have Id := block_start Ic ok nd fok3
  have qg := hg sc3 (upd Hb D (.dT [])) sc3.heap.objs.size (cellsFrom (sc3.heap.objs.size + 1) sc.names (cloFrom X.env.cells sc.names [])) fp
  have qk := hk sc3 (upd Hb D (.dT [])) sc3.heap.objs.size (cellsFrom (sc3.heap.objs.size + 1) sc.names (cloFrom X.env.cells sc.names [])) fp
  have qv := hv sc3 (upd Hb D (.dT [])) sc3.heap.objs.size (cellsFrom (sc3.heap.objs.size + 1) sc.names (cloFrom X.env.cells sc.names [])) fp
  show codeAny _ _ (.compStart (.DictComp kx vx [⟨tg, iter, [], 0⟩] sc ps) 0 (.ref it) (.ref D) (compEnvC sc (cellsFrom (sc3.heap.objs.size + 1) sc.names (cloFrom X.env.cells sc.names [])) sc3.heap.objs.size X.env))
    (compPost (model X.prog X.w) X.A X.xe use Qf (.ref D) sc3.heap.objs.size) { sc3 with heap := pushCells (sc3.heap.push { cls := .type "dict", data := .dict #[] }) sc.names }
  have free3 : ∀ b ∈ fp, (upd Hb D (.dT [])) b = none := fun b hb => (fok3 b hb).1.1
  generalize eE : compEnvC sc (cellsFrom (sc3.heap.objs.size + 1) sc.names (cloFrom X.env.cells sc.names [])) sc3.heap.objs.size X.env = ce at Id qg qk qv ⊢
  have locE : ce.locals = sc3.heap.objs.size := by subst eE; rfl
  generalize eH : upd Hb D (.dT []) = Hc at Ic Id qg qk qv w0 free3 fok3
  generalize eS : ({ sc3 with heap := pushCells (sc3.heap.push { cls := .type "dict", data := .dict #[] }) sc.names } : Shared) = sd at Id ⊢
  have at4 : tn 0 sd.heap := Tn.keep _ _ _ at3 fun b _ o e => by rw [← eS]; exact pushCells_keeps _ _ _ _ (Heap.get?_push_of_some _ e)
  have still : ∀ {τ : L2.St} {Hx : Hp} {sx : Shared}, Inv (X.blk sc3 Hc sc ce fp) [] τ Hx sx → (∀ b ∈ fp, Hx b = none) → ∀ b ∈ fp, FpOk (X.blk sc3 Hc sc ce fp) [] Hx b := fun {τ Hx sx} Ix hn b hb =>
    ⟨hn b hb, (Ix.ok.exf b hb).1, Ix.ok.exfs b hb, .inl hb, fun x c e => (Ix.ok.exf b hb).2 x c e, fun p hp => absurd (show p ∈ ([] : List (Addr × Obj)) ++ [] from hp) (by simp)⟩
  have loop : codeAny (model X.prog X.w) X.A (.compLoop (.DictComp kx vx [⟨tg, iter, [], 0⟩] sc ps) 0 (.ref it) (.ref D) ce) (compPost (model X.prog X.w) X.A X.xe use Qf (.ref D) sc3.heap.objs.size) sd := by
    refine compLoop_anyD (fun n sx => ∃ i Hx, Inv (X.blk sc3 Hc sc ce fp) [] (wipe σ (own.map (·.2))) Hx sx ∧ tn i sx.heap ∧ (∀ b ∈ fp, Hx b = none) ∧ W i n Hx) ?_ n0 ⟨0, Hc, Id, at4, free3, w0⟩
    rintro n s5 ⟨i, H5, I5, at5, n5, w5⟩
    rcases turn i n H5 w5 with ⟨stop, qq⟩ | ⟨go, Nx, hNx, step⟩
    · refine thnF (Tn.done (X.blk sc3 Hc sc ce fp) rfl rfl rfl calm i [] s5 _ H5 (fun _ _ => False) I5 (still I5 n5) at5 stop) fun r s6 ⟨hr, I6⟩ => ?_
      subst hr
      have I7 : Inv X pins σ H5 s6 := Ic.call' (ch := fp) I6.os I6.base I6.hok I6.bare fun b hb => let z := (fok3 b hb).1; ⟨z.2.2.2.1, z.2.1, z.2.2.2.2.1, z.2.2.2.2.2⟩
      have noC : H5 sc3.heap.objs.size = none := by
        have z : H5 ce.locals = none := I6.free
        rwa [locE] at z
      obtain ⟨m, hm, _⟩ := I6.loc
      have hm : s6.heap.Ns ce.locals m := hm
      rw [locE] at hm
      exact fin D sc3.heap.objs.size s6 m H5 I7 qq hm (Ic.fpOk (Nat.le_refl _) noC)
    · refine thnF (Tn.item (X.blk sc3 Hc sc ce fp) rfl rfl rfl calm i [] s5 _ H5 (fun _ _ => False) I5 (still I5 n5) at5 go) fun r s6 ⟨u, hr, h6⟩ => ?_
      subst hr
      refine thnF h6 fun _ s7 ⟨x, H7, I7, r7, y7, at7, n7⟩ => ?_
      refine thnF (qg.run _ s7 _ H7 x u _ (I7.pinned (still I7 n7) (Tn.obj _ _ at7)) r7 (step x H7 y7)) fun _ s8 ⟨τ, H8, I8, hw8, q8⟩ => ?_
      have over : ∀ {sx : Shared} {Hx : Hp}, Inv (X.blk sc3 Hc sc ce fp) ([] ++ pinsAt fp s7.heap) τ Hx sx → Nx Hx → ∃ m, m < n ∧ ∃ i Hy, Inv (X.blk sc3 Hc sc ce fp) [] (wipe σ (own.map (·.2))) Hy sx ∧ tn i sx.heap ∧ (∀ b ∈ fp, Hy b = none) ∧ W i m Hy := fun {sx Hx} Ix nx => by
        obtain ⟨m', hm, w'⟩ := hNx Hx nx
        have kept : ∀ b ∈ fp, ∀ o, s7.heap.get? b = some o → sx.heap.get? b = some o ∧ Hx b = none := fun b hb o e =>
          let z := Ix.pin (b, o) (List.mem_append_right _ (List.mem_append_right _ (mem_pinsAt hb e))); ⟨z.1, z.2.1⟩
        have hl : (wipe σ (own.map (·.2))).length = τ.length := by rw [← hw8, wipe_length]
        refine ⟨m', hm, i + 1, Hx, (Ix.unpinned (pins := [])).weak hl (fun j v e => ?_), Tn.keep _ _ _ at7 fun b hb o e => (kept b hb o e).1, fun b hb => ?_, w'⟩
        · rw [← hw8] at e
          exact (wipe_some e).1
        · obtain ⟨o, e, _⟩ := Tn.obj _ _ at7 b hb
          exact (kept b hb o e).2
      refine wpAny_tests_nil ?_
      rw [if_pos rfl]
      refine thnF (qk.run _ s8 τ H8 _ I8 q8) fun z s10 ⟨yk, H10, I10, r10, q10⟩ => ?_
      refine thnF (qv.run _ s10 τ H10 _ I10 q10) fun z2 s11 ⟨yv, H11, I11, r11, es, k, b, ek, hb, hD, hz, nx⟩ => ?_
      subst ek
      cases r10
      exact setT (X := X.blk sc3 Hc sc ce fp) hu I11 hD hb hz r11 fun s12 I12 => over I12 nx
  exact codeAny_compStart_dict loop (Tn.self X.A 0 _ _ _ at4 loop)
variable {kx vx tg iter : Expr} {sc : Scope} {own : List (Str × Nat)} {ps spos py : Pos} {y : Str} {wi : TI} {g : TG} {tk tv : TE}
theorem pe_dcT (hu : X.A.units + 1 < cLine) (calm : X.calm = true) (nd : X.N.Nodup) (hi : PI X tg iter wi) (ok : BlkOk X.N X.env.scope sc own) (hg : PGB X sc tg g) (hk : ∀ s0 H0 C cl fp, PE (X.blk s0 H0 sc (compEnvC sc cl C X.env) fp) kx tk)
    (hv : ∀ s0 H0 C cl fp, PE (X.blk s0 H0 sc (compEnvC sc cl C X.env) fp) vx tv) (fold : ∀ x, foldedSetIterable iter X.env x = pure x := by intro _; rfl) : PE X (.DictComp kx vx [⟨tg, iter, [], 0⟩] sc ps) (tDcT wi g tk tv (own.map (·.2))) := by
  refine ⟨fun pins s σ H Q I h => ?_⟩
  rw [arm_eval_DictComp]
  refine coreT hu calm nd I hi ok hg hk hv fold h fun D C s' m H' I' q hn f => ⟨m, hn, fun h2 sb => ?_⟩
  exact ⟨.ref D, H', I'.turned (t' := s'.toks) (fun b o hb e => (sb.2 b hb).trans e) f.1 f.2.1 f.2.2.2.1 f.2.2.2.2.1 f.2.2.2.2.2, rfl, q⟩
theorem ps_setDcT {i : Nat} (hu : X.A.units + 1 < cLine) (calm : X.calm = true) (nd : X.N.Nodup) (hy : X.N[i]? = some y) (hyl : X.env.scope.names.lookup y = some .local) (hsw : swapsWith (.DictComp kx vx [⟨tg, iter, [], 0⟩] sc ps) (some (.Name y py)) spos.line X.env = pure true) (hi : PI X tg iter wi) (ok : BlkOk X.N X.env.scope sc own) (hg : PGB X sc tg g)
    (hk : ∀ s0 H0 C cl fp, PE (X.blk s0 H0 sc (compEnvC sc cl C X.env) fp) kx tk) (hv : ∀ s0 H0 C cl fp, PE (X.blk s0 H0 sc (compEnvC sc cl C X.env) fp) vx tv) (fold : ∀ x, foldedSetIterable iter X.env x = pure x := by intro _; rfl) :
    PS X (.Assign [.Name y py] (.DictComp kx vx [⟨tg, iter, [], 0⟩] sc ps) spos) (tAsg (tDcT wi g tk tv (own.map (·.2))) (gName i)) := by
  refine ⟨fun pins s σ H D I h => ?_⟩
  rw [exec_Assign_Name_used _ _ _ _ hsw]
  refine wpAny_bind (wpAny_standAt (wpAny_bind ?_))
  show wpAny _ X.A (do let _ ← comprehension (.DictComp kx vx [⟨tg, iter, [], 0⟩] sc ps) sc X.env (firstIterPos [⟨tg, iter, [], 0⟩] ps) newDict false (eval iter X.env) (some (assign (.Name y py) X.env))) _ _ s
  have h : tDcT wi g tk tv (own.map (·.2)) σ H (fun x H1 => gName i x σ H1 D.nx) := h
  refine wpAny_bind (thn (coreT (Qf := fun _ s' => SP X pins D .next s') hu calm nd I hi ok hg hk hv fold h fun L C s' m H' I' q hn f => ?_) fun _ s' hq => wpAny_pure (wpAny_pure hq))
  show wpAny _ _ (assign (.Name y py) X.env (.ref L)) _ _ _
  refine wpAny_assign_Name (store_ok2 (v := V.ref L) I' nd hy (.inl hyl) rfl (fun s2 I2 ⟨a, sb, ha⟩ => ?_) (.inr hyl))
  have haC : C ≠ a := by
    rcases ha with z | z
    · rw [z]; exact f.2.1
    · exact fun e => f.2.2.2.2.1 y a z e.symm
  exact ⟨m, hn.sameBut sb haC, fun h3 sb3 => ⟨_, H', I2.turned (t' := s2.toks) (fun b o hb e => (sb3.2 b hb).trans e) f.1 f.2.1 f.2.2.2.1 f.2.2.2.2.1 f.2.2.2.2.2, q⟩⟩
end
end PH

set_option Elab.async false
set_option linter.all false
set_option maxRecDepth 100000
set_option maxHeartbeats 1000000
namespace PH
open PySem PySem.Spec PyProof.Rows L2
/-! ### for k, v in d.items(), the keys tuples -/
section
variable {X : Cx} {pins : List (Addr × Obj)} {σ : L2.St} {H : Hp} {s : Shared}
theorem frzTV {d : Addr} {o : Obj} {kvs : List (List Key × V)} (I : Inv X pins σ H s) (h : H d = some (.frz o (.dT kvs))) :
    (d == sysModules) = false ∧ ∃ (es : Array DictEntry) (ep : Nat), o.data = .dict es ep ∧ DT.Raw s.heap d es ep ∧ es.size = kvs.length ∧
      ∀ (i : Nat) (k : List Key) (v : V), kvs[i]? = some (k, v) → ∃ (en : DictEntry) (q : Addr), es[i]? = some en ∧ en.key = .ref q ∧ H q = some (.tup (k.map kV)) ∧ RelV v en.val := by
  obtain ⟨hd, z, hs, xs, pr, o', es, ep, ho, hx, hdt, he, _⟩ := I.hok d _ h
  rw [hd] at ho
  cases ho
  refine ⟨hs, es, ep, hdt, ⟨o, hd, hx, hdt⟩, ?_, fun i k v e => ?_⟩
  · have l1 : es.size = xs.length := size_of_entries he
    have l2 : kvs.length = xs.length := Paired.length pr
    omega
  · obtain ⟨b, hb, e1, e2, e3⟩ := paired_get pr e
    have q := entry_at he i
    rw [hb] at q
    exact ⟨_, b.2.1, q, rfl, e2, e3⟩
def ItT (d : Addr) (o : Obj) (kvs : List (List Key × V)) : It :=
  ⟨fun i H => H d = some (.frz o (.dT kvs)) ∧ i < kvs.length, fun i H x H' => ∃ (T q : Addr) (k : List Key) (v : V), kvs[i]? = some (k, v) ∧ x = .ref T ∧ H T = none ∧ H q = some (.tup (k.map kV)) ∧ H' = upd H T (.tup [.ref q, v]), fun i H => H d = some (.frz o (.dT kvs)) ∧ kvs.length ≤ i⟩
theorem turn_itT {P : Program} {w : World} {K : PySem.W.Frag} {d : Addr} {o : Obj} {es : Array DictEntry} {ep : Nat} {kvs : List (List Key × V)} {elts : List Expr} {kk : Nat} {tpos : Pos} (it : Addr) (hod : o.data = .dict es ep) :
    Turn P w K (.Tuple elts kk tpos) (ItT d o kvs) [it] it (fun i h => ∃ ok ov, IsItemIter h it d i es.size ep ok ov) where
  mem := by simp
  obj := fun i h st b hb => by
    obtain ⟨ok, ov, e⟩ := st
    obtain rfl : b = it := List.mem_singleton.mp hb
    exact ⟨_, e, fun v z => nomatch z⟩
  keep := fun i h h' st k => let ⟨ok, ov, e⟩ := st; ⟨ok, ov, k it (by simp) _ e⟩
  item := by
    intro X hP hw hK hc i pins s σ H E I hf st hg
    subst hP hw hK
    obtain ⟨hd, hi⟩ := hg
    obtain ⟨hs, es', ep', hdt, raw, hsz, ent⟩ := frzTV I hd
    obtain ⟨rfl, rfl⟩ := dict_ep hod hdt
    obtain ⟨⟨k, v⟩, hkv⟩ : ∃ p, kvs[i]? = some p := ⟨kvs[i], List.getElem?_eq_getElem hi⟩
    obtain ⟨en, q, hen, hkey, hq, rv⟩ := ent i k v hkv
    obtain ⟨ok, ov, he⟩ := st
    have hie : i < es'.size := by omega
    have hlt : it < s.heap.objs.size := Heap.lt_size he
    have een : es'[i] = en := by rw [Array.getElem?_eq_getElem hie] at hen; exact Option.some.inj hen
    refine DT.nextI he raw hie fun h' out new hz hk => ?_
    rw [een, hkey] at out new
    refine ⟨_, rfl, wpAny_letOwnedTupleGo_items (s := { s with heap := h' }) out fun h2 he2 sb => ?_⟩
    have hT2 : h2.get? s.heap.objs.size = some { cls := .type "tuple", data := .seq #[.ref q, en.val] } := (sb.2 _ (Nat.ne_of_gt hlt)).trans new
    have newOk : ObjOk X.prog X.w (upd H s.heap.objs.size (.tup [.ref q, v])) h2 s.heap.objs.size (.tup [.ref q, v]) :=
      ⟨by show 2 ≤ sizeLine; decide, [.ref q, en.val], .cons rfl (.cons rv .nil), ⟨_, hT2, rfl, _, rfl⟩⟩
    have I1 : Inv X pins σ (upd H s.heap.objs.size (.tup [.ref q, v])) { s with heap := h2 } :=
      I.turnedNew (t' := s.toks) (ch := [it]) (fun b ob hb e => (sb.2 b (by simpa using hb)).trans (hk b ob (by simpa using hb) e)) hf (Nat.le_refl _) newOk
    refine ⟨.ref s.heap.objs.size, _, I1, rfl, ⟨_, q, k, v, hkv, rfl, I.hok.fresh (Nat.le_refl _), hq, rfl⟩, ⟨_, _, he2⟩, fun b hb => ?_⟩
    rw [List.mem_singleton.mp hb, upd_ne (Nat.ne_of_lt hlt)]
    exact (hf it (by simp)).1
  done := by
    intro X hP hw hK hc i pins s σ H E I hf st hg
    subst hP hw hK
    obtain ⟨hd, hi⟩ := hg
    obtain ⟨f0, f1, f2, f3, f4, f5⟩ := hf it (by simp)
    obtain ⟨hs, es', ep', hdt, raw, hsz, ent⟩ := frzTV I hd
    obtain ⟨rfl, rfl⟩ := dict_ep hod hdt
    obtain ⟨ok, ov, he⟩ := st
    exact DT.endI (I.ok.hd hc) he raw (by omega) fun h' eb => ⟨rfl, I.turned (t' := s.toks) (fun b ob hb e => eb b ob hb e) f0 f1 f3 f4 f5⟩
  self := fun _ _ _ _ _ st h => let ⟨_, _, e⟩ := st; PySem.W.kcp_self e h
/-- e.items(), the dict new and from then on locked -/
def iItT (td : TE) : TI := fun σ H R => td σ H fun x H1 => ∃ d kvs, x = .ref d ∧ H1 d = some (.dT kvs) ∧ ∀ od, R (ItT d od kvs) (upd H1 d (.frz od (.dT kvs)))
theorem pi_itT {e : Expr} {td : TE} {apos cpos tpos : Pos} {elts : List Expr} {kk : Nat} (he : PE X e td) (hbase : attributeBase e "items" X.env (eval e X.env) = eval e X.env := by rfl) (hline : (apos.endLine == cpos.line) = true := by rfl) :
    PI X (.Tuple elts kk tpos) (.Call (.Attribute e "items" apos) [] [] cpos) (iItT td) := by
  refine ⟨fun pins s σ H R I h => ?_⟩
  refine wpAny_Call_method (T := "dict") (id := "dict.items") hbase rfl hline F.plainAttrs_dict F.slot_dict_items F.type_dict_items (thn (he.run pins s σ H _ I h) fun u s1 ⟨x, H1, I0, rx, d, kvs, ex, hd0, q⟩ => ?_)
  subst ex
  obtain rfl : u = Value.ref d := rx
  obtain ⟨od, I1⟩ := I0.lock hd0 True.intro
  have hd : (upd H1 d (.frz od (.dT kvs))) d = some (.frz od (.dT kvs)) := upd_same
  obtain ⟨hs, es, ep, hdt, raw, hsz, ent⟩ := frzTV I1 hd
  obtain ⟨_, _, _, _, dd⟩ := L2.dt_rd I1.hok (.inr ⟨_, hd⟩)
  refine ⟨raw.typeIs, fun b q => by cases q; obtain ⟨ob, _, _, h1, h2, _⟩ := dd; exact ⟨ob, h1, h2.2.1⟩, ?_⟩
  have I2 : Inv X pins σ (upd H1 d (.frz od (.dT kvs))) { s1 with heap := s1.heap.push { cls := .type "dict_items", data := .fields #[.ref d] } } := I1.kept (t' := s1.toks) fun b ob q => Heap.get?_push_of_some _ q
  have fin : wpAny (model X.prog X.w) X.A (pyIter (.ref s1.heap.objs.size)) (PIE X pins σ (.Tuple elts kk tpos) R) X.xe { s1 with heap := s1.heap.push { cls := .type "dict_items", data := .fields #[.ref d] } } :=
    DT.iterI (d := d) (es := es) (ep := ep) ⟨_, Heap.get?_push_size _ rfl, rfl, rfl⟩ (raw.push _) (pi_one (tk := s1.toks) I2 _ (turn_itT _ hdt) ⟨.none, .none, Heap.get?_push_size _ rfl⟩ (q od))
  show wpAny _ _ (callWith cpos (.builtin "dict.items") [.ref d] [] []) _ X.xe s1
  exact method_meetsIn F.slot_dict_items F.entry_dict_items rfl (PySem.evalArgs_none ⟨rfl, raw.typeIs, F.args_dict_items_1 _, _, DT.meetsItems (es := es) (ep := ep) hs, ⟨raw, fin⟩⟩)
end
/-! ### sorted of data -/
theorem readsV {X : Cx} {pins : List (Addr × Obj)} {σ : L2.St} {H : Hp} {s : Shared} (I : Inv X pins σ H s) {v : V} {u : Value} {d : PyData} (c : d.canLay0 = true) (h : Dq H v d) (r : RelV v u) : ∃ as, Reads s.heap u d as := Dp.reads I d v u (Dq.dp X.K _ _ c h) r
theorem each_of {X : Cx} {pins : List (Addr × Obj)} {σ : L2.St} {H : Hp} {s : Shared} (I : Inv X pins σ H s) : ∀ {xs : List V} {us : List Value} {ds : List PyData}, PyData.canLayAll0 ds = true → DqA H xs ds → Vals xs us →
    PySem.W.EachIs (fun u d => ∃ as, Reads s.heap u (id d) as) us ds
  | [], _, [], _, _, r => by cases r; exact .nil
  | v :: xs, _, d :: ds, c, h, r => by
    simp only [PyData.canLayAll0, Bool.and_eq_true] at c
    cases h with
    | cons h1 h2 =>
      cases r with
      | cons r1 r2 => exact .cons (readsV I c.1 h1 r1) (each_of I c.2 h2 r2)
  | [], _, d :: ds, _, h, _ => nomatch h
  | v :: xs, _, [], _, h, _ => nomatch h
theorem each_to {H : Hp} : ∀ {xs : List V} {us : List Value} {ds : List PyData}, DqA H xs ds → Vals xs us → PySem.W.EachIs (fun u d => ∃ v, RelV v u ∧ Dq H v d) us ds
  | [], _, [], _, r => by cases r; exact .nil
  | v :: xs, _, d :: ds, h, r => by
    cases h with
    | cons h1 h2 =>
      cases r with
      | cons r1 r2 => exact .cons ⟨v, r1, h1⟩ (each_to h2 r2)
  | [], _, d :: ds, h, _ => nomatch h
  | v :: xs, _, [], h, _ => nomatch h
theorem each_back {H : Hp} : ∀ {us : List Value} {ds : List PyData}, PySem.W.EachIs (fun u d => ∃ v, RelV v u ∧ Dq H v d) us ds → ∃ xs, Vals xs us ∧ DqA H xs ds
  | _, _, .nil => ⟨[], .nil, .nil⟩
  | _, _, .cons ⟨v, r, h⟩ t => let ⟨xs, a, b⟩ := each_back t; ⟨v :: xs, .cons r a, .cons h b⟩
def rSortD : List V → Hp → VK → Prop := fun vs H Q => ∃ (a : Addr) (xs : List V) (Hc : Hp) (ds : List PyData), vs = [.ref a] ∧ H a = some (.lst xs) ∧ Same Hc H ∧ DqA Hc xs ds ∧ PyData.canLayAll0 ds = true ∧ PySem.W.AllAlike ds ∧ PySem.W.Sortable ds ∧ ds.length ≤ sizeLine ∧ (∀ d ∈ ds, d.depth ≤ 8) ∧
  ∀ p out, H p = none → DqA Hc out (ds.mergeSort (PySem.W.dataLe false id)) → Q (.ref p) (upd H p (.lst out))
theorem cr_sortD {X : Cx} (hu : X.A.units + 64 < cLine) : CallR X (.builtin "sorted") rSortD := by
  intro pins s σ H vs us Q I r h
  obtain ⟨a, xs, Hc, ds, rfl, ha, sm, da, cl, al, so, hz, dp, q⟩ := h
  obtain rfl := r.ref1
  obtain ⟨z, its, n, rv, hl, ho⟩ := I.lstM ha
  have hL : s.heap.IsList a its.toArray := ⟨_, ho, rfl, ⟨_, rfl⟩⟩
  have e2 := each_of I cl (da.mono sm) rv
  have e1' := each_to da rv
  have al' : PySem.W.AllAlike (ds.map id) := by rw [List.map_id]; exact al
  have so' : PySem.W.Sortable (ds.map id) := by rw [List.map_id]; exact so
  refine PySem.W.sorted_data hL e1' e2 al' so' hz (fun b hb => by have := dp b hb; show _ + 2 + b.depth < _; omega) fun out ol eo => ?_
  obtain ⟨xo, r1, r2⟩ := each_back eo
  obtain ⟨ee, hnew⟩ := PyProof.Rows.sortedAll_at s.heap its out.toArray
  refine ⟨.ref (s.heap.objs.size + 1), _, I.laid (t' := s.toks) (o := .lst xo) (fun b u e => PyProof.Rows.sortedAll_old e) (Nat.le_succ _) ⟨?_, out, _, r1, hnew⟩, rfl, q _ xo (I.hok.fresh (Nat.le_succ _)) r2⟩
  rw [r1.length, ol]; exact hz
end PH

set_option Elab.async false
set_option linter.all false
set_option maxRecDepth 100000
set_option maxHeartbeats 1000000
namespace PH
open PySem PySem.Spec PyProof.Rows L2
/-! ### the common denominator -/
def comStep (f n : Int) : Int := f * n.fdiv ((f.natAbs.gcd n.natAbs : Nat) : Int)
def commonOf (ns : List Int) : Int := ns.foldl comStep 1
section
variable {P : Program} {w : World} {K : PySem.W.Frag} {mg : Str → Option Value} {base : Heap}
def R_common (ds : List PyData) (d : PyData) : Prop := ∃ (ns : List Int) (m : Nat), ds = [.list (ns.map .int)] ∧ ns.length ≤ 64 ∧ m ≤ 8999 ∧ (∀ n ∈ ns, 0 < n ∧ Sm m n) ∧ d = .int (commonOf ns)
theorem sc_common : FnScope ["numbers", "found", "n"] ["numbers"] (defScope (topS 11)) := ⟨rfl, rfl, rfl, by decide +kernel, rfl, by decide +kernel, by decide +kernel⟩
theorem common_for {X : Cx} {body : List Stmt} {d0 : PyData} {m : Nat} (hm : m ≤ 8999)
    (step : ∀ (f n : Int) (k : Nat), k ≤ 64 → Sm (k * m + 1) f → 0 < n → Sm m n → DS X body [some d0, some (.int f), some (.int n)] (.nx [some d0, some (.int (comStep f n)), some (.int n)])) :
    ∀ (ns : List Int) (f : Int) (z : Option PyData) (k : Nat), ns.length + k ≤ 64 → Sm (k * m + 1) f → (∀ n ∈ ns, 0 < n ∧ Sm m n) →
      ∃ z', ForR (fun (x : Int) ρ ρ1 => Bd (gName 2) ρ (.int x) ρ1 [2]) (DS X body) ns [some d0, some (.int f), z] (.nx [some d0, some (.int (ns.foldl comStep f)), z'])
  | [], f, z, k, _, _, _ => ⟨z, .nil⟩
  | n :: ns, f, z, k, hk, hf, hn => by
    obtain ⟨h0, h1⟩ := hn n List.mem_cons_self
    rw [List.length_cons] at hk
    have hs := step f n k (by omega) hf h0 h1
    have hf' : Sm ((k + 1) * m + 1) (comStep f n) := by
      have g0 : ((f.natAbs.gcd n.natAbs : Nat) : Int) ≠ 0 := by have := Nat.gcd_pos_of_pos_right f.natAbs (show 0 < n.natAbs by omega); omega
      have q : Sm m (n.fdiv ((f.natAbs.gcd n.natAbs : Nat) : Int)) := fdiv_sm (gcd2_dvd f n).2 g0 h1
      exact (hf.mul q).mono (by rw [Nat.add_mul]; omega)
    obtain ⟨z', ih⟩ := common_for hm step ns (comStep f n) (some (.int n)) (k + 1) (by omega) hf' fun y hy => hn y (List.mem_cons_of_mem _ hy)
    exact ⟨z', .next (bd_name (by decide)) hs ih⟩
theorem kn_common (T : Top mg) (F : Fd K mg "common_of" (topS 11) ["numbers"]) : Kn P w K mg base "common_of" 1 R_common := by
  refine kn F sc_common (by rintro ds d ⟨a, b, rfl, _⟩; rfl) fun f cdv A outer s H E hr ds d => ?_
  rintro ⟨ns, m, rfl, hl, hm, hn, rfl⟩
  obtain ⟨z', hf⟩ := common_for (X := cxD P w K mg base ["numbers", "found", "n"] "common_of" (topS 11) f cdv A outer s H E) (d0 := .list (ns.map .int)) hm (fun f n k hk hf h0 h1 => ds_cons (s_set 1 sc_common.nd (d_mul (cm hf (show Sm m _ from fdiv_sm (gcd2_dvd f n).2 (by have := Nat.gcd_pos_of_pos_right f.natAbs (show 0 < n.natAbs by omega); omega) h1) (by have := Nat.mul_le_mul hk hm; omega)) (d_v 1)
      (d_div (cz (by have := Nat.gcd_pos_of_pos_right f.natAbs (show 0 < n.natAbs by omega); omega) (show Sm m ((f.natAbs.gcd n.natAbs : Nat) : Int) by
        have := Nat.le_of_dvd (show 0 < n.natAbs by omega) (Nat.gcd_dvd_right f.natAbs n.natAbs)
        unfold Sm at *; rw [Int.natAbs_natCast]; omega) hm) (d_v 2) (d_gcd T (d_v 1) (d_v 2))))) ds_nil) ns 1 none 0 (by omega) (by simp [Sm]) hn
  refine ds_cons (s_set 1 sc_common.nd d_int) (ds_cons (s_for (vs := [2]) rfl (di_list (d_v 0)) (pg_name (i := 2) sc_common.nd rfl (.inl rfl)) hf) (ds_rt (s_ret (d_v 1))))
end
end PH

set_option Elab.async false
set_option linter.all false
set_option maxRecDepth 100000
set_option maxHeartbeats 1000000
namespace PH
open PySem PySem.Spec PyProof.Rows L2
/-! ### dicts with keys of numbers -/
abbrev Ent := List Int × PyData
def putG (es : List Ent) (k : List Int) (v : PyData) : List Ent := if (es.any fun kv => decide (kv.1 = k)) = true then es.map (fun kv => if kv.1 = k then (kv.1, v) else kv) else es ++ [(k, v)]
def kyL (k : List Int) : List L2.Key := k.map Sum.inl
inductive KvD (H : Hp) : List (List L2.Key × V) → List Ent → Prop
  | nil : KvD H [] []
  | cons {k : List Int} {v : V} {d : PyData} {kvs : List (List L2.Key × V)} {es : List Ent} : Dq H v d → KvD H kvs es → KvD H ((kyL k, v) :: kvs) ((k, d) :: es)
theorem KvD.mono {H H' : Hp} (s : Same H H') : ∀ {kvs : List (List L2.Key × V)} {es : List Ent}, KvD H kvs es → KvD H' kvs es
  | _, _, .nil => .nil
  | _, _, .cons a b => .cons (a.mono s) (b.mono s)
theorem KvD.length {H : Hp} : ∀ {kvs : List (List L2.Key × V)} {es : List Ent}, KvD H kvs es → kvs.length = es.length
  | _, _, .nil => rfl
  | _, _, .cons a b => by rw [List.length_cons, List.length_cons, b.length]
theorem KvD.append {H : Hp} {kvs2 : List (List L2.Key × V)} {es2 : List Ent} (h2 : KvD H kvs2 es2) : ∀ {kvs : List (List L2.Key × V)} {es : List Ent}, KvD H kvs es → KvD H (kvs ++ kvs2) (es ++ es2)
  | _, _, .nil => h2
  | _, _, .cons a b => .cons a (KvD.append h2 b)
theorem kyL_inj {a b : List Int} : kyL a = kyL b ↔ a = b := ⟨fun h => by
  induction a generalizing b with
  | nil => cases b with | nil => rfl | cons y ys => cases h
  | cons x xs ih =>
    cases b with
    | nil => cases h
    | cons y ys =>
      injection h with h1 h2
      rw [Sum.inl.inj h1, ih h2], fun h => by rw [h]⟩
theorem KvD.any {H : Hp} {k : List Int} : ∀ {kvs : List (List L2.Key × V)} {es : List Ent}, KvD H kvs es → (kvs.any fun kv => decide (kv.1 = kyL k)) = (es.any fun kv => decide (kv.1 = k))
  | _, _, .nil => rfl
  | _, _, .cons a b => by
    rw [List.any_cons, List.any_cons, b.any]
    congr 1
    exact decide_eq_decide.mpr kyL_inj
theorem KvD.sub {H : Hp} {k : List Int} {x : V} {d : PyData} (h : Dq H x d) : ∀ {kvs : List (List L2.Key × V)} {es : List Ent}, KvD H kvs es → KvD H (kvs.map fun kv => if kv.1 = kyL k then (kv.1, x) else kv) (es.map fun kv => if kv.1 = k then (kv.1, d) else kv)
  | _, _, .nil => .nil
  | _, _, .cons (k := k') a b => by
    rw [List.map_cons, List.map_cons]
    by_cases e : k' = k
    · subst e
      rw [if_pos rfl, if_pos rfl]
      exact .cons h (b.sub h)
    · rw [if_neg (fun z => e (kyL_inj.mp z)), if_neg e]
      exact .cons a (b.sub h)
theorem KvD.put {H : Hp} {k : List Int} {x : V} {d : PyData} {kvs : List (List L2.Key × V)} {es : List Ent} (r : KvD H kvs es) (h : Dq H x d) : KvD H (putK kvs (kyL k) x) (putG es k d) := by
  unfold putK putG
  rw [r.any]
  split
  · exact r.sub h
  · exact KvD.append (.cons h .nil) r
theorem KvD.keys {H : Hp} : ∀ {kvs : List (List L2.Key × V)} {es : List Ent}, KvD H kvs es → kvs.map (·.1) = (es.map (·.1)).map (fun n => n.map Sum.inl) ∧ DqA H (kvs.map (·.2)) (es.map (·.2))
  | _, _, .nil => ⟨rfl, .nil⟩
  | _, _, .cons a b => by
    obtain ⟨h1, h2⟩ := b.keys
    refine ⟨?_, .cons a h2⟩
    rw [List.map_cons, h1] <;> rfl
theorem putG_len (es : List Ent) (k : List Int) (v : PyData) : (putG es k v).length ≤ es.length + 1 := by
  unfold putG; split <;> simp
theorem kyV (k : List Int) : (kyL k).map kV = k.map V.int := by
  unfold kyL; rw [List.map_map] <;> rfl
/-- the dict at a, locked -/
def dkD (a : Addr) (es : List Ent) : PyData := .dict [(.int (a : Nat), .list ((es.map (·.1)).map fun n => .tuple (n.map .int))), (.none, .list (es.map (·.2)))]
theorem dk_of {H : Hp} {a : Addr} {o : Obj} {kvs : List (List L2.Key × V)} {es : List Ent} (h : H a = some (.frz o (.dT kvs))) (r : KvD H kvs es) : Dq H (.ref a) (dkD a es) := .dk h r.keys.1 r.keys.2
/-- an expression that makes a new dict -/
def EvT (te : TE) (ρ : En) (es : List Ent) : Prop := ∀ (σ : L2.St) (Hc H : Hp), Same Hc H → Rep Hc σ ρ → ∀ Q : VK, (∀ D kvs Hc' H', Step Hc H Hc' H' → Hc' D = none → H D = none → H' D = some (.dT kvs) → KvD Hc' kvs es → Q (.ref D) H') → te σ H Q
def accD {β : Type} (ky : β → List Int) (f : β → PyData) (xs : List β) : List Ent := xs.foldl (fun acc x => putG acc (ky x) (f x)) []
theorem accD_len {β : Type} (ky : β → List Int) (f : β → PyData) (xs : List β) : (accD ky f xs).length ≤ xs.length := by
  have : ∀ (xs : List β) (acc : List Ent), (xs.foldl (fun acc x => putG acc (ky x) (f x)) acc).length ≤ acc.length + xs.length := by
    intro xs
    induction xs with
    | nil => intro acc; simp
    | cons x xs ih =>
      intro acc
      have := ih (putG acc (ky x) (f x))
      have := putG_len acc (ky x) (f x)
      rw [List.foldl_cons, List.length_cons]
      omega
  have := this xs []
  simpa [accD] using this
theorem ev_dct {β : Type} {wi : TI} {g : TG} {tk tv : TE} {vs : List Nat} {ρ : En} {xs : List β} {enc f : β → PyData} {ky : β → List Int} {b : β → En} (hi : Ei wi ρ (xs.map enc)) (hb : ∀ x ∈ xs, Bd g (wipeE ρ vs) (enc x) (b x) vs)
    (hk : ∀ x ∈ xs, Ev tk (b x) (.tuple ((ky x).map .int))) (he : ∀ x ∈ xs, Ev tv (b x) (f x)) (hl : xs.length ≤ 100000) : EvT (tDcT wi g tk tv vs) ρ (accD ky f xs) := fun σ Hc H s R Q q =>
  hi σ Hc H s R _ fun J Hc1 H1 s1 st D hD => by
    have hcD : Hc1 D = none := s1.sub.free hD
    have hH : H D = none := s1.hh.free hD
    refine ⟨fun i m H2 => m = xs.length - i ∧ i ≤ xs.length ∧ ∃ Hc2 kvs, Step Hc1 H1 Hc2 H2 ∧ Hc2 D = none ∧ H2 D = some (.dT kvs) ∧ KvD Hc2 kvs (accD ky f (xs.take i)), ⟨_, rfl, Nat.zero_le _, Hc1, [], ⟨Same.refl _, same_new hD, fun c o e => by
      rw [upd_ne (ne_of_none e hcD)]; exact s1.sub c o e, fun _ h _ _ => h⟩, hcD, upd_same, .nil⟩, ?_⟩
    rintro i m H2 ⟨rfl, hi2, Hc2, kvs, s2, n2, h2, d2⟩
    obtain ⟨st1, st2⟩ := st Hc2 H2 s2.cc s2.sub i
    rw [List.length_map] at st1 st2
    by_cases hlt : i < xs.length
    · obtain ⟨go, yl⟩ := st1 hlt
      have gx : xs[i]? = some xs[i] := List.getElem?_eq_getElem hlt
      generalize xs[i] = x at gx
      have mx : x ∈ xs := List.mem_of_getElem? gx
      have tk : xs.take (i + 1) = xs.take i ++ [x] := by rw [List.take_add_one, gx]; rfl
      refine .inr ⟨go, fun H' => ∃ Hc2 kvs, Step Hc1 H1 Hc2 H' ∧ Hc2 D = none ∧ H' D = some (.dT kvs) ∧ KvD Hc2 kvs (accD ky f (xs.take (i + 1))), fun H' h => ⟨xs.length - (i + 1), by omega, rfl, hlt, h⟩, fun v H3 y => ?_⟩
      obtain ⟨Hc3, s3, dv⟩ := yl v H3 y
      have dv := dv (enc x) (by rw [List.getElem?_map, gx]; rfl)
      refine hb x mx v _ Hc3 H3 s3.sub ((R.mono ((s1.cc.trans s2.cc).trans s3.cc)).wipe vs) dv _ fun σ' R' w' => ⟨by rw [w', wipe_wipe σ vs vs fun _ h => h], ?_⟩
      have h2ne : H2 D ≠ none := by rw [h2]; exact fun z => nomatch z
      have h2t : ∀ xs, H2 D ≠ some (.tup xs) := fun xs => by rw [h2]; exact fun z => nomatch z
      refine hk x mx σ' Hc3 H3 s3.sub R' _ fun y Hc4 H4 s4 dy => he x mx σ' Hc4 H4 s4.sub (R'.mono s4.cc) _ fun z Hc5 H5 s5 dz => ?_
      have s35 := (s3.trans s4).trans s5
      have hD5 : H5 D = some (.dT kvs) := s35.hh _ _ h2
      have n5 : Hc5 D = none := s35.fr D n2 h2ne h2t
      cases dy with
      | @tup kb ks _ k1 k2 =>
        have e := ints_of k2
        subst e
        refine ⟨kvs, kyL (ky x), kb, rfl, by rw [kyV]; exact s5.hh _ _ (s4.sub _ _ k1), hD5, ?_, Hc5, putK kvs (kyL (ky x)) z, ⟨s2.cc.trans s35.cc, same_mut (s2.hh.trans s35.hh) hD, fun c o e => ?_, (s2.trans s35).fr⟩, n5, upd_same, ?_⟩
        · have h1 := accD_len ky f (xs.take i)
          rw [← d2.length, List.length_take] at h1
          exact Nat.lt_of_lt_of_le (show _ < 100001 by omega) (by decide)
        · rw [upd_ne (ne_of_none e n5)]
          exact s35.sub c o e
        · rw [tk, accD, List.foldl_append]
          exact (d2.mono s35.cc).put dz
    · have e : i = xs.length := by omega
      subst e
      rw [List.take_length] at d2
      exact .inl ⟨st2 (by omega), q D kvs Hc2 H2 (s1.trans s2) n2 hH h2 d2⟩
/-! ### walking a locked dict -/
theorem Step.addT {Hc H : Hp} {q : Addr} {xs : List V} (s : Same Hc H) (h : H q = some (.tup xs)) : Step Hc H (upd Hc q (.tup xs)) H := ⟨fun b o e => by
  by_cases hb : b = q
  · subst hb; rw [upd_same, ← h]; exact s b o e
  · rw [upd_ne hb]; exact e, Same.refl _, fun b o e => by
  by_cases hb : b = q
  · subst hb; rw [upd_same] at e; rw [← e]; exact h
  · rw [upd_ne hb] at e; exact s b o e, fun b h1 h2 h3 => by
  have : b ≠ q := fun e => h3 xs (by rw [e]; exact h)
  rw [upd_ne this]; exact h1⟩
def keysD (es : List Ent) : List PyData := (es.map (·.1)).map fun n => .tuple (n.map .int)
section
variable {X : Cx} {ρ : En} {tg e : Expr} {es : List Ent}
theorem di_keys {a : Addr} (h : DE X e ρ (dkD a es)) : DI X tg e ρ (keysD es) := di_of (pi_keys (pe_self X e)) fun σ Hc H s R Q q => h σ Hc H s R _ fun v Hc1 H1 s1 d1 => by
  unfold dkD at d1
  generalize hk : (es.map (·.1)).map (fun n => PyData.tuple (n.map .int)) = ks at d1
  cases d1 with
  | @dk _ o kvs ns _ h1 h2 h3 =>
    refine ⟨a, o, rfl, .inr ⟨kvs, s1.sub _ _ h1, q _ Hc1 H1 s1 fun Hc2 H2 z1 z2 i => ?_⟩⟩
    have hd : H2 a = some (.frz o (.dT kvs)) := z2 _ _ (z1 _ _ h1)
    have hl : kvs.length = ns.length := by have := congrArg List.length h2; simpa using this
    rw [show (keysD es).length = kvs.length by unfold keysD; rw [hk, List.length_map, hl]]
    refine ⟨fun hi => ⟨⟨hd, hi⟩, fun x H' y => ?_⟩, fun hi => ⟨hd, hi⟩⟩
    obtain ⟨rfl, k, v, q', hkv, rfl, hq⟩ := y
    refine ⟨_, Step.addT z2 hq, fun d hd' => ?_⟩
    unfold keysD at hd'
    rw [hk, List.getElem?_map] at hd'
    have g : (kvs.map (·.1))[i]? = some k := by rw [List.getElem?_map, hkv]; rfl
    rw [h2, List.getElem?_map] at g
    cases gn : ns[i]? with
    | none => rw [gn] at g; cases g
    | some n =>
      rw [gn] at g hd'
      have g' : kyL n = k := Option.some.inj g
      have e' : PyData.tuple (n.map .int) = d := Option.some.inj hd'
      subst e' g'
      refine .tup (xs := n.map V.int) (by rw [upd_same, kyV]) ?_
      exact to_ints n
theorem ei_items {td : TE} (h : EvT td ρ es) : Ei (iItT td) ρ (es.map fun kv => .tuple [.tuple (kv.1.map .int), kv.2]) := fun σ Hc H s R Q q => h σ Hc H s R _ fun D kvs Hc1 H1 s1 n1 hD h1 d1 =>
  ⟨D, kvs, rfl, h1, fun od => q _ (upd Hc1 D (.frz od (.dT kvs))) _ ⟨s1.cc.trans (same_new n1), same_mut s1.hh hD, same_upd2 s1.sub, fun b x1 x2 x3 => by
    rw [upd_ne (fun e => x2 (by rw [e]; exact hD))]
    exact s1.fr b x1 x2 x3⟩ fun Hc2 H2 z1 z2 i => by
    have hd : H2 D = some (.frz od (.dT kvs)) := z2 _ _ (z1 _ _ upd_same)
    have d2 := d1.mono ((same_new n1).trans z1)
    rw [List.length_map, ← d1.length]
    refine ⟨fun hi => ⟨⟨hd, hi⟩, fun x H' y => ?_⟩, fun hi => ⟨hd, hi⟩⟩
    obtain ⟨T, q', k, v, hkv, rfl, hT, hq, rfl⟩ := y
    have t1 := Step.addT z2 hq
    have t2 := Step.new (o := .tup [.ref q', v]) t1.sub hT
    refine ⟨_, t1.trans t2, fun d hd' => ?_⟩
    rw [List.getElem?_map] at hd'
    have dk : ∀ {kvs : List (List L2.Key × V)} {es : List Ent} {i : Nat}, KvD Hc2 kvs es → kvs[i]? = some (k, v) → ∃ n d, es[i]? = some (n, d) ∧ k = kyL n ∧ Dq Hc2 v d := by
      intro kvs es i h
      induction h generalizing i with
      | nil => intro e; simp at e
      | cons a b ih =>
        intro e
        cases i with
        | zero =>
          have e := Option.some.inj e
          injection e with e1 e2
          subst e1 e2
          exact ⟨_, _, rfl, rfl, a⟩
        | succ i =>
          rw [List.getElem?_cons_succ] at e ⊢
          exact ih e
    obtain ⟨n, dv, g1, rfl, g2⟩ := dk d2 hkv
    rw [g1] at hd'
    have e' := Option.some.inj hd'
    subst e'
    have hqc : (upd (upd Hc2 q' (.tup ((kyL n).map kV))) T (.tup [.ref q', v])) q' = some (.tup (n.map V.int)) := by
      rw [upd_ne (fun e => by rw [e, hT] at hq; cases hq), upd_same, kyV]
    exact .tup upd_same (.cons (.tup hqc (to_ints n)) (.cons (g2.mono (t1.cc.trans t2.cc)) .nil))⟩
end
/-! ### locking a dict that a name holds -/
theorem lock_step {Hc H Hc' H' : Hp} {D : Addr} {o : Obj} {u : HO} (h0 : H D = some u) (h1 : Hc D = none) (s : Step (upd Hc D (.frz o u)) (upd H D (.frz o u)) Hc' H') : Hc' D = some (.frz o u) ∧ H' D = some (.frz o u) ∧ Step Hc H (del Hc' D) (upd H' D u) := by
  have a1 := s.cc _ _ (upd_same (H := Hc) (a := D) (o := .frz o u))
  have a2 := s.sub _ _ a1
  refine ⟨a1, a2, fun b x e => ?_, fun b x e => ?_, fun b x e => ?_, fun b x1 x2 x3 => ?_⟩
  · have hb : b ≠ D := fun z => by rw [z, h1] at e; cases e
    unfold del
    rw [if_neg hb]
    exact s.cc b x (by rw [upd_ne hb]; exact e)
  · by_cases hb : b = D
    · subst hb
      rw [upd_same, ← h0]; exact e
    · rw [upd_ne hb]
      exact s.hh b x (by rw [upd_ne hb]; exact e)
  · unfold del at e
    by_cases hb : b = D
    · rw [if_pos hb] at e; cases e
    · rw [if_neg hb] at e
      rw [upd_ne hb]
      exact s.sub b x e
  · unfold del
    by_cases hb : b = D
    · rw [if_pos hb]
    · rw [if_neg hb]
      exact s.fr b (by rw [upd_ne hb]; exact x1) (by rw [upd_ne hb]; exact x2) (by rw [upd_ne hb]; exact x3)
theorem Rep.lock {Hc : Hp} {σ : L2.St} {ρ : En} {i : Nat} {D : Addr} {o : Obj} {kvs : List (List L2.Key × V)} {es : List Ent} (r : Rep Hc σ ρ) (hi : ρ[i]? = some (some (oq D))) (h1 : Hc D = none) (k : KvD Hc kvs es) : Rep (upd Hc D (.frz o (.dT kvs))) σ (ρ.set i (some (dkD D es))) := ⟨by rw [List.length_set]; exact r.len, fun j d e => by
  rw [List.getElem?_set] at e
  by_cases hj : i = j
  · subst hj
    rw [if_pos rfl] at e
    split at e
    · have e := Option.some.inj (Option.some.inj e)
      subst e
      obtain ⟨v, g1, g2⟩ := r.at_ i _ hi
      cases g2
      exact ⟨_, g1, dk_of upd_same (k.mono (same_new h1))⟩
    · cases e
  · rw [if_neg hj] at e
    obtain ⟨v, g1, g2⟩ := r.at_ j d e
    exact ⟨v, g1, g2.mono (same_new h1)⟩⟩
theorem Rep.unlock {Hc : Hp} {σ : L2.St} {ρ : En} {i : Nat} {D : Addr} {o : Obj} {u : HO} {es : List Ent} (r : Rep Hc σ ρ) (hi : ρ[i]? = some (some (dkD D es))) (h1 : Hc D = some (.frz o u)) (k : ∀ j d, j ≠ i → ρ[j]? = some (some d) → d.canLay0 = true) : Rep (del Hc D) σ (ρ.set i (some (oq D))) := ⟨by rw [List.length_set]; exact r.len, fun j d e => by
  rw [List.getElem?_set] at e
  by_cases hj : i = j
  · subst hj
    rw [if_pos rfl] at e
    split at e
    · have e := Option.some.inj (Option.some.inj e)
      subst e
      obtain ⟨v, g1, g2⟩ := r.at_ i _ hi
      unfold dkD at g2
      generalize (es.map (·.1)).map (fun n => PyData.tuple (n.map .int)) = ks at g2
      cases g2
      exact ⟨_, g1, .opq D⟩
    · cases e
  · rw [if_neg hj] at e
    obtain ⟨v, g1, g2⟩ := r.at_ j d e
    exact ⟨v, g1, Dq.thaw h1 (k j d (fun z => hj z.symm) e) g2⟩⟩
theorem KvD.thaw {H : Hp} {a : Addr} {o : Obj} {u : HO} (h : H a = some (.frz o u)) : ∀ {kvs : List (List L2.Key × V)} {es : List Ent}, (∀ kv ∈ es, kv.2.canLay0 = true) → KvD H kvs es → KvD (del H a) kvs es
  | _, _, _, .nil => .nil
  | _, _, c, .cons x y => .cons (Dq.thaw h (c _ List.mem_cons_self) x) (y.thaw h fun kv m => c kv (List.mem_cons_of_mem _ m))
/-! ### defs that make a new dict -/
def spM (R : List PyData → List Ent → Prop) : Sp := fun vs H Q _ => ∃ (Hc : Hp) (ds : List PyData) (es : List Ent), Same Hc H ∧ DqA Hc vs ds ∧ R ds es ∧ ∀ D kvs Hc' H', Step Hc H Hc' H' → Hc' D = none → H D = none → H' D = some (.dT kvs) → KvD Hc' kvs es → Q (.ref D) H'
structure KnM (P : Program) (w : World) (K : PySem.W.Frag) (mg : Str → Option Value) (base : Heap) (x : Str) (k : Nat) (R : List PyData → List Ent → Prop) : Prop where
  ex : ∃ (f : Addr) (fd : FuncData) (ps : List Str), FnOk P w K mg base CX0 k f fd ps (spM R) ∧ mg x = some (.ref f) ∧ PySem.W.keepIn K (.ref f) = true ∧ Binds K fd ps []
theorem dT_call {X : Cx} {ρ : En} {e : Expr} {xs : List Expr} {pos p : Pos} {x : Str} {k : Nat} {R : List PyData → List Ent → Prop} {ds : List PyData} {es : List Ent} (G : KnM X.prog X.w X.K X.mg X.base x k R) (hr : Room k X.A) (h : DA X (e :: xs) ρ ds) (hR : R ds es) (hg : Gl X x := by rfl) (hx : (x == ("__debug__" : Str)) = false := by decide)
    (he : starEach (e :: xs) X.env = (false, eval e X.env) :: starEach xs X.env := by rfl) (hpl : (backTo pos (starEach xs X.env)).any (·.1) = false := by rfl) : EvT (teOf X (.Call (.Name x p) (e :: xs) [] pos)) ρ es := by
  obtain ⟨f, fd, ps, F, hm, hk, hb⟩ := G.ex
  obtain ⟨ta, p1, p2⟩ := h
  exact fun σ Hc H s Rp Q q pins sh I => (pe_call F hr hg hm hk hb .nil pass0 p1 hx he hpl).run pins sh σ H Q I (p2 σ Hc H s Rp _ fun vs Hc1 H1 s1 d1 => by
    show spM R (vs ++ []) H1 Q _
    rw [List.append_nil]
    exact ⟨Hc1, ds, es, s1.sub, d1, hR, fun D kvs Hc2 H2 s2 n2 hD h2 d2 => q D kvs Hc2 H2 (s1.trans s2) n2 (s1.hh.free hD) h2 d2⟩)
/-- for k, v in d.items(), d new -/
theorem di_items {X : Cx} {ρ : En} {e : Expr} {es : List Ent} {apos cpos tpos : Pos} {elts : List Expr} {kk : Nat} (h : EvT (teOf X e) ρ es) (hbase : attributeBase e "items" X.env (eval e X.env) = eval e X.env := by rfl) (hline : (apos.endLine == cpos.line) = true := by rfl) :
    DI X (.Tuple elts kk tpos) (.Call (.Attribute e "items" apos) [] [] cpos) ρ (es.map fun kv => .tuple [.tuple (kv.1.map .int), kv.2]) := di_of (pi_itT (pe_self X e) hbase hline) (ei_items h)
end PH

set_option Elab.async false
set_option linter.all false
set_option maxRecDepth 100000
set_option maxHeartbeats 1000000
namespace PH
open PySem PySem.Spec PyProof.Rows L2
/-! ### grid -/
def pk (p : Pl) : List Int := [p.1, p.2.1, p.2.2]
theorem pk_inj {p q : Pl} (h : pk p = pk q) : p = q := by
  obtain ⟨a, b, c⟩ := p
  obtain ⟨x, y, z⟩ := q
  simp [pk] at h
  simp [h]
def once (ps : List Pl) : List Pl := ps.foldl (fun acc p => if p ∈ acc then acc else acc ++ [p]) []
theorem putG_key (v : Pl → PyData) (acc : List Pl) (p : Pl) : putG (acc.map fun p => (pk p, v p)) (pk p) (v p) = (if p ∈ acc then acc else acc ++ [p]).map fun p => (pk p, v p) := by
  unfold putG
  have e : ((acc.map fun p => (pk p, v p)).any fun kv => decide (kv.1 = pk p)) = decide (p ∈ acc) := by
    rw [Bool.eq_iff_iff, List.any_eq_true, decide_eq_true_iff]
    constructor
    · rintro ⟨x, hx, h⟩
      obtain ⟨q, hq, rfl⟩ := List.mem_map.mp hx
      exact pk_inj (of_decide_eq_true h) ▸ hq
    · intro h
      exact ⟨_, List.mem_map.mpr ⟨p, h, rfl⟩, decide_eq_true rfl⟩
  rw [e]
  by_cases h : p ∈ acc
  · rw [if_pos (decide_eq_true h), if_pos h, List.map_map]
    refine List.map_congr_left fun q hq => ?_
    show (if pk q = pk p then (pk q, v p) else (pk q, v q)) = _
    by_cases c : pk q = pk p
    · rw [if_pos c, pk_inj c]
    · rw [if_neg c]
  · rw [if_neg (by simp [h]), if_neg h, List.map_append]
    rfl
theorem accD_key (v : Pl → PyData) (ps : List Pl) : accD pk v ps = (once ps).map fun p => (pk p, v p) := by
  have : ∀ (ps acc : List Pl), ps.foldl (fun a p => putG a (pk p) (v p)) (acc.map fun p => (pk p, v p)) = (ps.foldl (fun acc p => if p ∈ acc then acc else acc ++ [p]) acc).map fun p => (pk p, v p) := by
    intro ps
    induction ps with
    | nil => intro acc; rfl
    | cons p ps ih =>
      intro acc
      rw [List.foldl_cons, List.foldl_cons, putG_key, ih]
  exact this ps []
theorem once_mem {ps : List Pl} {p : Pl} : p ∈ once ps ↔ p ∈ ps := by
  have : ∀ (ps acc : List Pl), p ∈ ps.foldl (fun acc p => if p ∈ acc then acc else acc ++ [p]) acc ↔ p ∈ acc ∨ p ∈ ps := by
    intro ps
    induction ps with
    | nil => intro acc; simp
    | cons q ps ih =>
      intro acc
      rw [List.foldl_cons, ih]
      split <;> simp <;> grind
  have := this ps []
  simpa [once] using this
theorem once_nodup (ps : List Pl) : (once ps).Nodup := by
  have : ∀ (ps acc : List Pl), acc.Nodup → (ps.foldl (fun acc p => if p ∈ acc then acc else acc ++ [p]) acc).Nodup := by
    intro ps
    induction ps with
    | nil => intro acc h; exact h
    | cons q ps ih =>
      intro acc h
      rw [List.foldl_cons]
      refine ih _ ?_
      split
      · exact h
      · rw [List.nodup_append]
        refine ⟨h, by simp, ?_⟩
        simp; grind
  exact this ps [] (by simp)
theorem once_len (ps : List Pl) : (once ps).length ≤ ps.length := by
  have : ∀ (ps acc : List Pl), (ps.foldl (fun acc p => if p ∈ acc then acc else acc ++ [p]) acc).length ≤ acc.length + ps.length := by
    intro ps
    induction ps with
    | nil => intro acc; simp
    | cons q ps ih =>
      intro acc
      rw [List.foldl_cons]
      have := ih (if q ∈ acc then acc else acc ++ [q])
      have h2 : (if q ∈ acc then acc else acc ++ [q]).length ≤ acc.length + 1 := by split <;> simp
      rw [List.length_cons]
      omega
  simpa [once] using this ps []
theorem once_id {ps : List Pl} (h : ps.Nodup) : once ps = ps := by
  have : ∀ (ps acc : List Pl), (acc ++ ps).Nodup → ps.foldl (fun acc p => if p ∈ acc then acc else acc ++ [p]) acc = acc ++ ps := by
    intro ps
    induction ps with
    | nil => intro acc h; simp
    | cons q ps ih =>
      intro acc h
      rw [List.foldl_cons, if_neg, ih _ (by simpa using h)]
      · simp
      · rw [List.nodup_append] at h
        intro hq
        exact h.2.2 q hq q (by simp) rfl
  simpa [once] using this ps [] (by simpa using h)
/-- the whole coordinates of a place over the denominator c -/
def keyOf (c : Int) (p : Pl) : Pr := (p.1 * c.fdiv p.2.2, p.2.1 * c.fdiv p.2.2)
def comOf (ps : List Pl) : Int := commonOf ((once ps).map (·.2.2))
def gridD (ps : List Pl) : List Ent := (once ps).map fun p => (pk p, prD (keyOf (comOf ps) p))
theorem common_sm {m : Nat} : ∀ (ns : List Int) (f : Int) (k : Nat), Sm (k * m + 1) f → (∀ n ∈ ns, 0 < n ∧ Sm m n) → Sm ((k + ns.length) * m + 1) (ns.foldl comStep f)
  | [], f, k, hf, _ => hf
  | n :: ns, f, k, hf, hn => by
    obtain ⟨h0, h1⟩ := hn n List.mem_cons_self
    have hf' : Sm ((k + 1) * m + 1) (comStep f n) := by
      have g0 : ((f.natAbs.gcd n.natAbs : Nat) : Int) ≠ 0 := by have := Nat.gcd_pos_of_pos_right f.natAbs (show 0 < n.natAbs by omega); omega
      have q : Sm m (n.fdiv ((f.natAbs.gcd n.natAbs : Nat) : Int)) := fdiv_sm (gcd2_dvd f n).2 g0 h1
      exact (hf.mul q).mono (by rw [Nat.add_mul]; omega)
    have ih := common_sm ns (comStep f n) (k + 1) hf' fun y hy => hn y (List.mem_cons_of_mem _ hy)
    rw [List.length_cons, List.foldl_cons]
    exact ih.mono (by rw [Nat.add_assoc, Nat.add_comm 1]; omega)
theorem comOf_sm {m : Nat} {ps : List Pl} (h : ∀ p ∈ ps, PlOk m p) (hl : ps.length ≤ 64) : Sm (64 * m + 1) (comOf ps) := by
  have := common_sm (m := m) ((once ps).map (·.2.2)) 1 0 (by simp [Sm]) (by
    intro n hn
    obtain ⟨p, hp, rfl⟩ := List.mem_map.mp hn
    have q := h p (once_mem.mp hp)
    exact ⟨q.pos, q.d⟩)
  refine Sm.mono this ?_
  rw [List.length_map]
  have h1 := once_len ps
  have : (0 + (once ps).length) * m ≤ 64 * m := Nat.mul_le_mul_right m (by omega)
  omega
theorem fdiv_le {n : Nat} {a b : Int} (h : 0 < b) (hs : Sm n a) : Sm n (a.fdiv b) := by
  unfold Sm at *
  rw [Int.fdiv_eq_ediv_of_nonneg _ (by omega)]
  have h1 := Int.emod_nonneg a (show b ≠ 0 by omega)
  have h2 := Int.emod_lt_of_pos a h
  have h3 := Int.mul_ediv_add_emod a b
  generalize a / b = k at *
  generalize a % b = r at *
  by_cases c : 0 ≤ k
  · have : k ≤ b * k := by have := Int.mul_le_mul_of_nonneg_right (show 1 ≤ b by omega) c; omega
    omega
  · have : b * (k + 1) ≤ 1 * (k + 1) := Int.mul_le_mul_of_nonpos_right (show 1 ≤ b by omega) (by omega)
    rw [Int.mul_add] at this
    omega
theorem can_pl (p : Pl) : (plD p).canLay0 = true := by simp [plD, PyData.canLay0, PyData.canLayAll0]
theorem can_pr (p : Pr) : (prD p).canLay0 = true := by simp [prD, PyData.canLay0, PyData.canLayAll0]
theorem can_all {β : Type} {f : β → PyData} (h : ∀ p, (f p).canLay0 = true) : ∀ xs : List β, PyData.canLayAll0 (xs.map f) = true
  | [] => rfl
  | x :: xs => by simp [PyData.canLayAll0, h x, can_all h xs]
/-- a list or a tuple -/
def sqD (t : Bool) (ds : List PyData) : PyData := if t then .tuple ds else .list ds
theorem di_sq {X : Cx} {tg e : Expr} {ρ : En} {t : Bool} {ds : List PyData} (h : DE X e ρ (sqD t ds)) : DI X tg e ρ ds := by
  cases t with
  | true => exact di_tup h
  | false => exact di_list h
theorem can_pls (t : Bool) (ps : List Pl) : (sqD t (ps.map plD)).canLay0 = true := by
  cases t <;> exact can_all can_pl ps
theorem units1 {k : Nat} {A : Around} (r : Room k A) : A.units + 1 < cLine := by have := r.un; omega
theorem units65 {k : Nat} {A : Around} (r : Room k A) : A.units + 65 < cLine := by have := r.un; omega
theorem units64 {k : Nat} {A : Around} (r : Room k A) : A.units + 64 < cLine := by have := r.un; omega
theorem go_asgT {te : TE} {rest : TS} {i : Nat} {D : Ends} {σ : L2.St} {Hc H : Hp} {ρ : En} {es : List Ent} (h : EvT te ρ es) (s : Same Hc H) (r : Rep Hc σ ρ)
    (k : ∀ d kvs Hc1 H1, Step Hc H Hc1 H1 → Hc1 d = none → H1 d = some (.dT kvs) → KvD Hc1 kvs es → Rep Hc1 (σ.set i (some (.ref d))) (ρ.set i (some (oq d))) → rest D (σ.set i (some (.ref d))) H1) : tSeq (tAsg te (gName i)) rest D σ H :=
  h σ Hc H s r _ fun d kvs Hc1 H1 s1 n1 hD h1 d1 => k d kvs Hc1 H1 s1 n1 h1 d1 ((r.mono s1.cc).set (.opq d) i)
theorem go_lockS {X : Cx} {st : Stmt} {rest : TS} {i : Nat} {D : Ends} {σ : L2.St} {Hc H : Hp} {ρ ρ2 : En} {es : List Ent} {d : Addr} {kvs : List (List L2.Key × V)} (h : D1 X st (ρ.set i (some (dkD d es))) (.nx ρ2)) (s : Same Hc H) (r : Rep Hc σ ρ)
    (hi : ρ[i]? = some (some (oq d))) (n1 : Hc d = none) (h1 : H d = some (.dT kvs)) (d1 : KvD Hc kvs es) (hi2 : ρ2[i]? = some (some (dkD d es))) (can : ∀ j e, j ≠ i → ρ2[j]? = some (some e) → e.canLay0 = true)
    (k : ∀ σ' Hc1 H1, Step Hc H Hc1 H1 → Hc1 d = none → H1 d = some (.dT kvs) → KvD Hc1 kvs es → Rep Hc1 σ' (ρ2.set i (some (oq d))) → rest D σ' H1) : tSeq (tLock (ts1 X st)) rest D σ H :=
  ⟨d, .dT kvs, h1, True.intro, fun od => h _ σ (upd Hc d (.frz od (.dT kvs))) (upd H d (.frz od (.dT kvs))) (same_upd2 s) (r.lock hi n1 d1) fun σ2 Hc2 H2 s2 R2 => by
    obtain ⟨a1, a2, s2'⟩ := lock_step h1 n1 s2
    exact ⟨a2, k σ2 _ _ s2' (by unfold del; rw [if_pos rfl]) upd_same (d1.mono s2'.cc) (R2.unlock hi2 a1 can)⟩⟩
theorem go_retL {te : TE} {i : Nat} {D : Ends} {σ : L2.St} {Hc H : Hp} {ρ : En} {es es' : List Ent} {d : Addr} {kvs : List (List L2.Key × V)} (h : EvT te (ρ.set i (some (dkD d es))) es') (s : Same Hc H) (r : Rep Hc σ ρ)
    (hi : ρ[i]? = some (some (oq d))) (n1 : Hc d = none) (h1 : H d = some (.dT kvs)) (d1 : KvD Hc kvs es) (can : ∀ kv ∈ es', kv.2.canLay0 = true)
    (k : ∀ d' kvs' Hc1 H1, Step Hc H Hc1 H1 → Hc1 d' = none → H d' = none → H1 d' = some (.dT kvs') → KvD Hc1 kvs' es' → D.rt (.ref d') H1) : tRet (tLockE te) D σ H :=
  ⟨d, .dT kvs, h1, True.intro, fun od => h σ (upd Hc d (.frz od (.dT kvs))) (upd H d (.frz od (.dT kvs))) (same_upd2 s) (r.lock hi n1 d1) _ fun d' kvs' Hc2 H2 s2 n2 hD2 h2 d2 => by
    obtain ⟨a1, a2, s2'⟩ := lock_step h1 n1 s2
    have hne : d' ≠ d := fun e => by rw [e, upd_same] at hD2; cases hD2
    refine ⟨a2, k d' kvs' _ _ s2' (by unfold del; rw [if_neg hne]; exact n2) (by rw [upd_ne hne] at hD2; exact hD2) (by rw [upd_ne hne]; exact h2) (d2.thaw a1 can)⟩⟩
theorem DI.is {X : Cx} {tg e : Expr} {ρ : En} {ds ds' : List PyData} (h : DI X tg e ρ ds) (q : ds = ds') : DI X tg e ρ ds' := q ▸ h
section
variable {P : Program} {w : World} {K : PySem.W.Frag} {mg : Str → Option Value} {base : Heap}
abbrev NG : List Str := ["places", "once", "common", "p", "d", "x", "y"]
theorem sc_grid : FnScope ["places", "once", "common", "p", "d", "x", "y"] ["places"] (defScope (topS 16)) := ⟨rfl, rfl, rfl, by decide +kernel, rfl, by decide +kernel, by decide +kernel⟩
theorem swd_true {kx vx : Expr} {gs : List Comprehension} {scope : Scope} {pos py : Pos} {y : Str} {l : Nat} {env : Env} (hk : env.scope.kind = .function) (hy : env.scope.names.lookup y = some .local) (hl : (py.line == pos.line) = true)
    (ha : (scope.names.any fun (n, k) => n == y && (k == .local || k == .cell)) = false) : swapsWith (.DictComp kx vx gs scope pos) (some (.Name y py)) l env = pure true := by
  have ky : env.kindOf y = some .local := hy
  have hb : env.blockKind = .function := by unfold Env.blockKind; rw [hk]; rfl
  unfold swapsWith
  simp only [hb, ky, ha, Expr.pos, hl]
  rfl
def R_grid (ds : List PyData) (es : List Ent) : Prop := ∃ (ps : List Pl) (n : Nat) (t : Bool), ds = [sqD t (ps.map plD)] ∧ ps.length ≤ 64 ∧ n ≤ 4400 ∧ (∀ p ∈ ps, PlOk n p) ∧ es = gridD ps
theorem pe_teB {X : Cx} {scope : Scope} {e : Expr} (s : Shared) (H : Hp) (C : Addr) (cl : List (Str × Addr)) (fp : List Addr) : PE (X.blk s H scope (compEnvC scope cl C X.env) fp) e (teB X scope e) := ⟨fun pins sh σ H' Q I z => z s H C cl fp pins sh I⟩
theorem ev_teB {X : Cx} {scope : Scope} {e : Expr} {ρ : En} {d : PyData} (h : DEB X scope e ρ d) : Ev (teB X scope e) ρ d := fun σ Hc H s R Q q s' H' C cl fp => h s' H' C cl fp σ Hc H s R Q q
theorem kn_grid (T : Top mg) (F : Fd K mg "grid" (topS 16) ["places"]) (G : Kn P w K mg base "common_of" 1 R_common) : KnM P w K mg base "grid" 2 R_grid := by
  obtain ⟨f, fd, F1, hm, hb⟩ := F.ex
  refine ⟨f, fd, ["places"], F1.ok sc_grid (fun vs H Q E h => ?_) (fun cdv A outer s H vs Q E hr h => ?_), hm, F1.kp, hb⟩
  · obtain ⟨Hc, ds, es, sm, da, ⟨ps, n, t, rfl, _⟩, _⟩ := h
    exact da.length
  obtain ⟨Hc, ds, es, sm, da, ⟨ps, n, t, rfl, hl, hn, hp, rfl⟩, q⟩ := h
  have rep := rep_start (N := NG) da
  refine ⟨_, pss_cons (ps_setDcT (i := 1) (own := [("p", 3)]) (wi := tiOf _ _ _) (g := gName 3) (tk := teB _ _ _) (tv := teB _ _ _) (units1 hr) rfl sc_grid.nd rfl rfl (swd_true rfl rfl rfl rfl) (pi_self _ _ _) (bk (by decide +kernel)) (fun _ _ _ _ _ => pg_name (i := 3) sc_grid.nd rfl (Or.inl rfl)) pe_teB pe_teB)
    (pss_cons (ps_lock (ps_self _ _)) (pss_one (ps_ret (pe_lock (pe_dcT (own := [("d", 4), ("x", 5), ("y", 6)]) (wi := tiOf _ _ _) (g := gTup _ 3 (gCons (gName 5) (gCons (gName 6) (gCons (gName 4) gNil)))) (tk := teB _ _ _) (tv := teB _ _ _) (units1 hr) rfl sc_grid.nd (pi_self _ _ _) (bk (by decide +kernel))
      (fun _ _ _ _ _ => pg_tup (n := 3) rfl (pgs_cons (pg_name (i := 5) sc_grid.nd rfl (.inl rfl)) (pgs_cons (pg_name (i := 6) sc_grid.nd rfl (.inl rfl)) (pgs_cons (pg_name (i := 4) sc_grid.nd rfl (.inl rfl)) pgs_nil)))) pe_teB pe_teB))))), ?_⟩
  refine go_asgT (es := accD pk (fun _ => .bool true) ps) (ev_dct (xs := ps) (enc := plD) (f := fun _ => .bool true) (ky := pk) (b := fun p => [some (sqD t (ps.map plD)), none, none, some (plD p), none, none, none]) (vs := [3]) (di_sq (d_v 0)) (fun _ _ => bd_name (by decide)) (fun p _ => ev_teB fun _ _ _ _ _ => d_v 3) (fun _ _ => ev_teB fun _ _ _ _ _ => d_bl) (by omega)) sm rep fun D kvs Hc1 H1 s1 n1 h1 d1 r1 => ?_
  have hks : keysD (accD pk (fun _ => .bool true) ps) = (once ps).map plD := by
    rw [accD_key (fun _ => .bool true)]
    unfold keysD
    rw [List.map_map, List.map_map]
    exact List.map_congr_left fun p _ => rfl
  have hds : ∀ d ∈ (once ps).map (fun p : Pl => p.2.2), 0 < d ∧ Sm n d := fun d hd => by
    obtain ⟨p, hp1, rfl⟩ := List.mem_map.mp hd
    have := hp p (once_mem.mp hp1)
    exact ⟨this.pos, this.d⟩
  refine go_lockS (ρ2 := [some (sqD t (ps.map plD)), some (dkD D (accD pk (fun _ => .bool true) ps)), some (.int (comOf ps)), none, none, none, none]) (i := 1) (s_set 2 sc_grid.nd (d_call G hr (da_cons (d_lc (own := [("d", 4), ("x", 5), ("y", 6)]) (g := gTup _ 3 (gCons (gName 5) (gCons (gName 6) (gCons (gName 4) gNil)))) (xs := once ps) (enc := plD) (f := fun p => .int p.2.2) rfl sc_grid.nd (bk (by decide +kernel)) (DI.is (di_keys (d_v 1)) hks)
      (fun _ _ _ _ _ => pg_tup (n := 3) rfl (pgs_cons (pg_name (i := 5) sc_grid.nd rfl (.inl rfl)) (pgs_cons (pg_name (i := 6) sc_grid.nd rfl (.inl rfl)) (pgs_cons (pg_name (i := 4) sc_grid.nd rfl (.inl rfl)) pgs_nil)))) (fun _ _ => bd_tup (bds_cons (bd_name (by decide)) (bds_cons (bd_name (by decide)) (bds_cons (bd_name (by decide)) bds_nil))) rfl) (fun p _ _ _ _ _ _ => d_v 4) (by have := once_len ps; omega)) da_nil)
      ⟨(once ps).map (·.2.2), n, by rw [List.map_map]; rfl, by rw [List.length_map]; have := once_len ps; omega, by omega, hds, rfl⟩)) s1.sub r1 rfl n1 h1 d1 rfl ?_ fun σ2 Hc2 H2 s2 n2 h2 d2 r2 => ?_
  · intro j e hj hje
    match j with
    | 0 => have := Option.some.inj (Option.some.inj hje); subst this; exact can_pls t ps
    | 1 => exact absurd rfl hj
    | 2 => have := Option.some.inj (Option.some.inj hje); subst this; rfl
    | 3 | 4 | 5 | 6 => cases hje
    | n + 7 => simp at hje
  have cs := comOf_sm hp hl
  have c0 : (64 : Nat) * n ≤ 281600 := by omega
  have kv : gridD ps = accD pk (fun p => prD (keyOf (comOf ps) p)) (once ps) := by
    rw [accD_key, once_id (once_nodup ps)]
    rfl
  refine go_retL (es' := gridD ps) (i := 1) (kv ▸ ev_dct (xs := once ps) (enc := plD) (f := fun p => prD (keyOf (comOf ps) p)) (ky := pk) (b := fun p => [some (sqD t (ps.map plD)), some (dkD D (accD pk (fun _ => .bool true) ps)), some (.int (comOf ps)), none, some (.int p.2.2), some (.int p.1), some (.int p.2.1)]) (vs := [4, 5, 6])
    (DI.is (di_keys (d_v 1)) hks) (fun _ _ => bd_tup (bds_cons (bd_name (by decide)) (bds_cons (bd_name (by decide)) (bds_cons (bd_name (by decide)) bds_nil))) rfl) (fun p _ => ev_teB fun _ _ _ _ _ => d_tup (da_cons (d_v 5) (da_cons (d_v 6) (da_cons (d_v 4) da_nil)))) (fun p hp1 => ev_teB fun _ _ _ _ _ => ?_) (by have := once_len ps; omega)) s2.sub r2 rfl n2 h2 d2 ?_ fun D2 kvs2 Hc3 H3 s3 n3 hD3 h3 d3 => ?_
  · intro kv hkv
    obtain ⟨p, _, rfl⟩ := List.mem_map.mp hkv
    exact can_pr _
  · exact q D2 kvs2 Hc3 H3 ((s1.trans s2).trans s3) n3 ((s1.trans s2).hh.free hD3) h3 d3
  · have k := hp p (once_mem.mp hp1)
    have c : Sm (64 * n + 1) ((comOf ps).fdiv p.2.2) := fdiv_le k.pos cs
    exact d_tup (da_cons (d_mul (cm k.x c (by omega)) (d_v 5) (d_div (cz k.ne k.d (by omega)) (d_v 2) (d_v 4))) (da_cons (d_mul (cm k.y c (by omega)) (d_v 6) (d_div (cz k.ne k.d (by omega)) (d_v 2) (d_v 4))) da_nil))
end
end PH

set_option Elab.async false
set_option linter.all false
set_option maxRecDepth 100000
set_option maxHeartbeats 1000000
namespace PH
open PySem PySem.Spec PyProof.Rows L2
def entD (c : Int) (p : Pl) : PyData := .tuple [prD (keyOf c p), plD p]
def srt (ps : List Pl) : List Pl := (once ps).mergeSort fun a b => PySem.W.dataLe false id (entD (comOf ps) a) (entD (comOf ps) b)
theorem srt_mem {ps : List Pl} {p : Pl} : p ∈ srt ps ↔ p ∈ ps := by
  unfold srt
  rw [List.mem_mergeSort, once_mem]
theorem srt_len (ps : List Pl) : (srt ps).length ≤ ps.length := by
  unfold srt
  rw [List.length_mergeSort]
  exact once_len ps
theorem on_sortD {ds : List PyData} (cl : PyData.canLayAll0 ds = true) (al : PySem.W.AllAlike ds) (so : PySem.W.Sortable ds) (hz : ds.length ≤ 100000) (dp : ∀ d ∈ ds, d.depth ≤ 8) : OpN rSortD [.list ds] (.list (ds.mergeSort (PySem.W.dataLe false id))) := fun vs Hc H s da Q q => by
  cases da with
  | cons a b =>
    cases b
    cases a with
    | lst a1 a2 => exact ⟨_, _, Hc, ds, rfl, s _ _ a1, s, a2, cl, al, so, sz_ok hz, dp, fun p out hp dout => q _ _ _ (Step.new s hp) (.lst upd_same (dout.mono (same_new (s.free hp))))⟩
section
variable {P : Program} {w : World} {K : PySem.W.Frag} {mg : Str → Option Value} {base : Heap}
theorem sc_inOrder : FnScope ["places", "p", "key"] ["places"] (defScope (topS 17)) := ⟨rfl, rfl, rfl, by decide +kernel, rfl, by decide +kernel, by decide +kernel⟩
def R_inOrder (ds : List PyData) (d : PyData) : Prop := ∃ (ps : List Pl) (n : Nat) (t : Bool), ds = [sqD t (ps.map plD)] ∧ ps.length ≤ 64 ∧ n ≤ 4400 ∧ (∀ p ∈ ps, PlOk n p) ∧ d = .list ((srt ps).map plD)
theorem kn_inOrder (T : Top mg) (F : Fd K mg "in_order" (topS 17) ["places"]) (G : KnM P w K mg base "grid" 2 R_grid) : Kn P w K mg base "in_order" 3 R_inOrder := by
  refine kn F sc_inOrder (by rintro ds d ⟨a, b, t, rfl, _⟩; rfl) fun f cdv A outer s H E hr ds d => ?_
  rintro ⟨ps, n, t, rfl, hl, hn, hp, rfl⟩
  have e1 : (gridD ps).map (fun kv => PyData.tuple [.tuple (kv.1.map .int), kv.2]) = (once ps).map fun p => .tuple [plD p, prD (keyOf (comOf ps) p)] := by
    unfold gridD
    rw [List.map_map]
    exact List.map_congr_left fun p _ => rfl
  have e2 : ((once ps).map (entD (comOf ps))).mergeSort (PySem.W.dataLe false id) = (srt ps).map (entD (comOf ps)) := by
    unfold srt
    exact (List.map_mergeSort (f := entD (comOf ps)) (s := PySem.W.dataLe false id) (fun a _ b _ => rfl)).symm
  have ol := once_len ps
  refine ds_rt (s_ret (d_lc (own := [("key", 2), ("p", 1)]) (g := gTup _ 2 (gCons (gName 2) (gCons (gName 1) gNil))) (xs := srt ps) (enc := entD (comOf ps)) (f := plD) rfl sc_inOrder.nd (bk (by decide +kernel))
    (di_list (DE.is (d_callB (cr_sortD (units64 hr)) rfl T.sorted bt_sorted db_sorted (da_cons (d_lc (own := [("p", 1), ("key", 2)]) (g := gTup _ 2 (gCons (gName 1) (gCons (gName 2) gNil))) (xs := once ps) (enc := fun p => .tuple [plD p, prD (keyOf (comOf ps) p)]) (f := entD (comOf ps)) rfl sc_inOrder.nd (bk (by decide +kernel))
        (DI.is (di_items (dT_call G hr (da_cons (d_v 0) da_nil) ⟨ps, n, t, rfl, hl, hn, hp, rfl⟩)) e1)
        (fun _ _ _ _ _ => pg_tup (n := 2) rfl (pgs_cons (pg_name (i := 1) sc_inOrder.nd rfl (.inl rfl)) (pgs_cons (pg_name (i := 2) sc_inOrder.nd rfl (.inl rfl)) pgs_nil))) (fun _ _ => bd_tup (bds_cons (bd_name (by decide)) (bds_cons (bd_name (by decide)) bds_nil)) rfl) (fun p _ _ _ _ _ _ => d_tup (da_cons (d_v 2) (da_cons (d_v 1) da_nil))) (by omega)) da_nil)
      (on_sortD (can_all (fun p => by simp [entD, PyData.canLay0, PyData.canLayAll0, can_pl, can_pr]) _) ?_ ?_ (by rw [List.length_map]; omega) ?_)) (congrArg PyData.list e2)))
    (fun _ _ _ _ _ => pg_tup (n := 2) rfl (pgs_cons (pg_name (i := 2) sc_inOrder.nd rfl (.inl rfl)) (pgs_cons (pg_name (i := 1) sc_inOrder.nd rfl (.inl rfl)) pgs_nil))) (fun _ _ => bd_tup (bds_cons (bd_name (by decide)) (bds_cons (bd_name (by decide)) bds_nil)) rfl) (fun p _ _ _ _ _ _ => d_v 1) (by have := srt_len ps; omega)))
  · intro d hd d' hd'
    obtain ⟨p, _, rfl⟩ := List.mem_map.mp hd
    obtain ⟨q, _, rfl⟩ := List.mem_map.mp hd'
    rfl
  · refine .inl fun d hd => ?_
    obtain ⟨p, _, rfl⟩ := List.mem_map.mp hd
    exact ⟨_, _, rfl⟩
  · intro d hd
    obtain ⟨p, _, rfl⟩ := List.mem_map.mp hd
    simp [entD, plD, prD, PyData.depth, PyData.depthAll]
end
end PH

set_option Elab.async false
set_option linter.all false
set_option maxRecDepth 100000
set_option maxHeartbeats 1000000
namespace PH
open PySem PySem.Spec PyProof.Rows L2
/-! ### a list that a name holds and that changes -/
structure Own (a : Addr) (Hc H : Hp) (ds : List PyData) : Prop where
  out : Hc a = none
  ex : ∃ xs, H a = some (.lst xs) ∧ DqA Hc xs ds
structure StepM (a : Addr) (Hc H Hc' H' : Hp) : Prop where
  cc : Same Hc Hc'
  hh : ∀ b o, b ≠ a → H b = some o → H' b = some o
  sub : Same Hc' H'
  fr : ∀ b, b ≠ a → Hc b = none → H b ≠ none → (∀ xs, H b ≠ some (.tup xs)) → Hc' b = none
theorem Step.m {a : Addr} {Hc H Hc' H' : Hp} (s : Step Hc H Hc' H') : StepM a Hc H Hc' H' := ⟨s.cc, fun b o _ e => s.hh b o e, s.sub, fun b _ h1 h2 h3 => s.fr b h1 h2 h3⟩
theorem StepM.trans {x : Addr} {Hc H Hc1 H1 Hc2 H2 : Hp} (a : StepM x Hc H Hc1 H1) (b : StepM x Hc1 H1 Hc2 H2) : StepM x Hc H Hc2 H2 :=
  ⟨a.cc.trans b.cc, fun c o hc e => b.hh c o hc (a.hh c o hc e), b.sub, fun c hc h1 h2 h3 => by
    cases e : H c with
    | none => exact absurd e h2
    | some o => exact b.fr c hc (a.fr c hc h1 h2 h3) (by rw [a.hh c o hc e]; exact fun z => nomatch z) (fun xs => by rw [a.hh c o hc e, ← e]; exact h3 xs)⟩
theorem Own.step {a : Addr} {Hc H Hc' H' : Hp} {ds : List PyData} (o : Own a Hc H ds) (s : Step Hc H Hc' H') : Own a Hc' H' ds := by
  obtain ⟨o1, xs, h1, h2⟩ := o
  exact ⟨s.fr a o1 (by rw [h1]; exact fun z => nomatch z) (fun xs => by rw [h1]; exact fun z => nomatch z), xs, s.hh _ _ h1, h2.mono s.cc⟩
/-- the list taken for data -/
def vw (a : Addr) (Hc H : Hp) : Hp := fun b => if b = a then H a else Hc b
theorem vw_same {a : Addr} {Hc H : Hp} (s : Same Hc H) : Same (vw a Hc H) H := fun b o e => by
  unfold vw at e
  split at e
  · next h => rw [h]; exact e
  · exact s b o e
theorem vw_up {a : Addr} {Hc H : Hp} (h : Hc a = none) : Same Hc (vw a Hc H) := fun b o e => by
  unfold vw
  rw [if_neg (fun z => by rw [z, h] at e; cases e)]
  exact e
theorem Rep.view {a : Addr} {Hc H : Hp} {σ : L2.St} {ρ : En} {ds : List PyData} {i : Nat} (r : Rep Hc σ ρ) (o : Own a Hc H ds) (hi : ρ[i]? = some (some (oq a))) : Rep (vw a Hc H) σ (ρ.set i (some (.list ds))) := ⟨by rw [List.length_set]; exact r.len, fun j d e => by
  obtain ⟨o1, xs, h1, h2⟩ := o
  rw [List.getElem?_set] at e
  by_cases hj : i = j
  · subst hj
    rw [if_pos rfl] at e
    split at e
    · have e := Option.some.inj (Option.some.inj e)
      subst e
      obtain ⟨v, g1, g2⟩ := r.at_ i _ hi
      cases g2
      exact ⟨_, g1, .lst (by unfold vw; rw [if_pos rfl]; exact h1) (h2.mono (vw_up o1))⟩
    · cases e
  · rw [if_neg hj] at e
    obtain ⟨v, g1, g2⟩ := r.at_ j d e
    exact ⟨v, g1, g2.mono (vw_up o1)⟩⟩
theorem view_back {a : Addr} {Hc H Hc' H' : Hp} {ds : List PyData} (o : Own a Hc H ds) (s : Step (vw a Hc H) H Hc' H') : StepM a Hc H (del Hc' a) H' ∧ Own a (del Hc' a) H' ds := by
  obtain ⟨o1, xs, h1, h2⟩ := o
  have up : Same Hc (del Hc' a) := fun b x e => by
    unfold del
    rw [if_neg (fun z => by rw [z, o1] at e; cases e)]
    exact s.cc b x (vw_up o1 b x e)
  refine ⟨⟨up, fun b x _ e => s.hh b x e, fun b x e => ?_, fun b hb x1 x2 x3 => ?_⟩, by unfold del; rw [if_pos rfl], xs, s.hh _ _ h1, h2.mono up⟩
  · unfold del at e
    split at e
    · cases e
    · exact s.sub b x e
  · unfold del
    rw [if_neg hb]
    exact s.fr b (by unfold vw; rw [if_neg hb]; exact x1) x2 x3
def SvM (a : Addr) (ts : TS) (ρ : En) (ds : List PyData) (ρ' : En) (ds' : List PyData) : Prop := ∀ (D : Ends) (σ : L2.St) (Hc H : Hp), Same Hc H → Rep Hc σ ρ → Own a Hc H ds → (∀ σ' Hc' H', StepM a Hc H Hc' H' → Rep Hc' σ' ρ' → Own a Hc' H' ds' → D.nx σ' H') → ts D σ H
def DSM (X : Cx) (a : Addr) (st : List Stmt) (ρ : En) (ds : List PyData) (ρ' : En) (ds' : List PyData) : Prop := SvM a (tsOf X st) ρ ds ρ' ds'
def D1M (X : Cx) (a : Addr) (st : Stmt) (ρ : En) (ds : List PyData) (ρ' : En) (ds' : List PyData) : Prop := SvM a (ts1 X st) ρ ds ρ' ds'
section
variable {X : Cx} {a : Addr} {ρ ρ1 ρ2 : En} {ds ds1 ds2 : List PyData} {st : Stmt} {rest sa : List Stmt} {e c : Expr} {d : PyData} {k : Bool} {i : Nat} {pos p p2 p3 : Pos}
theorem dsm_of {t : TS} (h : PSs X rest t) (v : SvM a t ρ ds ρ1 ds1) : DSM X a rest ρ ds ρ1 ds1 := fun D σ Hc H s R o w pins sh I => h.run pins sh σ H D I (v D σ Hc H s R o w)
theorem d1m_of {t : TS} (h : PS X st t) (v : SvM a t ρ ds ρ1 ds1) : D1M X a st ρ ds ρ1 ds1 := fun D σ Hc H s R o w pins sh I => h.run pins sh σ H D I (v D σ Hc H s R o w)
theorem m_lift (h : D1 X st ρ (.nx ρ1)) : D1M X a st ρ ds ρ1 ds := fun D σ Hc H s R o w => h D σ Hc H s R fun σ' Hc' H' s' R' => w σ' Hc' H' s'.m R' (o.step s')
theorem m_nil : DSM X a [] ρ ds ρ ds := dsm_of pss_nil fun D σ Hc H s R o w => w σ Hc H (Step.refl s).m R o
theorem m_cons (h : D1M X a st ρ ds ρ1 ds1) (t : DSM X a rest ρ1 ds1 ρ2 ds2) : DSM X a (st :: rest) ρ ds ρ2 ds2 := dsm_of (pss_cons (ps_self X st) (pss_self X rest)) fun D σ Hc H s R o w =>
  h { D with nx := tsOf X rest D } σ Hc H s R o fun σ' Hc' H' s' R' o' => t D σ' Hc' H' s'.sub R' o' fun σ2 Hc2 H2 s2 R2 o2 => w σ2 Hc2 H2 (s'.trans s2) R2 o2
/-- xs.append(e) -/
theorem m_append {x : Str} (he : DE X e ρ d) (hi : ρ[i]? = some (some (oq a))) (hl : ds.length < 100000) (hN : X.N[i]? = some x := by rfl) (hv : Vis X.env.scope x := by first | exact Or.inl rfl | exact Or.inr (Or.inl rfl) | exact Or.inr (Or.inr rfl)) (hd : (x == ("__debug__" : Str)) = false := by decide)
    (hcd : (x == ("__classdict__" : Str)) = false := by decide) (hbase : attributeBase (.Name x p) "append" X.env (eval (.Name x p) X.env) = eval (.Name x p) X.env := by rfl)
    (hfew : ((backTo p3 (starEach [e] X.env)).all (fun x => !x.1) && (backToKw p3 (keywordEach [] X.env)).all (fun x => x.1.isSome)
      && decide (([e] : List Expr).length + ([] : List Keyword).length + (if ([] : List Keyword).isEmpty then 0 else 1) < 30)) = true := by rfl)
    (hline : (p2.endLine == p3.line) = true := by rfl) (hs : starEach [e] X.env = (false, eval e X.env) :: starEach [] X.env := by rfl) (hplain : (backTo p3 (starEach [] X.env)).any (·.1) = false := by rfl) (hsw : swapsWith (.Call (.Attribute (.Name x p) "append" p2) [e] [] p3) none pos.line X.env = pure false := by rfl) :
    D1M X a (.Expr (.Call (.Attribute (.Name x p) "append" p2) [e] [] p3) pos) ρ ds ρ (ds ++ [d]) :=
  d1m_of (ps_expr (pe_bm PySem.F.plainAttrs_list PySem.F.slot_list_append PySem.F.type_list_append mt_append (pe_var hN hv hd hcd) (pa_cons (pe_self X e) pa_nil hs) hbase hfew hline hs hplain) hsw) fun D σ Hc H s R o w => by
    obtain ⟨v, g1, g2⟩ := R.at_ i _ hi
    cases g2
    obtain ⟨o1, xs, h1, h2⟩ := o
    refine ⟨_, g1, .inl ⟨rfl, _, SqL.of h1⟩, he σ Hc H s R _ fun v Hc1 H1 s1 d1 => ⟨a, xs, v, rfl, rfl, s1.hh _ _ h1, ?_, ?_⟩⟩
    · rw [h2.length]; exact Nat.lt_of_lt_of_le hl (by decide)
    · have n1 : Hc1 a = none := s1.fr a o1 (by rw [h1]; exact fun z => nomatch z) (fun xs => by rw [h1]; exact fun z => nomatch z)
      refine w σ Hc1 _ ⟨s1.cc, fun b x hb e => by rw [upd_ne hb]; exact s1.hh b x e, fun b x e => ?_, fun b hb x1 x2 x3 => s1.fr b x1 x2 x3⟩ (R.mono s1.cc) ⟨n1, _, upd_same, (h2.mono s1.cc).append (.cons d1 .nil)⟩
      rw [upd_ne (fun z => by rw [z, n1] at e; cases e)]
      exact s1.sub b x e
/-- xs.pop() -/
theorem m_pop {x : Str} (hi : ρ[i]? = some (some (oq a))) (hl : ds ≠ []) (hN : X.N[i]? = some x := by rfl) (hv : Vis X.env.scope x := by first | exact Or.inl rfl | exact Or.inr (Or.inl rfl) | exact Or.inr (Or.inr rfl)) (hd : (x == ("__debug__" : Str)) = false := by decide)
    (hcd : (x == ("__classdict__" : Str)) = false := by decide) (hbase : attributeBase (.Name x p) "pop" X.env (eval (.Name x p) X.env) = eval (.Name x p) X.env := by rfl)
    (hline : (p2.endLine == p3.line) = true := by rfl) (hsw : swapsWith (.Call (.Attribute (.Name x p) "pop" p2) [] [] p3) none pos.line X.env = pure false := by rfl) :
    D1M X a (.Expr (.Call (.Attribute (.Name x p) "pop" p2) [] [] p3) pos) ρ ds ρ ds.dropLast :=
  d1m_of (ps_expr (pe_bm0 PySem.F.plainAttrs_list PySem.F.slot_list_pop PySem.F.type_list_pop mt_pop (pe_var hN hv hd hcd) hbase hline) hsw) fun D σ Hc H s R o w => by
    obtain ⟨v, g1, g2⟩ := R.at_ i _ hi
    cases g2
    obtain ⟨o1, xs, h1, h2⟩ := o
    have hx : xs.length - 1 < xs.length := by
      rw [h2.length]
      have := List.length_pos_iff.mpr hl
      omega
    refine ⟨_, g1, .inl ⟨rfl, _, SqL.of h1⟩, a, xs, xs[xs.length - 1], rfl, rfl, h1, List.getElem?_eq_getElem hx, ?_⟩
    refine w σ Hc _ ⟨Same.refl _, fun b x hb e => by rw [upd_ne hb]; exact e, fun b x e => ?_, fun b hb x1 x2 x3 => x1⟩ R ⟨o1, _, upd_same, h2.dropLast⟩
    rw [upd_ne (fun z => by rw [z, o1] at e; cases e)]
    exact s b x e
theorem m_if (h : DT X c ρ k) (h1 : k = true → DSM X a sa ρ ds ρ1 ds1) (h2 : k = false → ρ1 = ρ ∧ ds1 = ds) : D1M X a (.If c sa [] pos) ρ ds ρ1 ds1 := d1m_of (ps_if (pt_self X c) (pss_self X sa) pss_nil) fun D σ Hc H s R o w => h σ Hc H s R _ fun Hc1 H1 s1 => by
  cases k with
  | true => exact h1 rfl D σ Hc1 H1 s1.sub (R.mono s1.cc) (o.step s1) fun σ' Hc' H' s' R' o' => w σ' Hc' H' (s1.m.trans s') R' o'
  | false =>
    obtain ⟨rfl, rfl⟩ := h2 rfl
    exact w σ Hc1 H1 s1.m (R.mono s1.cc) (o.step s1)
/-- while, the test over the list -/
inductive WhM (c : En → List PyData → Bool → Prop) (body : En → List PyData → En → List PyData → Prop) : Nat → En → List PyData → En → List PyData → Prop
  | done {n : Nat} {ρ : En} {ds : List PyData} : c ρ ds false → WhM c body n ρ ds ρ ds
  | turn {n : Nat} {ρ ρ1 ρ2 : En} {ds ds1 ds2 : List PyData} : c ρ ds true → body ρ ds ρ1 ds1 → WhM c body n ρ1 ds1 ρ2 ds2 → WhM c body (n + 1) ρ ds ρ2 ds2
theorem m_while {n : Nat} {body : List Stmt} (h : WhM (fun ρ ds k => ρ[i]? = some (some (oq a)) ∧ DT X c (ρ.set i (some (.list ds))) k) (DSM X a body) n ρ ds ρ1 ds1) (hp : PassesOwn (model X.prog X.w) X.A X.env X.xe := by exact PassesOwn.never) : D1M X a (.While c body [] pos) ρ ds ρ1 ds1 :=
  d1m_of (ps_while hp (pt_self X c) (pss_self X body)) fun D σ Hc H s R o w =>
    ⟨fun m σ2 H2 => ∃ Hc2 ρ2 ds2, StepM a Hc H Hc2 H2 ∧ Rep Hc2 σ2 ρ2 ∧ Own a Hc2 H2 ds2 ∧ WhM (fun ρ ds k => ρ[i]? = some (some (oq a)) ∧ DT X c (ρ.set i (some (.list ds))) k) (DSM X a body) m ρ2 ds2 ρ1 ds1, ⟨n, Hc, ρ, ds, (Step.refl s).m, R, o, h⟩, by
      rintro m σ2 H2 ⟨Hc2, ρ2, ds2, s2, r2, o2, f⟩
      cases f with
      | done q =>
        refine q.2 σ2 (vw a Hc2 H2) H2 (vw_same s2.sub) (r2.view o2 q.1) _ fun Hc3 H3 s3 => ?_
        obtain ⟨m3, o3⟩ := view_back o2 s3
        rw [if_neg (by decide)]
        exact w σ2 _ H3 (s2.trans m3) (r2.mono m3.cc) o3
      | @turn m' _ ρ3 _ _ ds3 _ q b f' =>
        refine q.2 σ2 (vw a Hc2 H2) H2 (vw_same s2.sub) (r2.view o2 q.1) _ fun Hc3 H3 s3 => ?_
        obtain ⟨m3, o3⟩ := view_back o2 s3
        rw [if_pos rfl]
        exact ⟨fun σ' H' => ∃ Hc' ρ' ds', StepM a Hc H Hc' H' ∧ Rep Hc' σ' ρ' ∧ Own a Hc' H' ds' ∧ WhM (fun ρ ds k => ρ[i]? = some (some (oq a)) ∧ DT X c (ρ.set i (some (.list ds))) k) (DSM X a body) m' ρ' ds' ρ1 ds1, fun σ' H' h => ⟨m', Nat.lt_succ_self _, h⟩,
          b _ σ2 _ H3 m3.sub (r2.mono m3.cc) o3 fun σ4 Hc4 H4 s4 R4 o4 => ⟨Hc4, ρ3, ds3, (s2.trans m3).trans s4, R4, o4, f'⟩⟩⟩
/-- for -/
inductive FoM {β : Type} (b : β → En → En → Prop) (body : En → List PyData → En → List PyData → Prop) : List β → En → List PyData → En → List PyData → Prop
  | nil {ρ : En} {ds : List PyData} : FoM b body [] ρ ds ρ ds
  | next {x : β} {xs : List β} {ρ ρ1 ρ2 ρ3 : En} {ds ds2 ds3 : List PyData} : b x ρ ρ1 → body ρ1 ds ρ2 ds2 → FoM b body xs ρ2 ds2 ρ3 ds3 → FoM b body (x :: xs) ρ ds ρ3 ds3
theorem StepM.down {a : Addr} {Hc H Hc' H' : Hp} {ds : List PyData} (o : Own a Hc H ds) (s : StepM a Hc H Hc' H') : True := trivial
theorem m_for {β : Type} {g : TG} {vs : List Nat} {tg iter : Expr} {body : List Stmt} {enc : β → PyData} {xs : List β} (hc : X.calm = true) (hi : DI X tg iter ρ (xs.map enc)) (hg : PG X tg g) (h : FoM (fun x ρ ρ1 => Bd g ρ (enc x) ρ1 vs) (DSM X a body) xs ρ ds ρ1 ds1)
    (hp : PassesOwn (model X.prog X.w) X.A X.env X.xe := by exact PassesOwn.never) (hs : ∀ x, foldedSetIterable iter X.env x = pure x := by intro _; rfl) : D1M X a (.For tg iter body [] pos) ρ ds ρ1 ds1 :=
  d1m_of (ps_for hp hc (pi_self X tg iter) hg (pss_self X body) hs) fun D σ Hc H s R o w => hi σ Hc H s R _ fun J Hc1 H1 s1 st => by
    refine ⟨fun i m σ2 H2 => m = xs.length - i ∧ i ≤ xs.length ∧ ∃ Hc2 ρ2 ds2, StepM a Hc1 H1 Hc2 H2 ∧ Rep Hc2 σ2 ρ2 ∧ Own a Hc2 H2 ds2 ∧ FoM (fun x ρ ρ1 => Bd g ρ (enc x) ρ1 vs) (DSM X a body) (xs.drop i) ρ2 ds2 ρ1 ds1, ⟨_, rfl, Nat.zero_le _, Hc1, ρ, ds, (Step.refl s1.sub).m, R.mono s1.cc, o.step s1, h⟩, ?_⟩
    rintro i m σ2 H2 ⟨rfl, hi2, Hc2, ρ2, ds2, s2, r2, o2, f⟩
    obtain ⟨st1, st2⟩ := st Hc2 H2 s2.cc s2.sub i
    rw [List.length_map] at st1 st2
    by_cases hlt : i < xs.length
    · obtain ⟨go, yl⟩ := st1 hlt
      have gx : xs[i]? = some xs[i] := List.getElem?_eq_getElem hlt
      have dr : xs.drop i = xs[i] :: xs.drop (i + 1) := List.drop_eq_getElem_cons hlt
      generalize xs[i] = x at gx dr
      rw [dr] at f
      refine .inr ⟨go, fun σ' H' => ∃ Hc' ρ' ds', StepM a Hc1 H1 Hc' H' ∧ Rep Hc' σ' ρ' ∧ Own a Hc' H' ds' ∧ FoM (fun x ρ ρ1 => Bd g ρ (enc x) ρ1 vs) (DSM X a body) (xs.drop (i + 1)) ρ' ds' ρ1 ds1, fun σ' H' h => ⟨xs.length - (i + 1), by omega, rfl, hlt, h⟩, fun v H3 y => ?_⟩
      obtain ⟨Hc3, s3, dv⟩ := yl v H3 y
      have dv := dv (enc x) (by rw [List.getElem?_map, gx]; rfl)
      cases f with
      | next b1 b2 b3 => exact b1 v σ2 Hc3 H3 s3.sub (r2.mono s3.cc) dv _ fun σ' R' _ => b2 _ σ' Hc3 H3 s3.sub R' (o2.step s3) fun σ4 Hc4 H4 s4 R4 o4 => ⟨Hc4, _, _, (s2.trans s3.m).trans s4, R4, o4, b3⟩
    · have e : i = xs.length := by omega
      subst e
      rw [List.drop_length] at f
      cases f
      exact .inl ⟨st2 (by omega), w σ2 Hc2 H2 (s1.m.trans s2) r2 o2⟩
/-- found = a new list; some work on it; the rest takes it for data -/
def EvO (te : TE) (ρ : En) (ds : List PyData) : Prop := ∀ (σ : L2.St) (Hc H : Hp), Same Hc H → Rep Hc σ ρ → ∀ Q : VK, (∀ a xs Hc' H', Step Hc H Hc' H' → Hc' a = none → H a = none → H' a = some (.lst xs) → DqA Hc' xs ds → Q (.ref a) H') → te σ H Q
theorem eo_nil : EvO (tLst tNil) ρ [] := fun σ Hc H s R Q q => ⟨by decide, fun p hp => q p [] Hc _ ⟨Same.refl _, same_new hp, fun b x e => by rw [upd_ne (ne_of_none e (s.free hp))]; exact s b x e, fun _ h _ _ => h⟩ (s.free hp) hp upd_same .nil⟩
theorem ds_own {te : TE} {st1 : Stmt} {o : Out} (h0 : PS X st (tAsg te (gName i))) (v0 : EvO te ρ ds) (h1 : ∀ a, D1M X a st1 (ρ.set i (some (oq a))) ds (ρ2.set i (some (oq a))) ds1) (hi : i < ρ2.length) (h2 : DS X rest (ρ2.set i (some (.list ds1))) o) : DS X (st :: st1 :: rest) ρ o :=
  ds_of (pss_cons h0 (pss_cons (ps_self X st1) (pss_self X rest))) fun D σ Hc H s R w => v0 σ Hc H s R _ fun a xs Hc1 H1 s1 n1 hH h1' d1 =>
    h1 a { D with nx := tsOf X rest D } _ Hc1 H1 s1.sub ((R.mono s1.cc).set (.opq a) i) ⟨n1, xs, h1', d1⟩ fun σ2 Hc2 H2 s2 R2 o2 => by
      have R3 := R2.view o2 (i := i) (by rw [List.getElem?_set_self hi])
      rw [List.set_set] at R3
      refine h2 D σ2 (vw a Hc2 H2) H2 (vw_same s2.sub) R3 (w.step ⟨fun b x e => vw_up o2.out b x (s2.cc b x (s1.cc b x e)), fun b x e => s2.hh b x (fun z => by rw [z, hH] at e; cases e) (s1.hh b x e), vw_same s2.sub, fun b x1 x2 x3 => ?_⟩)
      have hb : b ≠ a := fun z => x2 (by rw [z]; exact hH)
      unfold vw
      rw [if_neg hb]
      cases e : H b with
      | none => exact absurd e x2
      | some o => exact s2.fr b hb (s1.fr b x1 x2 x3) (by rw [s1.hh b o e]; exact fun z => nomatch z) (fun xs => by rw [s1.hh b o e, ← e]; exact x3 xs)
end
end PH

set_option Elab.async false
set_option linter.all false
set_option maxRecDepth 100000
set_option maxHeartbeats 1000000
namespace PH
open PySem PySem.Spec PyProof.Rows L2
def leftP (a b p : Pl) : Bool := !decide (turn a b p ≤ 0)
def chainP (ps : List Pl) : List Pl := Geo.chain leftP ps
def stD (st : List Pl) : List PyData := st.reverse.map plD
theorem stD_len (st : List Pl) : (stD st).length = st.length := by simp [stD]
theorem stD_push (st : List Pl) (p : Pl) : stD (p :: st) = stD st ++ [plD p] := by simp [stD]
theorem stD_pop (st : List Pl) (p : Pl) : (stD (p :: st)).dropLast = stD st := by rw [stD_push, List.dropLast_concat]
theorem atI_neg {α : Type} {xs : List α} {k : Nat} (h0 : 0 < k) (h : k ≤ xs.length) : atI xs (-(k : Int)) = xs[xs.length - k]? := by
  unfold atI ixN
  rw [if_neg (by omega), if_pos (by omega)]
  show xs[(-(k : Int) + (xs.length : Int)).toNat]? = _
  congr 1
  omega
theorem at1 (st : List Pl) (b : Pl) : atI (stD (b :: st)) (-1) = some (plD b) := by
  refine (atI_neg (k := 1) (by decide) (by rw [stD_len, List.length_cons]; omega)).trans ?_
  rw [stD_len, stD_push, List.length_cons, List.getElem?_append_right (by rw [stD_len]; omega), stD_len]
  rw [show st.length + 1 - 1 - st.length = 0 by omega] <;> rfl
theorem at2 (st : List Pl) (a b : Pl) : atI (stD (b :: a :: st)) (-2) = some (plD a) := by
  refine (atI_neg (k := 2) (by decide) (by rw [stD_len, List.length_cons, List.length_cons]; omega)).trans ?_
  rw [stD_len, stD_push, List.length_cons, List.length_cons, List.getElem?_append_left (by rw [stD_len, List.length_cons]; omega), stD_push, List.getElem?_append_right (by rw [stD_len]; omega), stD_len]
  rw [show st.length + 1 + 1 - 2 - st.length = 0 by omega] <;> rfl
section
variable {P : Program} {w : World} {K : PySem.W.Frag} {mg : Str → Option Value} {base : Heap}
theorem sc_chain : FnScope ["places", "found", "p"] ["places"] (defScope (topS 37)) := ⟨rfl, rfl, rfl, by decide +kernel, rfl, by decide +kernel, by decide +kernel⟩
def R_chain (ds : List PyData) (d : PyData) : Prop := ∃ (ps : List Pl) (n : Nat), ds = [.list (ps.map plD)] ∧ ps.length ≤ 1000 ∧ n ≤ 4400 ∧ (∀ p ∈ ps, PlOk n p) ∧ d = .list ((chainP ps).map plD)
theorem popw_sub {left : Pl → Pl → Pl → Bool} (p : Pl) : ∀ st : List Pl, ∀ x ∈ Geo.popw left p st, x ∈ st
  | [], x, h => h
  | [b], x, h => h
  | b :: a :: s, x, h => by
    unfold Geo.popw at h
    split at h
    · exact h
    · exact List.mem_cons_of_mem _ (popw_sub p (a :: s) x h)
theorem popw_len {left : Pl → Pl → Pl → Bool} (p : Pl) : ∀ st : List Pl, (Geo.popw left p st).length ≤ st.length
  | [] => Nat.le_refl _
  | [b] => Nat.le_refl _
  | b :: a :: s => by
    unfold Geo.popw
    split
    · exact Nat.le_refl _
    · have := popw_len (left := left) p (a :: s)
      rw [List.length_cons]; omega
theorem D1M.is {X : Cx} {a : Addr} {st : Stmt} {ρ ρ1 : En} {ds ds1 ds2 : List PyData} (h : D1M X a st ρ ds ρ1 ds1) (q : ds1 = ds2) : D1M X a st ρ ds ρ1 ds2 := q ▸ h
/-- whether the top goes -/
def popped (p : Pl) : List Pl → Bool
  | b :: a :: _ => decide (turn a b p ≤ 0)
  | _ => false
theorem chain_while {X : Cx} {a : Addr} {c : Expr} {body : List Stmt} {d0 : PyData} {n : Nat} {p : Pl}
    (test : ∀ st : List Pl, (∀ x ∈ st, PlOk n x) → DT X c [some d0, some (.list (stD st)), some (plD p)] (popped p st))
    (pop : ∀ ds : List PyData, ds ≠ [] → DSM X a body [some d0, some (oq a), some (plD p)] ds [some d0, some (oq a), some (plD p)] ds.dropLast) :
    ∀ st : List Pl, (∀ x ∈ st, PlOk n x) → WhM (fun ρ ds k => ρ[1]? = some (some (oq a)) ∧ DT X c (ρ.set 1 (some (.list ds))) k) (DSM X a body) st.length [some d0, some (oq a), some (plD p)] (stD st) [some d0, some (oq a), some (plD p)] (stD (Geo.popw leftP p st))
  | [], h => .done ⟨rfl, test [] h⟩
  | [b], h => .done ⟨rfl, test [b] h⟩
  | b :: a' :: st, h => by
    have t := test (b :: a' :: st) h
    unfold Geo.popw leftP
    by_cases e : turn a' b p ≤ 0
    · have e1 : popped p (b :: a' :: st) = true := decide_eq_true e
      rw [e1] at t
      rw [if_neg (by simp [e])]
      refine .turn ⟨rfl, t⟩ (pop _ (by rw [stD_push]; simp)) ?_
      rw [stD_pop]
      exact chain_while test pop (a' :: st) fun x hx => h x (List.mem_cons_of_mem _ hx)
    · have e1 : popped p (b :: a' :: st) = false := decide_eq_false e
      rw [e1] at t
      rw [if_pos (by simp [e])]
      exact .done ⟨rfl, t⟩
def lz (z : Option PyData) : List Pl → Option PyData
  | [] => z
  | p :: ps => lz (some (plD p)) ps
theorem chain_for {X : Cx} {a : Addr} {body : List Stmt} {d0 : PyData} {n : Nat}
    (step : ∀ (p : Pl) (st : List Pl), PlOk n p → (∀ x ∈ st, PlOk n x) → st.length < 100000 → DSM X a body [some d0, some (oq a), some (plD p)] (stD st) [some d0, some (oq a), some (plD p)] (stD (Geo.pushc leftP st p))) :
    ∀ (ps st : List Pl) (z : Option PyData), (∀ x ∈ ps, PlOk n x) → (∀ x ∈ st, PlOk n x) → ps.length + st.length ≤ 100000 → FoM (fun x ρ ρ1 => Bd (gName 2) ρ (plD x) ρ1 [2]) (DSM X a body) ps [some d0, some (oq a), z] (stD st) [some d0, some (oq a), lz z ps] (stD (ps.foldl (Geo.pushc leftP) st))
  | [], st, z, _, _, _ => .nil
  | p :: ps, st, z, h1, h2, hl => by
    rw [List.length_cons] at hl
    have s := step p st (h1 p List.mem_cons_self) h2 (by omega)
    have ih := chain_for step ps (Geo.pushc leftP st p) (some (plD p)) (fun x hx => h1 x (List.mem_cons_of_mem _ hx))
      (fun x hx => (List.mem_cons.mp hx).elim (fun e => e ▸ h1 p List.mem_cons_self) fun m => h2 x (popw_sub p st x m)) (by
        have := popw_len (left := leftP) p st
        show _ + (Geo.popw leftP p st).length.succ ≤ _
        omega)
    exact .next (bd_name (by decide)) s ih
theorem kn_chain (T : Top mg) (F : Fd K mg "chain" (topS 37) ["places"]) (G : Kn P w K mg base "turn" 4 R_turn) : Kn P w K mg base "chain" 5 R_chain := by
  refine kn F sc_chain (by rintro ds d ⟨a, b, rfl, _⟩; rfl) fun f cdv A outer s H E hr ds d => ?_
  rintro ⟨ps, n, rfl, hl, hn, hp, rfl⟩
  refine ds_own (i := 1) (ρ2 := [some (.list (ps.map plD)), none, lz none ps]) (ds := []) (ds1 := (chainP ps).map plD) (ps_set sc_chain.nd rfl (.inl rfl) (pe_lst pa_nil) rfl (.inr rfl)) eo_nil (fun a => m_for (xs := ps) (enc := plD) (g := gName 2) (vs := [2]) rfl (di_list (d_v 0)) (pg_name (i := 2) sc_chain.nd rfl (.inl rfl))
    (chain_for (n := n) (fun p st hpp hst hle => m_cons (m_while (i := 1) (chain_while (n := n) (fun st' h' => ?_) (fun ds hne => m_cons (m_pop (i := 1) rfl hne) m_nil) st hst)) (m_cons (D1M.is (m_append (i := 1) (d_v 2) rfl ?_) ?_) m_nil)) ps [] none hp (by simp) (by simp; omega)))
    (by show 1 < 3; decide) (ds_rt (s_ret (d_v 1)))
  · match st', h' with
    | [], h' => exact DT.is (t_and (l := false) (t_gt (d_lenL T (d_v 1)) d_int) (fun z => by simp [stD] at z)) rfl
    | [b], h' => exact DT.is (t_and (l := false) (t_gt (d_lenL T (d_v 1)) d_int) (fun z => by simp [stD] at z)) (Bool.and_false _)
    | b :: a' :: st', h' => exact DT.is (t_and (t_gt (d_lenL T (d_v 1)) d_int) (fun _ => t_le (d_call G hr (da_cons (d_ixL (at2 st' a' b) (d_v 1) (d_neg d_int)) (da_cons (d_ixL (at1 (a' :: st') b) (d_v 1) (d_neg d_int)) (da_cons (d_v 2) da_nil)))
        ⟨a', b, p, n, rfl, hn, h' a' (by simp), h' b (by simp), hpp, rfl⟩) d_int)) (by rw [stD_len, List.length_cons, List.length_cons]; show (decide ((1 : Int) < _) && popped p (b :: a' :: st')) = _; rw [decide_eq_true (by omega), Bool.true_and])
  · rw [stD_len]
    have := popw_len (left := leftP) p st
    omega
  · exact (stD_push _ _).symm
end
end PH

set_option Elab.async false
set_option linter.all false
set_option maxRecDepth 100000
set_option maxHeartbeats 1000000
namespace PH
open PySem PySem.Spec PyProof.Rows L2
/-! ### data that is equal -/
theorem eqv_pl (p q : Pl) : PyData.eqv (plD p) (plD q) = decide (p = q) := by
  obtain ⟨a, b, c⟩ := p
  obtain ⟨x, y, z⟩ := q
  rw [Bool.eq_iff_iff]
  simp [plD, PyData.eqv, PyData.eqvAll]
theorem eqv_pr (p q : Pr) : PyData.eqv (prD p) (prD q) = decide (p = q) := by
  obtain ⟨a, b⟩ := p
  obtain ⟨x, y⟩ := q
  rw [Bool.eq_iff_iff]
  simp [prD, PyData.eqv, PyData.eqvAll]
theorem eqvAll_pl : ∀ ps qs : List Pl, PyData.eqvAll (ps.map plD) (qs.map plD) = decide (ps = qs)
  | [], [] => rfl
  | [], _ :: _ => by simp [PyData.eqvAll]
  | _ :: _, [] => by simp [PyData.eqvAll]
  | p :: ps, q :: qs => by
    rw [List.map_cons, List.map_cons, PyData.eqvAll, eqv_pl, eqvAll_pl ps qs, Bool.eq_iff_iff]
    simp
def pgD (ps : List Pl) : PyData := .tuple (ps.map plD)
theorem eqv_pg (ps qs : List Pl) : PyData.eqv (pgD ps) (pgD qs) = decide (ps = qs) := by
  unfold pgD; rw [PyData.eqv]; exact eqvAll_pl ps qs
theorem eqv_pls (ps qs : List Pl) : PyData.eqv (.list (ps.map plD)) (.list (qs.map plD)) = decide (ps = qs) := by
  rw [PyData.eqv]; exact eqvAll_pl ps qs
theorem dep_pl (p : Pl) : (plD p).depth = 1 := by simp [plD, PyData.depth, PyData.depthAll]
theorem dep_all : ∀ ps : List Pl, PyData.depthAll (ps.map plD) ≤ 1
  | [] => by simp [PyData.depthAll]
  | p :: ps => by
    have := dep_all ps
    rw [List.map_cons, PyData.depthAll, dep_pl]
    omega
theorem sh_pl (p : Pl) : SeqAt.shaped (plD p) = true := by
  unfold SeqAt.shaped
  rw [can_pl, dep_pl]; decide
theorem sh_pr (p : Pr) : SeqAt.shaped (prD p) = true := by
  unfold SeqAt.shaped
  rw [can_pr]
  simp [prD, PyData.depth, PyData.depthAll]
theorem sh_pls (ps : List Pl) : SeqAt.shaped (.list (ps.map plD)) = true := by
  have := dep_all ps
  exact Bool.and_eq_true_iff.mpr ⟨can_all can_pl ps, decide_eq_true (show PyData.depthAll (ps.map plD) + 1 ≤ 64 by omega)⟩
theorem sh_pg (ps : List Pl) : SeqAt.shaped (pgD ps) = true := by
  have := dep_all ps
  exact Bool.and_eq_true_iff.mpr ⟨can_all can_pl ps, decide_eq_true (show PyData.depthAll (ps.map plD) + 1 ≤ 64 by omega)⟩
def AllOk (n : Nat) (ps : List Pl) : Prop := ∀ p ∈ ps, PlOk n p
theorem AllOk.mono {m n : Nat} {ps : List Pl} (h : AllOk m ps) (l : m ≤ n) : AllOk n ps := fun p hp => (h p hp).mono l
def hullP (ps : List Pl) : List Pl := if (srt ps).length = 1 then srt ps else (chainP (srt ps)).dropLast ++ (chainP (srt ps).reverse).dropLast
theorem chain_sub {left : Pl → Pl → Pl → Bool} (ps : List Pl) : ∀ x ∈ Geo.chain left ps, x ∈ ps := by
  have : ∀ (ps st : List Pl) x, x ∈ ps.foldl (Geo.pushc left) st → x ∈ ps ∨ x ∈ st := by
    intro ps
    induction ps with
    | nil => intro st x h; exact .inr h
    | cons p ps ih =>
      intro st x h
      rcases ih _ x h with h | h
      · exact .inl (List.mem_cons_of_mem _ h)
      · rcases List.mem_cons.mp h with h | h
        · exact .inl (h ▸ List.mem_cons_self)
        · exact .inr (popw_sub p st x h)
  intro x h
  rcases this ps [] x (List.mem_reverse.mp h) with h | h
  · exact h
  · cases h
theorem chain_len {left : Pl → Pl → Pl → Bool} (ps : List Pl) : (Geo.chain left ps).length ≤ ps.length := by
  have : ∀ (ps st : List Pl), (ps.foldl (Geo.pushc left) st).length ≤ st.length + ps.length := by
    intro ps
    induction ps with
    | nil => intro st; simp
    | cons p ps ih =>
      intro st
      have h1 := ih (Geo.pushc left st p)
      have h2 := popw_len (left := left) p st
      have h3 : (Geo.pushc left st p).length = (Geo.popw left p st).length + 1 := rfl
      rw [List.foldl_cons, List.length_cons]
      omega
  unfold Geo.chain Geo.stack
  rw [List.length_reverse]
  simpa using this ps []
theorem hullP_sub {ps : List Pl} {p : Pl} (h : p ∈ hullP ps) : p ∈ ps := by
  unfold hullP at h
  split at h
  · exact srt_mem.mp h
  · rcases List.mem_append.mp h with h | h
    · exact srt_mem.mp (chain_sub _ _ ((List.dropLast_sublist _).subset h))
    · exact srt_mem.mp (List.mem_reverse.mp (chain_sub _ _ ((List.dropLast_sublist _).subset h)))
theorem hullP_ok {n : Nat} {ps : List Pl} (h : AllOk n ps) : AllOk n (hullP ps) := fun p hp => h p (hullP_sub hp)
section
variable {P : Program} {w : World} {K : PySem.W.Frag} {mg : Str → Option Value} {base : Heap}
theorem sc_hull : FnScope ["places", "some"] ["places"] (defScope (topS 38)) := ⟨rfl, rfl, rfl, by decide +kernel, rfl, by decide +kernel, by decide +kernel⟩
def R_hull (ds : List PyData) (d : PyData) : Prop := ∃ (ps : List Pl) (n : Nat) (t : Bool), ds = [sqD t (ps.map plD)] ∧ ps ≠ [] ∧ ps.length ≤ 64 ∧ n ≤ 4400 ∧ AllOk n ps ∧ d = pgD (hullP ps)
theorem kn_hull (T : Top mg) (F : Fd K mg "hull" (topS 38) ["places"]) (G : Kn P w K mg base "in_order" 3 R_inOrder) (G2 : Kn P w K mg base "chain" 5 R_chain) : Kn P w K mg base "hull" 6 R_hull := by
  refine kn F sc_hull (by rintro ds d ⟨a, b, t, rfl, _⟩; rfl) fun f cdv A outer s H E hr ds d => ?_
  rintro ⟨ps, n, t, rfl, hne, hl, hn, hp, rfl⟩
  have hl2 := srt_len ps
  have hp2 : ∀ p ∈ srt ps, PlOk n p := fun p h => hp p (srt_mem.mp h)
  have hne2 : srt ps ≠ [] := by
    obtain ⟨p, hp'⟩ := List.exists_mem_of_ne_nil ps hne
    intro e
    have := srt_mem.mpr hp'
    rw [e] at this
    cases this
  have c1 := chain_len (left := leftP) (srt ps)
  have c2 := chain_len (left := leftP) (srt ps).reverse
  rw [List.length_reverse] at c2
  refine ds_cons (s_set 1 sc_hull.nd (d_call G (hr.mono (by decide)) (da_cons (d_v 0) da_nil) ⟨ps, n, t, rfl, hl, hn, hp, rfl⟩))
    (ds_cons (s_skip (DT.is (t_eqD (units64 hr) (x := .list ((srt ps).map plD)) (y := .list []) (sh_pls _) (sh_pls []) (d_v 1) (d_lst da_nil)) ((eqv_pls (srt ps) []).trans (decide_eq_false hne2))))
    (ds_rt (s_ret (d_if (k := decide ((srt ps).length = 1)) (DT.is (t_eqI (d_lenL T (d_v 1)) d_int) (by rw [List.length_map]; exact decide_eq_decide.mpr (by omega))) (fun h => ?_) fun h => ?_))))
  · refine DE.is (d_tuple T (d_v 1)) ?_
    unfold pgD hullP
    rw [if_pos (of_decide_eq_true h)]
  · refine DE.is (d_tuple T (d_cat (d_dl (d_call G2 hr (da_cons (d_v 1) da_nil) ⟨srt ps, n, rfl, by omega, hn, hp2, rfl⟩)) (d_dl (d_call G2 hr (da_cons (d_rev (d_v 1)) da_nil) ⟨(srt ps).reverse, n, by rw [List.map_reverse], by rw [List.length_reverse]; omega, hn, fun p h => hp2 p (List.mem_reverse.mp h), rfl⟩)) ?_)) ?_
    · have d1 := List.length_dropLast (xs := ((chainP (srt ps)).map plD))
      have d2 := List.length_dropLast (xs := ((chainP (srt ps).reverse).map plD))
      rw [List.length_map] at d1 d2
      unfold chainP at *
      omega
    · unfold pgD hullP
      rw [if_neg (of_decide_eq_false h), List.map_append, List.map_dropLast, List.map_dropLast]
def R_isPlate (ds : List PyData) (d : PyData) : Prop := ∃ (ps : List Pl) (n : Nat), ds = [pgD ps] ∧ ps ≠ [] ∧ ps.length ≤ 64 ∧ n ≤ 4400 ∧ AllOk n ps ∧ d = .bool (decide (hullP ps = ps))
theorem sc_isPlate : FnScope ["value", "one"] ["value"] (defScope (topS 39)) := ⟨rfl, rfl, rfl, by decide +kernel, rfl, by decide +kernel, by decide +kernel⟩
theorem kn_isPlate (T : Top mg) (F : Fd K mg "is_plate" (topS 39) ["value"]) (G : Kn P w K mg base "hull" 6 R_hull) (G2 : Kn P w K mg base "is_place" 3 R_isPlace) : Kn P w K mg base "is_plate" 7 R_isPlate := by
  refine kn F sc_isPlate (by rintro ds d ⟨a, b, rfl, _⟩; rfl) fun f cdv A outer s H E hr ds d => ?_
  rintro ⟨ps, n, rfl, hne, hl, hn, hp, rfl⟩
  refine ds_cons (s_skip (DT.is (t_or3 (k := false) (l := false) (m := false) (DT.is (t_not (t_v (d_isTup T (d_v 0)))) rfl) (fun _ => DT.is (t_eqD (units64 hr) (x := pgD ps) (y := .tuple []) (sh_pg _) (sh_pg []) (d_v 0) (d_tup da_nil)) ((eqv_pg ps []).trans (decide_eq_false hne))) fun _ _ => ?_) rfl))
    (ds_rt (s_ret (DE.is (d_eqD (units64 hr) (sh_pg (hullP ps)) (sh_pg ps) (d_call G hr (da_cons (d_v 0) da_nil) ⟨ps, n, true, rfl, hne, hl, hn, hp, rfl⟩) (d_v 0)) (congrArg PyData.bool (eqv_pg _ _)))))
  refine DT.is (t_not (t_v (d_all T (bs := ps.map fun _ => true) rfl (DE.is (d_lc (own := [("one", 1)]) (g := gName 1) (xs := ps) (enc := plD) (f := fun _ => .bool true) rfl sc_isPlate.nd (bk (by decide +kernel)) (di_tup (d_v 0)) (fun _ _ _ _ _ => pg_name (i := 1) sc_isPlate.nd rfl (Or.inl rfl)) (fun _ _ => bd_name (by decide))
    (fun p hp1 _ _ _ _ _ => d_call G2 (hr.mono (by decide)) (da_cons (d_v 1) da_nil) ⟨p, n, rfl, hp p hp1, rfl⟩) (by omega)) (by rw [List.map_map] <;> rfl))))) ?_
  simp
end
end PH

set_option Elab.async false
set_option linter.all false
set_option maxRecDepth 100000
set_option maxHeartbeats 1000000
namespace PH
open PySem PySem.Spec PyProof.Rows L2
section
variable {X : Cx} {ρ : En} {rest sa : List Stmt} {c : Expr} {pos : Pos} {d : PyData} {k : Bool}
/-- if t: return .. -/
theorem ds_cond (h : DT X c ρ k) (h1 : k = true → DS X sa ρ (.rt d)) (h2 : k = false → DS X rest ρ (.rt d)) : DS X (.If c sa [] pos :: rest) ρ (.rt d) := ds_of (pss_cons (ps_if (pt_self X c) (pss_self X sa) pss_nil) (pss_self X rest)) fun D σ Hc H s R w => h σ Hc H s R _ fun Hc1 H1 s1 => by
  cases k with
  | true => exact h1 rfl { D with nx := tsOf X rest D } σ Hc1 H1 s1.sub (R.mono s1.cc) (Wish.step (o := .rt d) s1 w)
  | false => exact h2 rfl D σ Hc1 H1 s1.sub (R.mono s1.cc) (Wish.step (o := .rt d) s1 w)
end
def rot (ps : List Pl) : List Pl := ps.drop 1 ++ ps.take 1
theorem rot_len (ps : List Pl) : (rot ps).length = ps.length := by
  unfold rot; rw [List.length_append, List.length_drop, List.length_take]; omega
def nbrs (ps : List Pl) : List (Pl × Pl) := (ps.zip (rot ps)).filter fun e => !decide (e.1 = e.2)
def edD (e : Pl × Pl) : PyData := .tuple [plD e.1, plD e.2]
theorem nbrs_len (ps : List Pl) : (nbrs ps).length ≤ ps.length := by
  have h1 := List.length_filter_le (fun e : Pl × Pl => !decide (e.1 = e.2)) (ps.zip (rot ps))
  have h2 : (ps.zip (rot ps)).length ≤ ps.length := by rw [List.length_zip]; omega
  unfold nbrs
  omega
theorem rot_mem {ps : List Pl} {p : Pl} (h : p ∈ rot ps) : p ∈ ps := by
  unfold rot at h
  rcases List.mem_append.mp h with h | h
  · exact List.mem_of_mem_drop h
  · exact List.mem_of_mem_take h
theorem nbrs_mem {ps : List Pl} {e : Pl × Pl} (h : e ∈ nbrs ps) : e.1 ∈ ps ∧ e.2 ∈ ps ∧ e.1 ≠ e.2 := by
  unfold nbrs at h
  obtain ⟨h1, h2⟩ := List.mem_filter.mp h
  obtain ⟨a, b⟩ := e
  obtain ⟨h3, h4⟩ := List.of_mem_zip h1
  exact ⟨h3, rot_mem h4, by simpa using h2⟩
def hasPlace (ps : List Pl) (p : Pl) : Bool := (nbrs ps).all (fun e => decide (0 ≤ turn e.1 e.2 p)) && (decide (2 < ps.length) || (!comesFirst p (ps.headD (0, 0, 1)) && !comesFirst (ps.getLastD (0, 0, 1)) p))
def sideOf (e : Pl × Pl) : Pr × Pl × Pl := (back (quarter (towards e.1 e.2)), e.1, e.2)
def sidesP (ps : List Pl) : List (Pr × Pl × Pl) := (nbrs ps).map sideOf
def sdD (s : Pr × Pl × Pl) : PyData := .tuple [prD s.1, plD s.2.1, plD s.2.2]
theorem zip_map_pl : ∀ (ps qs : List Pl), (ps.map plD).zip (qs.map plD) = (ps.zip qs).map fun e => (plD e.1, plD e.2)
  | [], _ => rfl
  | _ :: _, [] => rfl
  | p :: ps, q :: qs => by rw [List.map_cons, List.map_cons, List.zip_cons_cons, List.zip_cons_cons, zip_map_pl, List.map_cons]
section
variable {P : Program} {w : World} {K : PySem.W.Frag} {mg : Str → Option Value} {base : Heap}
def R_neighbours (ds : List PyData) (d : PyData) : Prop := ∃ ps : List Pl, ds = [pgD ps] ∧ ps.length ≤ 1000 ∧ d = .list ((nbrs ps).map edD)
theorem sc_neighbours : FnScope ["plate", "p", "q"] ["plate"] (defScope (topS 40)) := ⟨rfl, rfl, rfl, by decide +kernel, rfl, by decide +kernel, by decide +kernel⟩
theorem kn_neighbours (T : Top mg) (F : Fd K mg "neighbours" (topS 40) ["plate"]) : Kn P w K mg base "neighbours" 1 R_neighbours := by
  refine kn F sc_neighbours (by rintro ds d ⟨a, rfl, _⟩; rfl) fun f cdv A outer s H E hr ds d => ?_
  rintro ⟨ps, rfl, hl, rfl⟩
  have hz : ((ps.map plD).zip (((ps.map plD).drop 1) ++ ((ps.map plD).take 1))).map (fun q => PyData.tuple [q.1, q.2]) = (ps.zip (rot ps)).map edD := by
    rw [← List.map_drop, ← List.map_take, ← List.map_append, zip_map_pl, List.map_map]
    rfl
  have hzl : (ps.zip (rot ps)).length ≤ 1000 := by rw [List.length_zip]; omega
  exact ds_rt (s_ret (d_lcf (own := [("p", 1), ("q", 2)]) (g := gTup _ 2 (gCons (gName 1) (gCons (gName 2) gNil))) (xs := ps.zip (rot ps)) (enc := edD) (f := edD) (t := fun e => !decide (e.1 = e.2)) rfl sc_neighbours.nd (bk (by decide +kernel))
    (DI.is (di_zip T (d_v 0) (d_catT (d_tl (d_v 0)) (d_hd (d_v 0)) (by rw [List.length_drop, List.length_take, List.length_map]; omega)) (by rw [List.length_append, List.length_drop, List.length_take, List.length_map]; omega)) hz)
    (fun _ _ _ _ _ => pg_tup (n := 2) rfl (pgs_cons (pg_name (i := 1) sc_neighbours.nd rfl (.inl rfl)) (pgs_cons (pg_name (i := 2) sc_neighbours.nd rfl (.inl rfl)) pgs_nil)))
    (fun _ _ => bd_tup (bds_cons (bd_name (by decide)) (bds_cons (bd_name (by decide)) bds_nil)) rfl) (fun e _ _ _ _ _ _ => DT.is (t_neD (units64 hr) (sh_pl e.1) (sh_pl e.2) (d_v 1) (d_v 2)) (by rw [eqv_pl])) (fun e _ _ _ _ _ _ _ => d_tup (da_cons (d_v 1) (da_cons (d_v 2) da_nil))) (by omega)))
def R_hasPlace (ds : List PyData) (d : PyData) : Prop := ∃ (ps : List Pl) (p : Pl) (n : Nat), ds = [pgD ps, plD p] ∧ ps ≠ [] ∧ ps.length ≤ 1000 ∧ n ≤ 4400 ∧ AllOk n ps ∧ PlOk n p ∧ d = .bool (hasPlace ps p)
theorem sc_hasPlace : FnScope ["plate", "p", "one", "other"] ["plate", "p"] (defScope (topS 41)) := ⟨rfl, rfl, rfl, by decide +kernel, rfl, by decide +kernel, by decide +kernel⟩
theorem at_head {ps : List Pl} (h : ps ≠ []) : atI (ps.map plD) 0 = some (plD (ps.headD (0, 0, 1))) := by
  cases ps with
  | nil => exact absurd rfl h
  | cons p ps => simp [atI, ixN]
theorem at_last {ps : List Pl} (h : ps ≠ []) : atI (ps.map plD) (-1) = some (plD (ps.getLastD (0, 0, 1))) := by
  have hp := List.length_pos_iff.mpr h
  refine (atI_neg (k := 1) (by decide) (by rw [List.length_map]; omega)).trans ?_
  rw [List.length_map, List.getElem?_map, ← List.getLast?_eq_getElem?, List.getLastD_eq_getLast?]
  cases e : ps.getLast? with
  | none => exact absurd (List.getLast?_eq_none_iff.mp e) h
  | some x => rfl
theorem head_mem {ps : List Pl} (h : ps ≠ []) : ps.headD (0, 0, 1) ∈ ps := by
  cases ps with
  | nil => exact absurd rfl h
  | cons p ps => exact List.mem_cons_self
theorem last_mem {ps : List Pl} (h : ps ≠ []) : ps.getLastD (0, 0, 1) ∈ ps := by
  rw [List.getLastD_eq_getLast?]
  cases e : ps.getLast? with
  | none => exact absurd (List.getLast?_eq_none_iff.mp e) h
  | some x => exact List.mem_of_getLast? e
theorem kn_hasPlace (T : Top mg) (F : Fd K mg "has_place" (topS 41) ["plate", "p"]) (G : Kn P w K mg base "neighbours" 1 R_neighbours) (G2 : Kn P w K mg base "turn" 4 R_turn) (G3 : Kn P w K mg base "comes_first" 1 R_first) : Kn P w K mg base "has_place" 5 R_hasPlace := by
  refine kn F sc_hasPlace (by rintro ds d ⟨a, b, n, rfl, _⟩; rfl) fun f cdv A outer s H E hr ds d => ?_
  rintro ⟨ps, p, n, rfl, hne, hl, hn, hps, hp, rfl⟩
  have nl := nbrs_len ps
  have e0 : (((nbrs ps).map fun e => decide (0 ≤ turn e.1 e.2 p)).all id) = (nbrs ps).all (fun e => decide (0 ≤ turn e.1 e.2 p)) := by rw [List.all_map] <;> rfl
  refine ds_cond (t_not (t_v (d_all T (bs := (nbrs ps).map fun e => decide (0 ≤ turn e.1 e.2 p)) rfl (DE.is (d_lc (own := [("one", 2), ("other", 3)]) (g := gTup _ 2 (gCons (gName 2) (gCons (gName 3) gNil))) (xs := nbrs ps) (enc := edD) (f := fun e => .bool (decide (0 ≤ turn e.1 e.2 p))) rfl sc_hasPlace.nd (bk (by decide +kernel))
    (di_list (d_call G (hr.mono (by decide)) (da_cons (d_v 0) da_nil) ⟨ps, rfl, hl, rfl⟩)) (fun _ _ _ _ _ => pg_tup (n := 2) rfl (pgs_cons (pg_name (i := 2) sc_hasPlace.nd rfl (.inl rfl)) (pgs_cons (pg_name (i := 3) sc_hasPlace.nd rfl (.inl rfl)) pgs_nil)))
    (fun _ _ => bd_tup (bds_cons (bd_name (by decide)) (bds_cons (bd_name (by decide)) bds_nil)) rfl) (fun e he _ _ _ _ _ => d_ge (d_call G2 hr (da_cons (d_v 2) (da_cons (d_v 3) (da_cons (d_v 1) da_nil))) ⟨e.1, e.2, p, n, rfl, hn, hps _ (nbrs_mem he).1, hps _ (nbrs_mem he).2.1, hp, rfl⟩) d_int) (by omega)) (by rw [List.map_map] <;> rfl))))) (fun h => ?_) fun h => ?_
  · rw [e0, Bool.not_eq_true'] at h
    refine ds_rt (s_ret (DE.is d_bl ?_))
    unfold hasPlace
    rw [h, Bool.false_and]
  · rw [e0, Bool.not_eq_false'] at h
    refine ds_rt (s_ret (DE.is (d_or (d_gt (d_lenT T (d_v 0)) d_int) fun _ => d_and (d_not (d_call G3 (hr.mono (by decide)) (da_cons (d_v 1) (da_cons (d_ixT (at_head hne) (d_v 0) d_int) da_nil)) ⟨p, _, n, rfl, by omega, hp, hps _ (head_mem hne), rfl⟩)) fun _ => d_not (d_call G3 (hr.mono (by decide)) (da_cons (d_ixT (at_last hne) (d_v 0) (d_neg d_int)) (da_cons (d_v 1) da_nil)) ⟨_, p, n, rfl, by omega, hps _ (last_mem hne), hp, rfl⟩)) ?_))
    unfold hasPlace
    rw [h, Bool.true_and, List.length_map]
    congr 2
    exact decide_eq_decide.mpr (by omega)
end
end PH

set_option Elab.async false
set_option linter.all false
set_option maxRecDepth 100000
set_option maxHeartbeats 1000000
namespace PH
open PySem PySem.Spec PyProof.Rows L2
theorem side_ok {n : Nat} {ps : List Pl} {e : Pl × Pl} (h : AllOk n ps) (he : e ∈ nbrs ps) : DirOk (n + n + 1) (sideOf e).1 := back_ok (quarter_ok (towards_ok (h _ (nbrs_mem he).1) (h _ (nbrs_mem he).2.1) (nbrs_mem he).2.2))
def topStep (u : Pr) (f : Pr) (p : Pl) : Pr := if isLess f (height u p) = true then height u p else f
def topP (ps : List Pl) (u : Pr) : Pr := (ps.drop 1).foldl (topStep u) (height u (ps.headD (0, 0, 1)))
def bottomP (ps : List Pl) (u : Pr) : Pr := (-(topP ps (back u)).1, (topP ps (back u)).2)
def farthestP (ps : List Pl) (u : Pr) : List Pl := match (sidesP ps).find? fun s => decide (s.1 = u) with
  | some s => [s.2.1, s.2.2]
  | none => ps.filter fun p => decide (height u p = topP ps u)
def isMet (ps : List Pl) (h : Pl) : Bool := ps.any fun p => decide (0 ≤ depth h p)
theorem topStep_sm {n : Nat} {u f : Pr} {p : Pl} (hf : FrOk n f) (hp : FrOk n (height u p)) : FrOk n (topStep u f p) := by
  unfold topStep; split
  · exact hp
  · exact hf
theorem topP_ok {m n : Nat} {u : Pr} (hu : DirOk m u) {ps : List Pl} (hne : ps ≠ []) (h : AllOk n ps) : FrOk (m + n + 1) (topP ps u) := by
  have : ∀ (qs : List Pl) (f : Pr), AllOk n qs → FrOk (m + n + 1) f → FrOk (m + n + 1) (qs.foldl (topStep u) f) := by
    intro qs
    induction qs with
    | nil => intro f _ h; exact h
    | cons q qs ih => intro f hq hf; exact ih _ (fun p hp => hq p (List.mem_cons_of_mem _ hp)) (topStep_sm hf (height_sm hu (hq q List.mem_cons_self)))
  exact this _ _ (fun p hp => h p (List.mem_of_mem_drop hp)) (height_sm hu (h _ (head_mem hne)))
section
variable {P : Program} {w : World} {K : PySem.W.Frag} {mg : Str → Option Value} {base : Heap}
def R_sides (ds : List PyData) (d : PyData) : Prop := ∃ (ps : List Pl) (n : Nat), ds = [pgD ps] ∧ ps.length ≤ 1000 ∧ n ≤ 4400 ∧ AllOk n ps ∧ d = .list ((sidesP ps).map sdD)
theorem sc_sides : FnScope ["plate", "p", "q"] ["plate"] (defScope (topS 42)) := ⟨rfl, rfl, rfl, by decide +kernel, rfl, by decide +kernel, by decide +kernel⟩
theorem kn_sides (F : Fd K mg "sides" (topS 42) ["plate"]) (G : Kn P w K mg base "neighbours" 1 R_neighbours) (G2 : Kn P w K mg base "towards" 4 R_towards) (G3 : Kn P w K mg base "quarter" 1 (R_pr quarter)) (G4 : Kn P w K mg base "back" 1 (R_pr back)) : Kn P w K mg base "sides" 5 R_sides := by
  refine kn F sc_sides (by rintro ds d ⟨a, n, rfl, _⟩; rfl) fun f cdv A outer s H E hr ds d => ?_
  rintro ⟨ps, n, rfl, hl, hn, hps, rfl⟩
  have nl := nbrs_len ps
  exact ds_rt (s_ret (DE.is (d_lc (own := [("p", 1), ("q", 2)]) (g := gTup _ 2 (gCons (gName 1) (gCons (gName 2) gNil))) (xs := nbrs ps) (enc := edD) (f := fun e => sdD (sideOf e)) rfl sc_sides.nd (bk (by decide +kernel))
    (di_list (d_call G (hr.mono (by decide)) (da_cons (d_v 0) da_nil) ⟨ps, rfl, hl, rfl⟩)) (fun _ _ _ _ _ => pg_tup (n := 2) rfl (pgs_cons (pg_name (i := 1) sc_sides.nd rfl (.inl rfl)) (pgs_cons (pg_name (i := 2) sc_sides.nd rfl (.inl rfl)) pgs_nil)))
    (fun _ _ => bd_tup (bds_cons (bd_name (by decide)) (bds_cons (bd_name (by decide)) bds_nil)) rfl) (fun e he _ _ _ _ _ => d_tup (da_cons (d_call G4 (hr.mono (by decide)) (da_cons (d_call G3 (hr.mono (by decide)) (da_cons (d_call G2 hr (da_cons (d_v 1) (da_cons (d_v 2) da_nil)) ⟨e.1, e.2, n, rfl, hn, hps _ (nbrs_mem he).1, hps _ (nbrs_mem he).2.1, (nbrs_mem he).2.2, rfl⟩) da_nil) ⟨_, rfl, rfl⟩) da_nil) ⟨_, rfl, rfl⟩) (da_cons (d_v 1) (da_cons (d_v 2) da_nil)))) (by omega)) (by unfold sidesP; rw [List.map_map] <;> rfl)))
def R_top (g : List Pl → Pr → Pr) (ds : List PyData) (d : PyData) : Prop := ∃ (ps : List Pl) (u : Pr) (m n : Nat), ds = [pgD ps, prD u] ∧ ps ≠ [] ∧ m ≤ 9000 ∧ n ≤ 8999 ∧ AllOk n ps ∧ DirOk m u ∧ d = prD (g ps u)
theorem sc_top : FnScope ["plate", "u", "found", "p", "here"] ["plate", "u"] (defScope (topS 43)) := ⟨rfl, rfl, rfl, by decide +kernel, rfl, by decide +kernel, by decide +kernel⟩
theorem top_for {X : Cx} {body : List Stmt} {d0 d1 : PyData} {u : Pr} {m n : Nat} (hu : DirOk m u) (step : ∀ (f : Pr) (p : Pl) (z : Option PyData), FrOk (m + n + 1) f → PlOk n p → DS X body [some d0, some d1, some (prD f), some (plD p), z] (.nx [some d0, some d1, some (prD (topStep u f p)), some (plD p), some (prD (height u p))])) :
    ∀ (ps : List Pl) (f : Pr) (y z : Option PyData), AllOk n ps → FrOk (m + n + 1) f → ∃ y' z', ForR (fun x ρ ρ1 => Bd (gName 3) ρ (plD x) ρ1 [3]) (DS X body) ps [some d0, some d1, some (prD f), y, z] (.nx [some d0, some d1, some (prD (ps.foldl (topStep u) f)), y', z'])
  | [], f, y, z, _, _ => ⟨y, z, .nil⟩
  | p :: ps, f, y, z, h, hf => by
    have hp := h p List.mem_cons_self
    obtain ⟨y', z', ih⟩ := top_for hu step ps (topStep u f p) (some (plD p)) (some (prD (height u p))) (fun q hq => h q (List.mem_cons_of_mem _ hq)) (topStep_sm hf (height_sm hu hp))
    exact ⟨y', z', .next (bd_name (by decide)) (step f p z hf hp) ih⟩
theorem kn_top (F : Fd K mg "top" (topS 43) ["plate", "u"]) (G : Kn P w K mg base "height" 2 R_height) (G2 : Kn P w K mg base "is_less" 1 R_isLess) : Kn P w K mg base "top" 3 (R_top topP) := by
  refine kn F sc_top (by rintro ds d ⟨a, b, m, n, rfl, _⟩; rfl) fun f cdv A outer s H E hr ds d => ?_
  rintro ⟨ps, u, m, n, rfl, hne, hm, hn, hps, hu, rfl⟩
  obtain ⟨y', z', hf⟩ := top_for (X := cxD P w K mg base ["plate", "u", "found", "p", "here"] "top" (topS 43) f cdv A outer s H E) (d0 := pgD ps) (d1 := prD u) (n := n) hu (fun f p z hf hp => ds_cons (s_set 4 sc_top.nd (d_call G hr (da_cons (d_v 1) (da_cons (d_v 3) da_nil)) ⟨u, p, m, n, rfl, hm, hn, hu, hp, rfl⟩))
    (ds_cons (s_set 2 sc_top.nd (d := prD (topStep u f p)) (d_if (t_v (d_call G2 (hr.mono (by decide)) (da_cons (d_v 2) (da_cons (d_v 4) da_nil)) ⟨f, height u p, m + n + 1, rfl, by omega, hf.p, hf.q, (height_sm hu hp).p, (height_sm hu hp).q, rfl⟩))
      (fun h => DE.is (d_v 4) (by unfold topStep; rw [if_pos h])) fun h => DE.is (d_v 2) (by unfold topStep; rw [if_neg (by simp [h])]))) ds_nil)) (ps.drop 1) (height u (ps.headD (0, 0, 1))) none none (fun p hp => hps p (List.mem_of_mem_drop hp)) (height_sm hu (hps _ (head_mem hne)))
  exact ds_cons (s_set 2 sc_top.nd (d_call G hr (da_cons (d_v 1) (da_cons (d_ixT (at_head hne) (d_v 0) d_int) da_nil)) ⟨u, _, m, n, rfl, hm, hn, hu, hps _ (head_mem hne), rfl⟩))
    (ds_cons (s_for (vs := [3]) (xs := ps.drop 1) (enc := plD) rfl (DI.is (di_tup (d_tl (d_v 0))) (by rw [List.map_drop])) (pg_name (i := 3) sc_top.nd rfl (.inl rfl)) hf) (ds_rt (s_ret (d_v 2))))
theorem sc_bottom : FnScope ["plate", "u", "p", "q"] ["plate", "u"] (defScope (topS 44)) := ⟨rfl, rfl, rfl, by decide +kernel, rfl, by decide +kernel, by decide +kernel⟩
theorem kn_bottom (F : Fd K mg "bottom" (topS 44) ["plate", "u"]) (G : Kn P w K mg base "top" 3 (R_top topP)) (G2 : Kn P w K mg base "back" 1 (R_pr back)) : Kn P w K mg base "bottom" 4 (R_top bottomP) := by
  refine kn F sc_bottom (by rintro ds d ⟨a, b, m, n, rfl, _⟩; rfl) fun f cdv A outer s H E hr ds d => ?_
  rintro ⟨ps, u, m, n, rfl, hne, hm, hn, hps, hu, rfl⟩
  exact ds_cons (s_asg (vs := [2, 3]) (d_call G hr (da_cons (d_v 0) (da_cons (d_call G2 (hr.mono (by decide)) (da_cons (d_v 1) da_nil) ⟨u, rfl, rfl⟩) da_nil)) ⟨ps, back u, m, n, rfl, hne, hm, hn, hps, back_ok hu, rfl⟩) (pg_tup (n := 2) rfl (pgs_cons (pg_name (i := 2) sc_bottom.nd rfl (.inl rfl)) (pgs_cons (pg_name (i := 3) sc_bottom.nd rfl (.inl rfl)) pgs_nil)))
    (bd_tup (bds_cons (bd_name (by decide)) (bds_cons (bd_name (by decide)) bds_nil)) rfl)) (ds_rt (s_ret (d_tup (da_cons (d_neg (d_v 2)) (da_cons (d_v 3) da_nil)))))
end
end PH

set_option Elab.async false
set_option linter.all false
set_option maxRecDepth 100000
set_option maxHeartbeats 1000000
namespace PH
open PySem PySem.Spec PyProof.Rows L2
/-! ### the new list of a comprehension -/
structure Acc (D : Addr) (Hc1 H1 Hc2 H2 : Hp) (acc : List V) (ds : List PyData) : Prop where
  st : Step Hc1 H1 Hc2 H2
  out : Hc2 D = none
  at_ : H2 D = some (.lst acc)
  dq : DqA Hc2 acc ds
theorem Acc.step {D : Addr} {Hc1 H1 Hc2 H2 Hc3 H3 : Hp} {acc : List V} {ds : List PyData} (a : Acc D Hc1 H1 Hc2 H2 acc ds) (s : Step Hc2 H2 Hc3 H3) : Acc D Hc1 H1 Hc3 H3 acc ds :=
  ⟨a.st.trans s, s.fr D a.out (by rw [a.at_]; exact fun z => nomatch z) (fun xs => by rw [a.at_]; exact fun z => nomatch z), s.hh _ _ a.at_, a.dq.mono s.cc⟩
theorem Acc.push {D : Addr} {Hc1 H1 Hc2 H2 : Hp} {acc : List V} {ds : List PyData} {y : V} {d : PyData} (a : Acc D Hc1 H1 Hc2 H2 acc ds) (hD : H1 D = none) (h : Dq Hc2 y d) : Acc D Hc1 H1 Hc2 (upd H2 D (.lst (acc ++ [y]))) (acc ++ [y]) (ds ++ [d]) :=
  ⟨⟨a.st.cc, same_mut a.st.hh hD, fun c o e => by rw [upd_ne (ne_of_none e a.out)]; exact a.st.sub c o e, a.st.fr⟩, a.out, upd_same, a.dq.append (.cons h .nil)⟩
theorem Acc.start {D : Addr} {Hc1 H1 : Hp} (s : Same Hc1 H1) (hD : H1 D = none) : Acc D Hc1 H1 Hc1 (upd H1 D (.lst [])) [] [] :=
  ⟨⟨Same.refl _, same_new hD, fun c o e => by rw [upd_ne (ne_of_none e (s.free hD))]; exact s c o e, fun _ h _ _ => h⟩, s.free hD, upd_same, .nil⟩
theorem EvO.ev {te : TE} {ρ : En} {ds : List PyData} (h : EvO te ρ ds) : Ev te ρ (.list ds) := fun σ Hc H s R Q q => h σ Hc H s R Q fun a xs Hc1 H1 s1 n1 hH h1 d1 =>
  q _ (upd Hc1 a (.lst xs)) H1 ⟨s1.cc.trans (same_new n1), s1.hh, fun c o z => by
    by_cases hc : c = a
    · subst hc; rw [upd_same] at z; rw [← z]; exact h1
    · rw [upd_ne hc] at z; exact s1.sub c o z, fun c x1 x2 x3 => by
    rw [upd_ne (fun z => x2 (by rw [z]; exact hH))]
    exact s1.fr c x1 x2 x3⟩ (.lst upd_same (d1.mono (same_new n1)))
theorem len_ok {n : Nat} (h : n < 100000) : n < sizeLine := Nat.lt_of_lt_of_le h (by decide)
section
variable {β γ : Type}
theorem ev_lcO {wi : TI} {g : TG} {tt : TT} {te : TE} {vs : List Nat} {ρ : En} {xs : List β} {enc f : β → PyData} {t : β → Bool} {b : β → En} (hi : Ei wi ρ (xs.map enc)) (hb : ∀ x ∈ xs, Bd g (wipeE ρ vs) (enc x) (b x) vs)
    (ht : ∀ x ∈ xs, Et tt (b x) (t x)) (he : ∀ x ∈ xs, t x = true → Ev te (b x) (f x)) (hl : xs.length ≤ 90000) : EvO (tLc wi g tt te vs) ρ ((xs.filter t).map f) := fun σ Hc H s R Q q =>
  hi σ Hc H s R _ fun J Hc1 H1 s1 st D hD => by
    refine ⟨fun i m H2 => m = xs.length - i ∧ i ≤ xs.length ∧ ∃ Hc2 acc, Acc D Hc1 H1 Hc2 H2 acc (((xs.take i).filter t).map f), ⟨_, rfl, Nat.zero_le _, Hc1, [], Acc.start s1.sub hD⟩, ?_⟩
    rintro i m H2 ⟨rfl, hi2, Hc2, acc, a2⟩
    obtain ⟨st1, st2⟩ := st Hc2 H2 a2.st.cc a2.st.sub i
    rw [List.length_map] at st1 st2
    by_cases hlt : i < xs.length
    · obtain ⟨go, yl⟩ := st1 hlt
      have gx : xs[i]? = some xs[i] := List.getElem?_eq_getElem hlt
      generalize xs[i] = x at gx
      have mx : x ∈ xs := List.mem_of_getElem? gx
      have tk : xs.take (i + 1) = xs.take i ++ [x] := by rw [List.take_add_one, gx]; rfl
      refine .inr ⟨go, fun H' => ∃ Hc2 acc, Acc D Hc1 H1 Hc2 H' acc (((xs.take (i + 1)).filter t).map f), fun H' h => ⟨xs.length - (i + 1), by omega, rfl, hlt, h⟩, fun v H3 y => ?_⟩
      obtain ⟨Hc3, s3, dv⟩ := yl v H3 y
      have dv := dv (enc x) (by rw [List.getElem?_map, gx]; rfl)
      refine hb x mx v _ Hc3 H3 s3.sub ((R.mono ((s1.cc.trans a2.st.cc).trans s3.cc)).wipe vs) dv _ fun σ' R' w' => ⟨by rw [w', wipe_wipe σ vs vs fun _ h => h], ?_⟩
      refine ht x mx σ' Hc3 H3 s3.sub R' _ fun Hc4 H4 s4 => ?_
      cases ct : t x with
      | true =>
        rw [if_pos rfl]
        refine he x mx ct σ' Hc4 H4 s4.sub (R'.mono s4.cc) _ fun y Hc5 H5 s5 dy => ?_
        have a5 := a2.step ((s3.trans s4).trans s5)
        refine ⟨acc, a5.at_, len_ok ?_, Hc5, acc ++ [y], ?_⟩
        · rw [a2.dq.length, List.length_map]
          have h1 := List.length_filter_le t (xs.take i)
          rw [List.length_take] at h1
          omega
        · have := a5.push hD dy
          rw [tk, List.filter_append, List.map_append, show [x].filter t = [x] by simp [ct]]
          exact this
      | false =>
        rw [if_neg (by decide)]
        refine ⟨Hc4, acc, ?_⟩
        rw [tk, List.filter_append, show [x].filter t = [] by simp [ct], List.append_nil]
        exact a2.step (s3.trans s4)
    · have e : i = xs.length := by omega
      subst e
      rw [List.take_length] at a2
      exact .inl ⟨st2 (by omega), q D acc Hc2 H2 (s1.trans a2.st) a2.out (s1.hh.free hD) a2.at_ a2.dq⟩
theorem ev_lc2 {wi wi1 : TI} {g g1 : TG} {te : TE} {vs vs1 : List Nat} {ρ : En} {xs : List β} {ys : List γ} {enc : β → PyData} {enc1 : γ → PyData} {f : β → γ → PyData} {b : β → En} {b1 : β → γ → En} (hi : Ei wi ρ (xs.map enc)) (hb : ∀ x ∈ xs, Bd g (wipeE ρ vs) (enc x) (b x) vs)
    (hi1 : ∀ x ∈ xs, Ei wi1 (b x) (ys.map enc1)) (hb1 : ∀ x ∈ xs, ∀ y ∈ ys, Bd g1 (wipeE (b x) vs1) (enc1 y) (b1 x y) vs1) (he : ∀ x ∈ xs, ∀ y ∈ ys, Ev te (b1 x y) (f x y)) (hl : xs.length * ys.length ≤ 90000) :
    EvO (tLc2 wi g tYes wi1 g1 tYes te vs vs1) ρ (xs.flatMap fun x => ys.map (f x)) := fun σ Hc H s R Q q =>
  hi σ Hc H s R _ fun J Hc1 H1 s1 st D hD => by
    refine ⟨fun i m H2 => m = xs.length - i ∧ i ≤ xs.length ∧ ∃ Hc2 acc, Acc D Hc1 H1 Hc2 H2 acc ((xs.take i).flatMap fun x => ys.map (f x)), ⟨_, rfl, Nat.zero_le _, Hc1, [], Acc.start s1.sub hD⟩, ?_⟩
    rintro i m H2 ⟨rfl, hi2, Hc2, acc, a2⟩
    obtain ⟨st1, st2⟩ := st Hc2 H2 a2.st.cc a2.st.sub i
    rw [List.length_map] at st1 st2
    by_cases hlt : i < xs.length
    · obtain ⟨go, yl⟩ := st1 hlt
      have gx : xs[i]? = some xs[i] := List.getElem?_eq_getElem hlt
      generalize xs[i] = x at gx
      have mx : x ∈ xs := List.mem_of_getElem? gx
      have tk : xs.take (i + 1) = xs.take i ++ [x] := by rw [List.take_add_one, gx]; rfl
      refine .inr ⟨go, fun H' => ∃ Hc2 acc, Acc D Hc1 H1 Hc2 H' acc ((xs.take (i + 1)).flatMap fun x => ys.map (f x)), fun H' h => ⟨xs.length - (i + 1), by omega, rfl, hlt, h⟩, fun v H3 y => ?_⟩
      obtain ⟨Hc3, s3, dv⟩ := yl v H3 y
      have dv := dv (enc x) (by rw [List.getElem?_map, gx]; rfl)
      refine hb x mx v _ Hc3 H3 s3.sub ((R.mono ((s1.cc.trans a2.st.cc).trans s3.cc)).wipe vs) dv _ fun σ' R' w' => ⟨by rw [w', wipe_wipe σ vs vs fun _ h => h], ?_⟩
      unfold tYes
      dsimp only
      rw [if_pos rfl]
      have a3 := a2.step s3
      refine hi1 x mx σ' Hc3 H3 s3.sub R' _ fun J1 Hc4 H4 s4 st' => ?_
      have a4 := a3.step s4
      refine ⟨fun j k H5 => k = ys.length - j ∧ j ≤ ys.length ∧ ∃ Hc5 acc, Same Hc4 Hc5 ∧ Acc D Hc1 H1 Hc5 H5 acc (((xs.take i).flatMap fun x => ys.map (f x)) ++ (ys.take j).map (f x)), ⟨_, rfl, Nat.zero_le _, Hc4, acc, Same.refl _, by rw [List.take_zero, List.map_nil, List.append_nil]; exact a4⟩, ?_⟩
      rintro j k H5 ⟨rfl, hj2, Hc5, acc5, s45, a5⟩
      obtain ⟨st1', st2'⟩ := st' Hc5 H5 s45 a5.st.sub j
      rw [List.length_map] at st1' st2'
      by_cases hjl : j < ys.length
      · obtain ⟨go', yl'⟩ := st1' hjl
        have gy : ys[j]? = some ys[j] := List.getElem?_eq_getElem hjl
        generalize ys[j] = y2 at gy
        have my : y2 ∈ ys := List.mem_of_getElem? gy
        have tk' : ys.take (j + 1) = ys.take j ++ [y2] := by rw [List.take_add_one, gy]; rfl
        refine .inr ⟨go', fun H' => ∃ Hc5 acc, Same Hc4 Hc5 ∧ Acc D Hc1 H1 Hc5 H' acc (((xs.take i).flatMap fun x => ys.map (f x)) ++ (ys.take (j + 1)).map (f x)), fun H' h => ⟨ys.length - (j + 1), by omega, rfl, hjl, h⟩, fun v H6 y6 => ?_⟩
        obtain ⟨Hc6, s6, dv6⟩ := yl' v H6 y6
        have dv6 := dv6 (enc1 y2) (by rw [List.getElem?_map, gy]; rfl)
        refine hb1 x mx y2 my v _ Hc6 H6 s6.sub ((R'.mono (((s4.cc).trans s45).trans s6.cc)).wipe vs1) dv6 _ fun σ3 R3 w3 => ⟨by rw [w3, wipe_wipe σ' vs1 vs1 fun _ h => h], ?_⟩
        try unfold tYes
        try dsimp only
        rw [if_pos rfl]
        refine he x mx y2 my σ3 Hc6 H6 s6.sub R3 _ fun z Hc7 H7 s7 dz => ?_
        have a7 := a5.step (s6.trans s7)
        refine ⟨acc5, a7.at_, len_ok ?_, Hc7, acc5 ++ [z], (s45.trans s6.cc).trans s7.cc, ?_⟩
        · rw [a5.dq.length, List.length_append, List.length_map, List.length_take, List.length_flatMap]
          have e1 : ((xs.take i).map fun x => (ys.map (f x)).length) = (xs.take i).map fun _ => ys.length := List.map_congr_left fun _ _ => List.length_map _
          rw [e1, List.map_const', List.sum_replicate_nat, List.length_take]
          have : min i xs.length * ys.length + ys.length ≤ xs.length * ys.length := by
            have := Nat.mul_le_mul_right ys.length (show min i xs.length + 1 ≤ xs.length by omega)
            rw [Nat.add_mul] at this
            omega
          omega
        · rw [tk', List.map_append, ← List.append_assoc]
          exact a7.push hD dz
      · have e : j = ys.length := by omega
        subst e
        rw [List.take_length] at a5
        refine .inl ⟨st2' (by omega), Hc5, acc5, ?_⟩
        rw [tk, List.flatMap_append]
        simpa using a5
    · have e : i = xs.length := by omega
      subst e
      rw [List.take_length] at a2
      exact .inl ⟨st2 (by omega), q D acc Hc2 H2 (s1.trans a2.st) a2.out (s1.hh.free hD) a2.at_ a2.dq⟩
variable {X : Cx} {ρ : En} {tg iter elt cnd tg1 iter1 : Expr} {scope : Scope} {own : List (Str × Nat)} {pos : Pos} {g g1 : TG} {xs : List β} {ys : List γ} {enc f : β → PyData} {enc1 : γ → PyData} {t : β → Bool} {b : β → En} {b1 : β → γ → En} {vs1 : List Nat} {f2 : β → γ → PyData}
def DIB (X : Cx) (scope : Scope) (tg e : Expr) (ρ : En) (ds : List PyData) : Prop := ∀ (s : Shared) (H : Hp) (C : Addr) (cl : List (Str × Addr)) (fp : List Addr), DI (X.blk s H scope (compEnvC scope cl C X.env) fp) tg e ρ ds
def tiB (X : Cx) (scope : Scope) (tg e : Expr) : TI := fun σ H' Q => ∀ (s : Shared) (H : Hp) (C : Addr) (cl : List (Str × Addr)) (fp : List Addr), tiOf (X.blk s H scope (compEnvC scope cl C X.env) fp) tg e σ H' Q
theorem d_lc2 (hc : X.calm = true) (hN : X.N.Nodup) (ok : BlkOk X.N X.env.scope scope own) (hv : ∀ i ∈ vs1, i ∈ own.map (·.2)) (hi : DI X tg iter ρ (xs.map enc)) (hg : PGB X scope tg g) (hb : ∀ x ∈ xs, Bd g (wipeE ρ (own.map (·.2))) (enc x) (b x) (own.map (·.2)))
    (hi1 : ∀ x ∈ xs, DIB X scope tg1 iter1 (b x) (ys.map enc1)) (hg1 : PGB X scope tg1 g1) (hb1 : ∀ x ∈ xs, ∀ y ∈ ys, Bd g1 (wipeE (b x) vs1) (enc1 y) (b1 x y) vs1) (he : ∀ x ∈ xs, ∀ y ∈ ys, DEB X scope elt (b1 x y) (f2 x y)) (hl : xs.length * ys.length ≤ 90000)
    (hs : ∀ x, foldedSetIterable iter X.env x = pure x := by intro _; rfl) (hs1 : ∀ env x, foldedSetIterable iter1 env x = pure x := by intro _ _; rfl) : DE X (.ListComp elt [⟨tg, iter, [], 0⟩, ⟨tg1, iter1, [], 0⟩] scope pos) ρ (.list (xs.flatMap fun x => ys.map (f2 x))) := by
  have h := ev_lc2 (wi1 := tiB X scope tg1 iter1) (te := teB X scope elt) hi hb (fun x hx σ Hc H s R Q q s' H' C cl fp => hi1 x hx s' H' C cl fp σ Hc H s R Q q) hb1 (fun x hx y hy σ Hc H s R Q q s' H' C cl fp => he x hx y hy s' H' C cl fp σ Hc H s R Q q) hl
  exact de_of (pe_lc2 hc hN (pi_self X tg iter) ok hv hg (fun _ _ _ _ _ => pts_nil) (fun s H C cl fp => ⟨fun pins sh σ H' Q I z => z s H C cl fp pins sh I⟩) hg1 (fun _ _ _ _ _ => pts_nil) (fun s H C cl fp => ⟨fun pins sh σ H' Q I z => z s H C cl fp pins sh I⟩) hs hs1) h.ev
end
end PH

set_option Elab.async false
set_option linter.all false
set_option maxRecDepth 100000
set_option maxHeartbeats 1000000
namespace PH
open PySem PySem.Spec PyProof.Rows L2
def metAt (p q : Pl) (s t : Int) : Pl := mkPl (q.1 * s - p.1 * t) (q.2.1 * s - p.2.1 * t) (s * q.2.2 - t * p.2.2)
def crossP (h : Pl) (e : Pl × Pl) : Option Pl := if depth h e.1 * depth h e.2 < 0 then some (metAt e.1 e.2 (depth h e.1) (depth h e.2)) else none
def cutL (ps : List Pl) (h : Pl) : List Pl := ps.filter (fun p => decide (0 ≤ depth h p)) ++ (nbrs ps).filterMap (crossP h)
def cutP (ps : List Pl) (h : Pl) : Option (List Pl) := if cutL ps h = [] then none else some (hullP (cutL ps h))
def optD : Option (List Pl) → PyData
  | none => .none
  | some P => pgD P
theorem depth_sm {m n : Nat} {h p : Pl} (hh : HfOk m h) (hp : PlOk n p) : Sm (m + n + 2) (depth h p) := by
  have := (((hh.a.mul hp.x).add (hh.b.mul hp.y)).sub ((hh.c.mul hp.d).mono (Nat.le_succ _)))
  exact this
theorem met_z {s t a b : Int} (h : s * t < 0) (ha : 0 < a) (hb : 0 < b) : s * b - t * a ≠ 0 := by
  intro e
  by_cases c : 0 < s
  · have h1 : t < 0 := by
      rcases Int.lt_trichotomy t 0 with x | x | x
      · exact x
      · rw [x] at h; omega
      · have := Int.mul_pos c x; omega
    have := Int.mul_pos c hb
    have := Int.mul_neg_of_neg_of_pos h1 ha
    omega
  · have h0 : s < 0 := by
      rcases Int.lt_trichotomy s 0 with x | x | x
      · exact x
      · rw [x] at h; omega
      · exact absurd x c
    have h1 : 0 < t := by
      rcases Int.lt_trichotomy t 0 with x | x | x
      · have := Int.mul_pos_of_neg_of_neg h0 x; omega
      · rw [x] at h; omega
      · exact x
    have := Int.mul_pos h1 ha
    have := Int.mul_neg_of_neg_of_pos h0 hb
    omega
theorem metAt_ok {m n : Nat} {h p q : Pl} (hh : HfOk m h) (hp : PlOk n p) (hq : PlOk n q) (c : depth h p * depth h q < 0) : PlOk (m + n + n + 3) (metAt p q (depth h p) (depth h q)) := by
  have s := depth_sm hh hp
  have t := depth_sm hh hq
  exact mkPl_ok (met_z c hp.pos hq.pos) (((hq.x.mul s).sub (hp.x.mul t)).mono (by omega)) (((hq.y.mul s).sub (hp.y.mul t)).mono (by omega)) ((Sm.sub ((s.mul hq.d).mono (show m + n + 2 + n ≤ m + n + n + 2 by omega)) ((t.mul hp.d).mono (by omega))).mono (by omega))
theorem cutL_ok {m n : Nat} {h : Pl} {ps : List Pl} (hh : HfOk m h) (hp : AllOk n ps) : AllOk (m + n + n + 3) (cutL ps h) := fun p hp1 => by
  rcases List.mem_append.mp hp1 with c | c
  · exact (hp p (List.mem_filter.mp c).1).mono (by omega)
  · obtain ⟨e, he, c⟩ := List.mem_filterMap.mp c
    unfold crossP at c
    split at c
    · next c2 =>
      obtain rfl := Option.some.inj c
      exact metAt_ok hh (hp _ (nbrs_mem he).1) (hp _ (nbrs_mem he).2.1) c2
    · cases c
section
variable {P : Program} {w : World} {K : PySem.W.Frag} {mg : Str → Option Value} {base : Heap}
def R_isMet (ds : List PyData) (d : PyData) : Prop := ∃ (ps : List Pl) (h : Pl) (m n : Nat), ds = [pgD ps, plD h] ∧ ps.length ≤ 1000 ∧ m + n ≤ 100000 ∧ HfOk m h ∧ AllOk n ps ∧ d = .bool (isMet ps h)
theorem sc_isMet : FnScope ["plate", "half_plane", "p"] ["plate", "half_plane"] (defScope (topS 46)) := ⟨rfl, rfl, rfl, by decide +kernel, rfl, by decide +kernel, by decide +kernel⟩
theorem kn_isMet (T : Top mg) (F : Fd K mg "is_met" (topS 46) ["plate", "half_plane"]) (G : Kn P w K mg base "has" 2 R_has) : Kn P w K mg base "is_met" 3 R_isMet := by
  refine kn F sc_isMet (by rintro ds d ⟨a, b, m, n, rfl, _⟩; rfl) fun f cdv A outer s H E hr ds d => ?_
  rintro ⟨ps, h, m, n, rfl, hl, hm, hh, hps, rfl⟩
  exact ds_rt (s_ret (DE.is (d_any T (bs := ps.map fun p => decide (0 ≤ depth h p)) rfl (DE.is (d_lc (own := [("p", 2)]) (g := gName 2) (xs := ps) (enc := plD) (f := fun p => .bool (decide (0 ≤ depth h p))) rfl sc_isMet.nd (bk (by decide +kernel)) (di_tup (d_v 0)) (fun _ _ _ _ _ => pg_name (i := 2) sc_isMet.nd rfl (Or.inl rfl)) (fun _ _ => bd_name (by decide))
    (fun p hp1 _ _ _ _ _ => d_call G hr (da_cons (d_v 1) (da_cons (d_v 2) da_nil)) ⟨h, p, m, n, rfl, hm, hh, hps p hp1, rfl⟩) (by omega)) (by rw [List.map_map] <;> rfl))) (by rw [List.any_map] <;> rfl)))
def R_metAt (ds : List PyData) (d : PyData) : Prop := ∃ (p q : Pl) (s t : Int) (k n : Nat), ds = [plD p, plD q, .int s, .int t] ∧ k + n ≤ 8990 ∧ PlOk n p ∧ PlOk n q ∧ Sm k s ∧ Sm k t ∧ s * t < 0 ∧ d = plD (metAt p q s t)
theorem sc_metAt : FnScope ["p", "q", "one", "other"] ["p", "q", "one", "other"] (defScope (topS 48)) := ⟨rfl, rfl, rfl, by decide +kernel, rfl, by decide +kernel, by decide +kernel⟩
theorem kn_metAt (F : Fd K mg "met_at" (topS 48) ["p", "q", "one", "other"]) (G : Kn P w K mg base "place" 2 R_place) : Kn P w K mg base "met_at" 3 R_metAt := by
  refine kn F sc_metAt (by rintro ds d ⟨a, b, s, t, m, n, rfl, _⟩; rfl) fun f cdv A outer s H E hr ds d => ?_
  rintro ⟨p, q, s, t, k, n, rfl, hk, hp, hq, hs, ht, hc, rfl⟩
  exact ds_rt (s_ret (d_call G hr (da_cons (d_sub (d_mul (cm hq.x hs (by omega)) (d_ixT rfl (d_v 1) d_int) (d_v 2)) (d_mul (cm hp.x ht (by omega)) (d_ixT rfl (d_v 0) d_int) (d_v 3))) (da_cons (d_sub (d_mul (cm hq.y hs (by omega)) (d_ixT rfl (d_v 1) d_int) (d_v 2)) (d_mul (cm hp.y ht (by omega)) (d_ixT rfl (d_v 0) d_int) (d_v 3)))
    (da_cons (d_sub (d_mul (cm hs hq.d (by omega)) (d_v 2) (d_ixT rfl (d_v 1) d_int)) (d_mul (cm ht hp.d (by omega)) (d_v 3) (d_ixT rfl (d_v 0) d_int))) da_nil))) ⟨_, _, _, rfl, met_z hc hp.pos hq.pos, ((hs.mul hq.d).sub (ht.mul hp.d)).mono (by omega), rfl⟩))
def R_farthest (ds : List PyData) (d : PyData) : Prop := ∃ (ps : List Pl) (u : Pr) (m n : Nat), ds = [pgD ps, prD u] ∧ ps ≠ [] ∧ ps.length ≤ 1000 ∧ m ≤ 9000 ∧ n ≤ 4400 ∧ AllOk n ps ∧ DirOk m u ∧ d = .list ((farthestP ps u).map plD)
theorem sc_farthest : FnScope ["plate", "u", "normal", "p", "q", "most"] ["plate", "u"] (defScope (topS 45)) := ⟨rfl, rfl, rfl, by decide +kernel, rfl, by decide +kernel, by decide +kernel⟩
/-- what a name holds after a for -/
def lzG {β : Type} (f : β → PyData) (z : Option PyData) : List β → Option PyData
  | [] => z
  | x :: xs => lzG f (some (f x)) xs
theorem far_bd {K : PySem.W.Frag} {d0 d1 : PyData} {x y z : Option PyData} (s : Pr × Pl × Pl) : Bd (gTup K 3 (gCons (gName 2) (gCons (gName 3) (gCons (gName 4) gNil)))) [some d0, some d1, x, y, z, none] (sdD s) [some d0, some d1, some (prD s.1), some (plD s.2.1), some (plD s.2.2), none] [2, 3, 4] :=
  bd_tup (bds_cons (bd_name (by decide)) (bds_cons (bd_name (by decide)) (bds_cons (bd_name (by decide)) bds_nil))) rfl
section
variable {X : Cx} {K : PySem.W.Frag} {body : List Stmt} {d0 d1 : PyData} {u : Pr}
theorem far_rt (yes : ∀ s : Pr × Pl × Pl, s.1 = u → DS X body [some d0, some d1, some (prD s.1), some (plD s.2.1), some (plD s.2.2), none] (.rt (.list [plD s.2.1, plD s.2.2])))
    (no : ∀ s : Pr × Pl × Pl, s.1 ≠ u → DS X body [some d0, some d1, some (prD s.1), some (plD s.2.1), some (plD s.2.2), none] (.nx [some d0, some d1, some (prD s.1), some (plD s.2.1), some (plD s.2.2), none])) (t : Pr × Pl × Pl) :
    ∀ (ss : List (Pr × Pl × Pl)) (x y z : Option PyData), (ss.find? fun s => decide (s.1 = u)) = some t → ForR (fun s ρ ρ1 => Bd (gTup K 3 (gCons (gName 2) (gCons (gName 3) (gCons (gName 4) gNil)))) ρ (sdD s) ρ1 [2, 3, 4]) (DS X body) ss [some d0, some d1, x, y, z, none] (.rt (.list [plD t.2.1, plD t.2.2]))
  | [], x, y, z, e => nomatch e
  | s :: ss, x, y, z, e => by
    rw [List.find?_cons] at e
    by_cases h : s.1 = u
    · rw [decide_eq_true h] at e
      obtain rfl := Option.some.inj e
      exact .ret (far_bd s) (yes s h)
    · rw [decide_eq_false h] at e
      exact .next (far_bd s) (no s h) (far_rt yes no t ss _ _ _ e)
theorem far_nx (no : ∀ s : Pr × Pl × Pl, s.1 ≠ u → DS X body [some d0, some d1, some (prD s.1), some (plD s.2.1), some (plD s.2.2), none] (.nx [some d0, some d1, some (prD s.1), some (plD s.2.1), some (plD s.2.2), none])) :
    ∀ (ss : List (Pr × Pl × Pl)) (x y z : Option PyData), (ss.find? fun s => decide (s.1 = u)) = none → ForR (fun s ρ ρ1 => Bd (gTup K 3 (gCons (gName 2) (gCons (gName 3) (gCons (gName 4) gNil)))) ρ (sdD s) ρ1 [2, 3, 4]) (DS X body) ss [some d0, some d1, x, y, z, none]
      (.nx [some d0, some d1, lzG (fun s => prD s.1) x ss, lzG (fun s => plD s.2.1) y ss, lzG (fun s => plD s.2.2) z ss, none])
  | [], x, y, z, e => .nil
  | s :: ss, x, y, z, e => by
    rw [List.find?_cons] at e
    by_cases h : s.1 = u
    · rw [decide_eq_true h] at e
      cases e
    · rw [decide_eq_false h] at e
      exact .next (far_bd s) (no s h) (far_nx no ss _ _ _ e)
end
theorem kn_farthest (F : Fd K mg "farthest" (topS 45) ["plate", "u"]) (G : Kn P w K mg base "sides" 5 R_sides) (G2 : Kn P w K mg base "top" 3 (R_top topP)) (G3 : Kn P w K mg base "height" 2 R_height) : Kn P w K mg base "farthest" 6 R_farthest := by
  refine kn F sc_farthest (by rintro ds d ⟨a, b, m, n, rfl, _⟩; rfl) fun f cdv A outer s H E hr ds d => ?_
  rintro ⟨ps, u, m, n, rfl, hne, hl, hm, hn, hps, hu, rfl⟩
  cases e : (sidesP ps).find? fun s => decide (s.1 = u) with
  | some t =>
    have e2 : farthestP ps u = [t.2.1, t.2.2] := by unfold farthestP; rw [e]
    rw [e2]
    exact ds_rt (s_for (xs := sidesP ps) (enc := sdD) (vs := [2, 3, 4]) rfl (di_list (d_call G hr (da_cons (d_v 0) da_nil) ⟨ps, n, rfl, hl, hn, hps, rfl⟩)) (pg_tup (n := 3) rfl (pgs_cons (pg_name (i := 2) sc_farthest.nd rfl (.inl rfl)) (pgs_cons (pg_name (i := 3) sc_farthest.nd rfl (.inl rfl)) (pgs_cons (pg_name (i := 4) sc_farthest.nd rfl (.inl rfl)) pgs_nil))))
      (far_rt (u := u) (fun s h => ds_rt (s_if (k := true) (DT.is (t_eqD (units64 hr) (sh_pr s.1) (sh_pr u) (d_v 2) (d_v 1)) ((eqv_pr _ _).trans (decide_eq_true h))) (fun _ => ds_rt (s_ret (d_lst (da_cons (d_v 3) (da_cons (d_v 4) da_nil))))) (fun z => nomatch z)))
        (fun s h => ds_cons (s_skip (DT.is (t_eqD (units64 hr) (sh_pr s.1) (sh_pr u) (d_v 2) (d_v 1)) ((eqv_pr _ _).trans (decide_eq_false h)))) ds_nil) t (sidesP ps) none none none e))
  | none =>
    have e2 : farthestP ps u = ps.filter fun p => decide (height u p = topP ps u) := by unfold farthestP; rw [e]
    rw [e2]
    exact ds_cons (s_for (xs := sidesP ps) (enc := sdD) (vs := [2, 3, 4]) rfl (di_list (d_call G hr (da_cons (d_v 0) da_nil) ⟨ps, n, rfl, hl, hn, hps, rfl⟩)) (pg_tup (n := 3) rfl (pgs_cons (pg_name (i := 2) sc_farthest.nd rfl (.inl rfl)) (pgs_cons (pg_name (i := 3) sc_farthest.nd rfl (.inl rfl)) (pgs_cons (pg_name (i := 4) sc_farthest.nd rfl (.inl rfl)) pgs_nil))))
      (far_nx (u := u) (fun s h => ds_cons (s_skip (DT.is (t_eqD (units64 hr) (sh_pr s.1) (sh_pr u) (d_v 2) (d_v 1)) ((eqv_pr _ _).trans (decide_eq_false h)))) ds_nil) (sidesP ps) none none none e))
      (ds_cons (s_set 5 sc_farthest.nd (d_call G2 (hr.mono (by decide)) (da_cons (d_v 0) (da_cons (d_v 1) da_nil)) ⟨ps, u, m, n, rfl, hne, hm, by omega, hps, hu, rfl⟩))
        (ds_rt (s_ret (d_lcf (own := [("p", 3)]) (g := gName 3) (xs := ps) (enc := plD) (f := plD) (t := fun p => decide (height u p = topP ps u)) rfl sc_farthest.nd (bk (by decide +kernel)) (di_tup (d_v 0)) (fun _ _ _ _ _ => pg_name (i := 3) sc_farthest.nd rfl (Or.inl rfl)) (fun _ _ => bd_name (by decide))
          (fun p hp1 _ _ _ _ _ => DT.is (t_eqD (units64 hr) (sh_pr (height u p)) (sh_pr (topP ps u)) (d_call G3 (hr.mono (by decide)) (da_cons (d_v 1) (da_cons (d_v 3) da_nil)) ⟨u, p, m, n, rfl, hm, by omega, hu, hps p hp1, rfl⟩) (d_v 5)) (eqv_pr _ _)) (fun p _ _ _ _ _ _ _ => d_v 3) (by omega)))))
end
end PH

set_option Elab.async false
set_option linter.all false
set_option maxRecDepth 100000
set_option maxHeartbeats 1000000
namespace PH
open PySem PySem.Spec PyProof.Rows L2
section
variable {β : Type} {X : Cx} {ρ ρ2 : En} {tg iter elt cnd : Expr} {scope : Scope} {own : List (Str × Nat)} {pos spos py : Pos} {y : Str} {g : TG} {xs : List β} {enc f : β → PyData} {t : β → Bool} {b : β → En} {st1 : Stmt} {rest : List Stmt} {o : Out} {ds1 : List PyData}
/-- found = [.. for .. if ..]; for ..: found.append(..); the rest -/
theorem ds_ownLcf (i : Nat) (hc : X.calm = true) (hN : X.N.Nodup) (hsw : swapsWith (.ListComp elt [⟨tg, iter, [cnd], 0⟩] scope pos) (some (.Name y py)) spos.line X.env = pure true) (ok : BlkOk X.N X.env.scope scope own) (hi : DI X tg iter ρ (xs.map enc)) (hg : PGB X scope tg g) (hb : ∀ x ∈ xs, Bd g (wipeE ρ (own.map (·.2))) (enc x) (b x) (own.map (·.2)))
    (ht : ∀ x ∈ xs, DTB X scope cnd (b x) (t x)) (he : ∀ x ∈ xs, t x = true → DEB X scope elt (b x) (f x)) (hl : xs.length ≤ 90000) (h1 : ∀ a, D1M X a st1 (ρ.set i (some (oq a))) ((xs.filter t).map f) (ρ2.set i (some (oq a))) ds1) (hi2 : i < ρ2.length) (h2 : DS X rest (ρ2.set i (some (.list ds1))) o)
    (hy : X.N[i]? = some y := by rfl) (hyl : X.env.scope.names.lookup y = some .local := by rfl) (hs : ∀ x, foldedSetIterable iter X.env x = pure x := by intro _; rfl) : DS X (.Assign [.Name y py] (.ListComp elt [⟨tg, iter, [cnd], 0⟩] scope pos) spos :: st1 :: rest) ρ o :=
  ds_own (ps_setLc hc hN hy hyl hsw (pi_self X tg iter) ok hg (fun s H C cl fp => pts_one ⟨fun pins sh σ H' Q I z => z s H C cl fp pins sh I⟩) (fun s H C cl fp => ⟨fun pins sh σ H' Q I z => z s H C cl fp pins sh I⟩) hs)
    (ev_lcO (tt := ttB X scope cnd) (te := teB X scope elt) (f := f) hi hb (fun x hx σ Hc H s R Q q s' H' C cl fp => ht x hx s' H' C cl fp σ Hc H s R Q q) (fun x hx ct σ Hc H s R Q q s' H' C cl fp => he x hx ct s' H' C cl fp σ Hc H s R Q q) hl) h1 hi2 h2
end
section
variable {P : Program} {w : World} {K : PySem.W.Frag} {mg : Str → Option Value} {base : Heap}
def R_cut (ds : List PyData) (d : PyData) : Prop := ∃ (ps : List Pl) (h : Pl) (m n : Nat), ds = [pgD ps, plD h] ∧ ps.length ≤ 1000 ∧ (cutL ps h).length ≤ 64 ∧ m + n + n + 3 ≤ 4400 ∧ HfOk m h ∧ AllOk n ps ∧ d = optD (cutP ps h)
theorem sc_cut : FnScope ["plate", "half_plane", "found", "p", "q", "one", "other"] ["plate", "half_plane"] (defScope (topS 49)) := ⟨rfl, rfl, rfl, by decide +kernel, rfl, by decide +kernel, by decide +kernel⟩
theorem cut_for {ps : List Pl} {X : Cx} {K : PySem.W.Frag} {a : Addr} {body : List Stmt} {d0 d1 : PyData} {h : Pl}
    (step : ∀ (e : Pl × Pl) (ds : List PyData) (u v : Option PyData), e ∈ nbrs ps → ds.length < 100000 → DSM X a body [some d0, some d1, some (oq a), some (plD e.1), some (plD e.2), u, v] ds [some d0, some d1, some (oq a), some (plD e.1), some (plD e.2), some (.int (depth h e.1)), some (.int (depth h e.2))] (ds ++ ((crossP h e).toList.map plD))) :
    ∀ (es : List (Pl × Pl)) (ds : List PyData) (x y u v : Option PyData), (∀ e ∈ es, e ∈ nbrs ps) → es.length + ds.length ≤ 90000 → FoM (fun e ρ ρ1 => Bd (gTup K 2 (gCons (gName 3) (gCons (gName 4) gNil))) ρ (edD e) ρ1 [3, 4]) (DSM X a body) es [some d0, some d1, some (oq a), x, y, u, v] ds
      [some d0, some d1, some (oq a), lzG (fun e => plD e.1) x es, lzG (fun e => plD e.2) y es, lzG (fun e => .int (depth h e.1)) u es, lzG (fun e => .int (depth h e.2)) v es] (ds ++ (es.filterMap (crossP h)).map plD)
  | [], ds, x, y, u, v, _, _ => by rw [List.filterMap_nil, List.map_nil, List.append_nil]; exact .nil
  | e :: es, ds, x, y, u, v, hm, hl => by
    rw [List.length_cons] at hl
    have hc : ((crossP h e).toList.map plD).length ≤ 1 := by rw [List.length_map]; cases crossP h e <;> simp
    have ih := cut_for (K := K) step es (ds ++ ((crossP h e).toList.map plD)) (some (plD e.1)) (some (plD e.2)) (some (.int (depth h e.1))) (some (.int (depth h e.2))) (fun e' h' => hm e' (List.mem_cons_of_mem _ h')) (by rw [List.length_append]; omega)
    have eq : ds ++ ((e :: es).filterMap (crossP h)).map plD = (ds ++ ((crossP h e).toList.map plD)) ++ (es.filterMap (crossP h)).map plD := by
      rw [List.filterMap_cons]
      cases crossP h e <;> simp
    rw [eq]
    exact .next (bd_tup (bds_cons (bd_name (by decide)) (bds_cons (bd_name (by decide)) bds_nil)) rfl) (step e ds u v (hm e List.mem_cons_self) (by omega)) ih
theorem kn_cut (T : Top mg) (F : Fd K mg "cut_plate" (topS 49) ["plate", "half_plane"]) (G : Kn P w K mg base "depth" 1 R_depth) (G2 : Kn P w K mg base "neighbours" 1 R_neighbours) (G3 : Kn P w K mg base "met_at" 3 R_metAt) (G4 : Kn P w K mg base "hull" 6 R_hull) : Kn P w K mg base "cut_plate" 7 R_cut := by
  refine kn F sc_cut (by rintro ds d ⟨a, b, m, n, rfl, _⟩; rfl) fun f cdv A outer s H E hr ds d => ?_
  rintro ⟨ps, h, m, n, rfl, hl, hl2, hm, hh, hps, rfl⟩
  have nl := nbrs_len ps
  have fl := List.length_filter_le (fun p => decide (0 ≤ depth h p)) ps
  refine ds_ownLcf (i := 2) (own := [("p", 3)]) (g := gName 3) (xs := ps) (enc := plD) (f := plD) (t := fun p => decide (0 ≤ depth h p)) (ρ2 := [some (pgD ps), some (plD h), none, lzG (fun e => plD e.1) none (nbrs ps), lzG (fun e => plD e.2) none (nbrs ps), lzG (fun e => .int (depth h e.1)) none (nbrs ps), lzG (fun e => .int (depth h e.2)) none (nbrs ps)]) (ds1 := (cutL ps h).map plD)
    rfl sc_cut.nd (sw_true rfl rfl rfl rfl) (bk (by decide +kernel)) (di_tup (d_v 0)) (fun _ _ _ _ _ => pg_name (i := 3) sc_cut.nd rfl (Or.inl rfl)) (fun _ _ => bd_name (by decide))
    (fun p hp1 _ _ _ _ _ => t_ge (d_call G (hr.mono (by decide)) (da_cons (d_v 1) (da_cons (d_v 3) da_nil)) ⟨h, p, m, n, rfl, by omega, hh, hps p hp1, rfl⟩) d_int) (fun p _ _ _ _ _ _ _ => d_v 3) (by omega) (fun a => D1M.is (m_for (xs := nbrs ps) (enc := edD) (g := gTup _ 2 (gCons (gName 3) (gCons (gName 4) gNil))) (vs := [3, 4]) rfl (di_list (d_call G2 (hr.mono (by decide)) (da_cons (d_v 0) da_nil) ⟨ps, rfl, hl, rfl⟩))
      (pg_tup (n := 2) rfl (pgs_cons (pg_name (i := 3) sc_cut.nd rfl (.inl rfl)) (pgs_cons (pg_name (i := 4) sc_cut.nd rfl (.inl rfl)) pgs_nil)))
      (cut_for (h := h) (fun e ds u v he hd => m_cons (m_lift (s_par rfl sc_cut.nd (i := 5) (j := 6) rfl rfl (by decide) (d_call G (hr.mono (by decide)) (da_cons (d_v 1) (da_cons (d_v 3) da_nil)) ⟨h, e.1, m, n, rfl, by omega, hh, hps _ (nbrs_mem he).1, rfl⟩) (d_call G (hr.mono (by decide)) (da_cons (d_v 1) (da_cons (d_v 4) da_nil)) ⟨h, e.2, m, n, rfl, by omega, hh, hps _ (nbrs_mem he).2.1, rfl⟩)))
        (m_cons (m_if (t_lt (d_mul (cm (depth_sm hh (hps _ (nbrs_mem he).1)) (depth_sm hh (hps _ (nbrs_mem he).2.1)) (by omega)) (d_v 5) (d_v 6)) d_int)
          (fun hc => m_cons (D1M.is (m_append (i := 2) (d_call G3 (hr.mono (by decide)) (da_cons (d_v 3) (da_cons (d_v 4) (da_cons (d_v 5) (da_cons (d_v 6) da_nil)))) ⟨e.1, e.2, _, _, m + n + 2, n, rfl, by omega, hps _ (nbrs_mem he).1, hps _ (nbrs_mem he).2.1, depth_sm hh (hps _ (nbrs_mem he).1), depth_sm hh (hps _ (nbrs_mem he).2.1), of_decide_eq_true hc, rfl⟩) rfl hd) (by unfold crossP; rw [if_pos (of_decide_eq_true hc)]; rfl)) m_nil)
          (fun hc => ⟨rfl, by unfold crossP; rw [if_neg (of_decide_eq_false hc)]; simp⟩)) m_nil)) (nbrs ps) ((ps.filter fun p => decide (0 ≤ depth h p)).map plD) none none none none (fun _ h => h) (by rw [List.length_map]; omega))) (by unfold cutL; rw [List.map_append])) (by show 2 < 7; decide)
    (ds_rt (s_ret (d_if (k := decide (cutL ps h = [])) (DT.is (t_eqD (units64 hr) (x := .list ((cutL ps h).map plD)) (y := .list []) (sh_pls _) (sh_pls []) (d_v 2) (d_lst da_nil)) (eqv_pls (cutL ps h) [])) (fun hk => DE.is d_non ?_) fun hk => DE.is (d_call G4 hr (da_cons (d_v 2) da_nil) ⟨cutL ps h, m + n + n + 3, false, rfl, of_decide_eq_false hk, hl2, hm, cutL_ok hh hps, rfl⟩) ?_)))
  · unfold cutP; rw [if_pos (of_decide_eq_true hk)]; rfl
  · unfold cutP; rw [if_neg (of_decide_eq_false hk)]; rfl
end
end PH

set_option Elab.async false
set_option linter.all false
set_option maxRecDepth 100000
set_option maxHeartbeats 1000000
namespace PH
open PySem PySem.Spec PyProof.Rows L2
def endsB : List Pl → List Pl
  | [a, b] => [halfAt (towards a b) a, halfAt (back (towards a b)) b]
  | _ => []
def bordersP (ps : List Pl) : List Pl := (sidesP ps).map (fun s => facing (halfAt s.1 s.2.1)) ++ endsB ps
def cuts : List Pl → List Pl → Option (List Pl)
  | f, [] => some f
  | f, h :: hs => match cutP f h with
    | none => none
    | some f' => cuts f' hs
def meetP (one other : List Pl) : Option (List Pl) := if other.length = 1 then (if hasPlace one (other.headD (0, 0, 1)) = true then some other else none) else cuts one (bordersP other)
def CutsOk (m n : Nat) : List Pl → List Pl → Prop
  | _, [] => True
  | f, h :: hs => f.length ≤ 1000 ∧ (cutL f h).length ≤ 64 ∧ HfOk m h ∧ AllOk n f ∧ ∀ f', cutP f h = some f' → CutsOk m n f' hs
def putP (one other : List Pl) : List Pl := hullP (one.flatMap fun p => other.map fun q => moved p q)
def mirrorP (ps : List Pl) : List Pl := hullP (ps.map scaledN)
section
variable {P : Program} {w : World} {K : PySem.W.Frag} {mg : Str → Option Value} {base : Heap}
def R_borders (ds : List PyData) (d : PyData) : Prop := ∃ (ps : List Pl) (n : Nat), ds = [pgD ps] ∧ ps.length ≤ 1000 ∧ n ≤ 1400 ∧ ps.Nodup ∧ AllOk n ps ∧ d = .list ((bordersP ps).map plD)
theorem sc_borders : FnScope ["plate", "normal", "p", "q", "found", "u"] ["plate"] (defScope (topS 50)) := ⟨rfl, rfl, rfl, by decide +kernel, rfl, by decide +kernel, by decide +kernel⟩
theorem kn_borders (T : Top mg) (F : Fd K mg "borders" (topS 50) ["plate"]) (G : Kn P w K mg base "sides" 5 R_sides) (G2 : Kn P w K mg base "half_at" 4 R_halfAt) (G3 : Kn P w K mg base "facing" 1 R_facing) (G4 : Kn P w K mg base "towards" 4 R_towards) (G5 : Kn P w K mg base "back" 1 (R_pr back)) : Kn P w K mg base "borders" 6 R_borders := by
  refine kn F sc_borders (by rintro ds d ⟨a, b, rfl, _⟩; rfl) fun f cdv A outer s H E hr ds d => ?_
  rintro ⟨ps, n, rfl, hl, hn, nd, hps, rfl⟩
  have sl : (sidesP ps).length ≤ 1000 := by unfold sidesP; rw [List.length_map]; have := nbrs_len ps; omega
  have side : ∀ x ∈ sidesP ps, DirOk (n + n + 1) x.1 ∧ PlOk n x.2.1 := fun x hx => by
    obtain ⟨e, he, rfl⟩ := List.mem_map.mp hx
    exact ⟨side_ok hps he, hps _ (nbrs_mem he).1⟩
  refine ds_cons (s_setLc 4 (own := [("normal", 1), ("p", 2), ("q", 3)]) (g := gTup _ 3 (gCons (gName 1) (gCons (gName 2) (gCons (gName 3) gNil)))) (xs := sidesP ps) (enc := sdD) (f := fun s => plD (facing (halfAt s.1 s.2.1))) rfl sc_borders.nd (sw_true rfl rfl rfl rfl) (bk (by decide +kernel)) (di_list (d_call G hr (da_cons (d_v 0) da_nil) ⟨ps, n, rfl, hl, by omega, hps, rfl⟩))
    (fun _ _ _ _ _ => pg_tup (n := 3) rfl (pgs_cons (pg_name (i := 1) sc_borders.nd rfl (.inl rfl)) (pgs_cons (pg_name (i := 2) sc_borders.nd rfl (.inl rfl)) (pgs_cons (pg_name (i := 3) sc_borders.nd rfl (.inl rfl)) pgs_nil)))) (fun _ _ => bd_tup (bds_cons (bd_name (by decide)) (bds_cons (bd_name (by decide)) (bds_cons (bd_name (by decide)) bds_nil))) rfl)
    (fun x hx _ _ _ _ _ => d_call G3 (hr.mono (by decide)) (da_cons (d_call G2 (hr.mono (by decide)) (da_cons (d_v 1) (da_cons (d_v 2) da_nil)) ⟨x.1, x.2.1, n + n + 1, n, rfl, by omega, (side x hx).1, (side x hx).2, rfl⟩) da_nil) ⟨_, rfl, rfl⟩) (by omega)) ?_
  by_cases h2 : ps.length = 2
  · obtain ⟨a, b, rfl⟩ : ∃ a b, ps = [a, b] := by
      match ps, h2 with
      | [a, b], _ => exact ⟨a, b, rfl⟩
    have hab : a ≠ b := by simpa using nd
    have ha := hps a (by simp)
    have hb := hps b (by simp)
    have tw := towards_ok ha hb hab
    have e1 : bordersP [a, b] = (sidesP [a, b]).map (fun s => facing (halfAt s.1 s.2.1)) ++ [halfAt (towards a b) a, halfAt (back (towards a b)) b] := rfl
    refine ds_cons (s_if (k := true) (DT.is (t_eqI (d_lenT T (d_v 0)) d_int) rfl) (fun _ => ds_cons (s_set 5 sc_borders.nd (d_call G4 (hr.mono (by decide)) (da_cons (d_ixT (i := 0) (d := plD a) rfl (d_v 0) d_int) (da_cons (d_ixT (i := 1) (d := plD b) rfl (d_v 0) d_int) da_nil)) ⟨a, b, n, rfl, by omega, ha, hb, hab, rfl⟩))
      (ds_cons (s_set 4 sc_borders.nd (d_lst (da_star (d_v 4) (da_cons (d_call G2 (hr.mono (by decide)) (da_cons (d_v 5) (da_cons (d_ixT (i := 0) (d := plD a) rfl (d_v 0) d_int) da_nil)) ⟨_, a, n + n + 1, n, rfl, by omega, tw, ha, rfl⟩) (da_cons (d_call G2 (hr.mono (by decide)) (da_cons (d_call G5 (hr.mono (by decide)) (da_cons (d_v 5) da_nil) ⟨_, rfl, rfl⟩) (da_cons (d_ixT (i := 1) (d := plD b) rfl (d_v 0) d_int) da_nil)) ⟨_, b, n + n + 1, n, rfl, by omega, back_ok tw, hb, rfl⟩) da_nil))) ?_)) ds_nil)) (fun z => nomatch z)) (ds_rt (s_ret (DE.is (d_v 4) ?_)))
    · rw [List.length_append, List.length_map]; show _ + 2 ≤ _; omega
    · rw [e1, List.map_append, List.map_map]; rfl
  · have e1 : bordersP ps = (sidesP ps).map (fun s => facing (halfAt s.1 s.2.1)) := by
      unfold bordersP
      have : endsB ps = [] := by
        match ps, h2 with
        | [], _ => rfl
        | [a], _ => rfl
        | [a, b], h => exact absurd rfl h
        | a :: b :: c :: r, _ => rfl
      rw [this, List.append_nil]
    exact ds_cons (s_skip (DT.is (t_eqI (d_lenT T (d_v 0)) d_int) (by rw [List.length_map]; exact decide_eq_false (by omega)))) (ds_rt (s_ret (DE.is (d_v 4) (by rw [e1, List.map_map]; rfl))))
def R_meet (ds : List PyData) (d : PyData) : Prop := ∃ (one other : List Pl) (k n N : Nat), ds = [pgD one, pgD other] ∧ one ≠ [] ∧ one.length ≤ 1000 ∧ other.length ≤ 1000 ∧ k ≤ 1400 ∧ n ≤ 4400 ∧ other ≠ [] ∧ other.Nodup ∧ AllOk n one ∧ AllOk k other ∧ 3 * k + 2 + N + N + 3 ≤ 4400 ∧ CutsOk (3 * k + 2) N one (bordersP other) ∧ d = optD (meetP one other)
theorem sc_meet : FnScope ["one", "other", "found", "half_plane"] ["one", "other"] (defScope (topS 51)) := ⟨rfl, rfl, rfl, by decide +kernel, rfl, by decide +kernel, by decide +kernel⟩
section
variable {X : Cx} {body : List Stmt} {d0 d1 : PyData} {m N : Nat}
theorem meet_none (step : ∀ (f : List Pl) (h : Pl), f.length ≤ 1000 → (cutL f h).length ≤ 64 → HfOk m h → AllOk N f → cutP f h = none → DS X body [some d0, some d1, some (pgD f), some (plD h)] (.rt .none))
    (step2 : ∀ (f : List Pl) (h : Pl) (f' : List Pl), f.length ≤ 1000 → (cutL f h).length ≤ 64 → HfOk m h → AllOk N f → cutP f h = some f' → DS X body [some d0, some d1, some (pgD f), some (plD h)] (.nx [some d0, some d1, some (pgD f'), some (plD h)])) :
    ∀ (hs : List Pl) (f : List Pl) (z : Option PyData), CutsOk m N f hs → cuts f hs = none → ForR (fun h ρ ρ1 => Bd (gName 3) ρ (plD h) ρ1 [3]) (DS X body) hs [some d0, some d1, some (pgD f), z] (.rt .none)
  | [], f, z, _, e => nomatch e
  | h :: hs, f, z, c, e => by
    obtain ⟨c1, c2, c3, c4, c5⟩ := c
    unfold cuts at e
    cases e2 : cutP f h with
    | none => exact .ret (bd_name (by decide)) (step f h c1 c2 c3 c4 e2)
    | some f' =>
      rw [e2] at e
      exact .next (bd_name (by decide)) (step2 f h f' c1 c2 c3 c4 e2) (meet_none step step2 hs f' _ (c5 f' e2) e)
theorem meet_some (step2 : ∀ (f : List Pl) (h : Pl) (f' : List Pl), f.length ≤ 1000 → (cutL f h).length ≤ 64 → HfOk m h → AllOk N f → cutP f h = some f' → DS X body [some d0, some d1, some (pgD f), some (plD h)] (.nx [some d0, some d1, some (pgD f'), some (plD h)])) (r : List Pl) :
    ∀ (hs : List Pl) (f : List Pl) (z : Option PyData), CutsOk m N f hs → cuts f hs = some r → ForR (fun h ρ ρ1 => Bd (gName 3) ρ (plD h) ρ1 [3]) (DS X body) hs [some d0, some d1, some (pgD f), z] (.nx [some d0, some d1, some (pgD r), lzG plD z hs])
  | [], f, z, _, e => by
    have := Option.some.inj e
    subst this
    exact .nil
  | h :: hs, f, z, c, e => by
    obtain ⟨c1, c2, c3, c4, c5⟩ := c
    unfold cuts at e
    cases e2 : cutP f h with
    | none => rw [e2] at e; cases e
    | some f' =>
      rw [e2] at e
      exact .next (bd_name (by decide)) (step2 f h f' c1 c2 c3 c4 e2) (meet_some step2 r hs f' _ (c5 f' e2) e)
end
theorem isNone_opt : ∀ o : Option (List Pl), isNone (optD o) = o.isNone
  | none => rfl
  | some _ => rfl
theorem kn_meet (T : Top mg) (F : Fd K mg "meet" (topS 51) ["one", "other"]) (G : Kn P w K mg base "borders" 6 R_borders) (G2 : Kn P w K mg base "cut_plate" 7 R_cut) (G3 : Kn P w K mg base "has_place" 5 R_hasPlace) : Kn P w K mg base "meet" 8 R_meet := by
  refine kn F sc_meet (by rintro ds d ⟨a, b, k, n, N, rfl, _⟩; rfl) fun f cdv A outer s H E hr ds d => ?_
  rintro ⟨one, other, k, n, N, rfl, h1, hl1, hl2, hk, hn, h2, nd, a1, a2, hb, hc, rfl⟩
  refine ds_cond (k := decide (other.length = 1)) (DT.is (t_eqI (d_lenT T (d_v 1)) d_int) (by rw [List.length_map]; exact decide_eq_decide.mpr (by omega))) (fun h => ?_) fun h => ?_
  · have h := of_decide_eq_true h
    have hd := a2 _ (head_mem h2)
    have e0 : meetP one other = if hasPlace one (other.headD (0, 0, 1)) = true then some other else none := by unfold meetP; rw [if_pos h]
    have hN : k ≤ 4400 := by omega
    refine ds_rt (s_ret (d_if (t_v (d_call G3 (hr.mono (by decide)) (da_cons (d_v 0) (da_cons (d_ixT (at_head h2) (d_v 1) d_int) da_nil)) ⟨one, _, max k n, rfl, h1, hl1, by omega, a1.mono (by omega), hd.mono (by omega), rfl⟩)) (fun c => DE.is (d_v 1) ?_) fun c => DE.is d_non ?_))
    · rw [e0, if_pos c]; rfl
    · rw [e0, if_neg (fun z => Bool.noConfusion (c.symm.trans z))]; rfl
  · have h := of_decide_eq_false h
    refine ds_cons (s_set 2 sc_meet.nd (d_v 0)) ?_
    have e0 : meetP one other = cuts one (bordersP other) := by unfold meetP; rw [if_neg h]
    rw [e0]
    cases e : cuts one (bordersP other) with
    | none =>
      exact ds_rt (s_for (xs := bordersP other) (enc := plD) (vs := [3]) rfl (di_list (d_call G (hr.mono (by decide)) (da_cons (d_v 1) da_nil) ⟨other, k, rfl, hl2, hk, nd, a2, rfl⟩)) (pg_name (i := 3) sc_meet.nd rfl (.inl rfl))
        (meet_none (m := 3 * k + 2) (N := N) (fun f h c1 c2 c3 c4 e => ds_cons (s_set 2 sc_meet.nd (DE.is (d_call G2 hr (da_cons (d_v 2) (da_cons (d_v 3) da_nil)) ⟨f, h, 3 * k + 2, N, rfl, c1, c2, hb, c3, c4, rfl⟩) (congrArg optD e))) (ds_rt (s_if (k := true) (DT.is (t_isN (d_v 2)) rfl) (fun _ => ds_rt (s_ret d_non)) (fun z => nomatch z))))
          (fun f h f' c1 c2 c3 c4 e => ds_cons (s_set 2 sc_meet.nd (DE.is (d_call G2 hr (da_cons (d_v 2) (da_cons (d_v 3) da_nil)) ⟨f, h, 3 * k + 2, N, rfl, c1, c2, hb, c3, c4, rfl⟩) (congrArg optD e))) (ds_cons (s_skip (DT.is (t_isN (d_v 2)) rfl)) ds_nil)) (bordersP other) one none hc e))
    | some r =>
      exact ds_cons (s_for (xs := bordersP other) (enc := plD) (vs := [3]) rfl (di_list (d_call G (hr.mono (by decide)) (da_cons (d_v 1) da_nil) ⟨other, k, rfl, hl2, hk, nd, a2, rfl⟩)) (pg_name (i := 3) sc_meet.nd rfl (.inl rfl))
        (meet_some (m := 3 * k + 2) (N := N) (fun f h f' c1 c2 c3 c4 e => ds_cons (s_set 2 sc_meet.nd (DE.is (d_call G2 hr (da_cons (d_v 2) (da_cons (d_v 3) da_nil)) ⟨f, h, 3 * k + 2, N, rfl, c1, c2, hb, c3, c4, rfl⟩) (congrArg optD e))) (ds_cons (s_skip (DT.is (t_isN (d_v 2)) rfl)) ds_nil)) r (bordersP other) one none hc e)) (ds_rt (s_ret (d_v 2)))
end
end PH

set_option Elab.async false
set_option linter.all false
set_option maxRecDepth 100000
set_option maxHeartbeats 1000000
namespace PH
open PySem PySem.Spec PyProof.Rows L2
/-- the turn of a rule, as the law draws it: (0, b, 1, d, 0, 0, n) -/
structure Ru where
  b : Int
  d : Int
  n : Int
def ruD (r : Ru) : PyData := .tuple [.int 0, .int r.b, .int 1, .int r.d, .int 0, .int 0, .int r.n]
def ledPl (r : Ru) (p : Pl) : Pl := mkPl (0 * p.1 + r.b * p.2.1 + 0 * p.2.2) (1 * p.1 + r.d * p.2.1 + 0 * p.2.2) (r.n * p.2.2)
def ledP (r : Ru) (ps : List Pl) : List Pl := hullP (ps.map (ledPl r))
structure RuOk (r : Ru) : Prop where
  b : Sm 4 r.b
  d : Sm 4 r.d
  n : Sm 4 r.n
  pos : 0 < r.n
theorem ledPl_ok {n : Nat} {r : Ru} {p : Pl} (hr : RuOk r) (hp : PlOk n p) : PlOk (n + 8) (ledPl r p) := by
  have z : Sm 0 0 := by decide
  have o : Sm 1 1 := by decide
  have x1 := ((z.mul hp.x).mono (show 0 + n ≤ 4 + n by omega)).add (hr.b.mul hp.y)
  have x2 := x1.add ((z.mul hp.d).mono (show 0 + n ≤ 4 + n + 1 by omega))
  have y1 := ((o.mul hp.x).mono (show 1 + n ≤ 4 + n by omega)).add (hr.d.mul hp.y)
  have y2 := y1.add ((z.mul hp.d).mono (show 0 + n ≤ 4 + n + 1 by omega))
  exact mkPl_ok (Int.mul_ne_zero (by have := hr.pos; omega) hp.ne) (x2.mono (by omega)) (y2.mono (by omega)) ((hr.n.mul hp.d).mono (by omega))
def inD (s : List Pl × Int) : PyData := .tuple [pgD s.1, .int s.2]
def insideP (ps : List Pl) : List (List Pl × Int) :=
  if ps.length = 1 then [(ps, 1)] else [(ps, 1)] ++ ((if 2 < ps.length then (sidesP ps).map (fun s => (hullP [s.2.1, s.2.2], -1)) else []) ++ ps.map fun p => ([p], if 2 < ps.length then 1 else -1))
section
variable {P : Program} {w : World} {K : PySem.W.Frag} {mg : Str → Option Value} {base : Heap}
def R_put (ds : List PyData) (d : PyData) : Prop := ∃ (one other : List Pl) (n : Nat), ds = [pgD one, pgD other] ∧ one ≠ [] ∧ other ≠ [] ∧ one.length * other.length ≤ 64 ∧ n ≤ 2000 ∧ AllOk n one ∧ AllOk n other ∧ d = pgD (putP one other)
theorem sc_put : FnScope ["one", "other", "p", "q"] ["one", "other"] (defScope (topS 52)) := ⟨rfl, rfl, rfl, by decide +kernel, rfl, by decide +kernel, by decide +kernel⟩
theorem putL_ok {n : Nat} {one other : List Pl} (h1 : AllOk n one) (h2 : AllOk n other) : AllOk (n + n + 1) (one.flatMap fun p => other.map fun q => moved p q) := fun x hx => by
  obtain ⟨p, hp, hx⟩ := List.mem_flatMap.mp hx
  obtain ⟨q, hq, rfl⟩ := List.mem_map.mp hx
  exact moved_ok (h1 p hp) (h2 q hq)
theorem putL_len (one other : List Pl) : (one.flatMap fun p => other.map fun q => moved p q).length = one.length * other.length := by
  rw [List.length_flatMap]
  rw [show (one.map fun p => (other.map fun q => moved p q).length) = one.map fun _ => other.length from List.map_congr_left fun _ _ => List.length_map _, List.map_const', List.sum_replicate_nat]
theorem kn_put (F : Fd K mg "put" (topS 52) ["one", "other"]) (G : Kn P w K mg base "hull" 6 R_hull) (G2 : Kn P w K mg base "moved" 3 (R_pp moved)) : Kn P w K mg base "put" 7 R_put := by
  refine kn F sc_put (by rintro ds d ⟨a, b, n, rfl, _⟩; rfl) fun f cdv A outer s H E hr ds d => ?_
  rintro ⟨one, other, n, rfl, n1, n2, hl, hn, h1, h2, rfl⟩
  have ne : (one.flatMap fun p => other.map fun q => moved p q) ≠ [] := by
    intro e
    have := putL_len one other
    rw [e] at this
    have a := List.length_pos_iff.mpr n1
    have b := List.length_pos_iff.mpr n2
    have := Nat.mul_pos a b
    simp at *
    omega
  exact ds_rt (s_ret (d_call G hr (da_cons (d_lc2 (own := [("p", 2), ("q", 3)]) (vs1 := [3]) (g := gName 2) (g1 := gName 3) (xs := one) (ys := other) (enc := plD) (enc1 := plD) (f2 := fun p q => plD (moved p q)) rfl sc_put.nd (bk (by decide +kernel)) (by decide) (di_tup (d_v 0)) (fun _ _ _ _ _ => pg_name (i := 2) sc_put.nd rfl (Or.inl rfl)) (fun _ _ => bd_name (by decide))
    (fun _ _ _ _ _ _ _ => di_tup (d_v 1)) (fun _ _ _ _ _ => pg_name (i := 3) sc_put.nd rfl (Or.inl rfl)) (fun _ _ _ _ => bd_name (by decide)) (fun p hp q hq _ _ _ _ _ => d_call G2 (hr.mono (by decide)) (da_cons (d_v 2) (da_cons (d_v 3) da_nil)) ⟨p, q, n, rfl, by omega, h1 p hp, h2 q hq, rfl⟩) (by omega)) da_nil)
    ⟨_, n + n + 1, false, by rw [List.map_flatMap]; show [PyData.list _] = [PyData.list _]; congr 3; funext p; rw [List.map_map]; rfl, ne, by rw [putL_len]; exact hl, by omega, putL_ok h1 h2, rfl⟩))
def R_mirror (ds : List PyData) (d : PyData) : Prop := ∃ (ps : List Pl) (n : Nat), ds = [pgD ps] ∧ ps ≠ [] ∧ ps.length ≤ 64 ∧ n ≤ 4000 ∧ AllOk n ps ∧ d = pgD (mirrorP ps)
theorem sc_mirror : FnScope ["plate", "p"] ["plate"] (defScope (topS 53)) := ⟨rfl, rfl, rfl, by decide +kernel, rfl, by decide +kernel, by decide +kernel⟩
theorem scaled_ok {n : Nat} {p : Pl} (h : PlOk n p) : PlOk (n + 1) (scaledN p) := mkPl_ok (Int.mul_ne_zero h.ne (by decide)) ((h.x.mul sm1)) ((h.y.mul sm1)) ((h.d.mul sm1'))
theorem kn_mirror (F : Fd K mg "mirror" (topS 53) ["plate"]) (G : Kn P w K mg base "hull" 6 R_hull) (G2 : Kn P w K mg base "scaled" 3 R_scaled) : Kn P w K mg base "mirror" 7 R_mirror := by
  refine kn F sc_mirror (by rintro ds d ⟨a, n, rfl, _⟩; rfl) fun f cdv A outer s H E hr ds d => ?_
  rintro ⟨ps, n, rfl, ne, hl, hn, h1, rfl⟩
  exact ds_rt (s_ret (d_call G hr (da_cons (d_lc (own := [("p", 1)]) (g := gName 1) (xs := ps) (enc := plD) (f := fun p => plD (scaledN p)) rfl sc_mirror.nd (bk (by decide +kernel)) (di_tup (d_v 0)) (fun _ _ _ _ _ => pg_name (i := 1) sc_mirror.nd rfl (Or.inl rfl)) (fun _ _ => bd_name (by decide))
    (fun p hp _ _ _ _ _ => d_call G2 (hr.mono (by decide)) (da_cons (d_v 1) (da_cons (d_neg d_int) (da_cons d_int da_nil))) ⟨p, n, rfl, by omega, h1 p hp, rfl⟩) (by omega)) da_nil)
    ⟨ps.map scaledN, n + 1, false, by rw [List.map_map]; rfl, by simpa using ne, by rw [List.length_map]; exact hl, by omega, fun x hx => by obtain ⟨p, hp, rfl⟩ := List.mem_map.mp hx; exact scaled_ok (h1 p hp), rfl⟩))
def R_ledPlace (ds : List PyData) (d : PyData) : Prop := ∃ (p : Pl) (r : Ru) (n : Nat), ds = [plD p, ruD r] ∧ n ≤ 4000 ∧ PlOk n p ∧ RuOk r ∧ d = plD (ledPl r p)
theorem sc_ledPlace : FnScope ["p", "rule", "a", "b", "c", "d", "e", "f", "n"] ["p", "rule"] (defScope (topS 54)) := ⟨rfl, rfl, rfl, by decide +kernel, rfl, by decide +kernel, by decide +kernel⟩
theorem kn_ledPlace (F : Fd K mg "led_place" (topS 54) ["p", "rule"]) (G : Kn P w K mg base "place" 2 R_place) : Kn P w K mg base "led_place" 3 R_ledPlace := by
  refine kn F sc_ledPlace (by rintro ds d ⟨a, r, n, rfl, _⟩; rfl) fun f cdv A outer s H E hr ds d => ?_
  rintro ⟨p, r, n, rfl, hn, hp, hR, rfl⟩
  have z : Sm 0 0 := by decide
  have o : Sm 1 1 := by decide
  exact ds_cons (s_asg (vs := [2, 3, 4, 5, 6, 7, 8]) (d_v 1) (pg_tup (n := 7) rfl (pgs_cons (pg_name (i := 2) sc_ledPlace.nd rfl (.inl rfl)) (pgs_cons (pg_name (i := 3) sc_ledPlace.nd rfl (.inl rfl)) (pgs_cons (pg_name (i := 4) sc_ledPlace.nd rfl (.inl rfl)) (pgs_cons (pg_name (i := 5) sc_ledPlace.nd rfl (.inl rfl)) (pgs_cons (pg_name (i := 6) sc_ledPlace.nd rfl (.inl rfl)) (pgs_cons (pg_name (i := 7) sc_ledPlace.nd rfl (.inl rfl)) (pgs_cons (pg_name (i := 8) sc_ledPlace.nd rfl (.inl rfl)) pgs_nil))))))))
      (bd_tup (bds_cons (bd_name (by decide)) (bds_cons (bd_name (by decide)) (bds_cons (bd_name (by decide)) (bds_cons (bd_name (by decide)) (bds_cons (bd_name (by decide)) (bds_cons (bd_name (by decide)) (bds_cons (bd_name (by decide)) bds_nil))))))) rfl))
    (ds_rt (s_ret (d_call G hr (da_cons (d_add (d_add (d_mul (cm z hp.x (by omega)) (d_v 2) (d_ixT rfl (d_v 0) d_int)) (d_mul (cm hR.b hp.y (by omega)) (d_v 3) (d_ixT rfl (d_v 0) d_int))) (d_mul (cm z hp.d (by omega)) (d_v 6) (d_ixT rfl (d_v 0) d_int)))
      (da_cons (d_add (d_add (d_mul (cm o hp.x (by omega)) (d_v 4) (d_ixT rfl (d_v 0) d_int)) (d_mul (cm hR.d hp.y (by omega)) (d_v 5) (d_ixT rfl (d_v 0) d_int))) (d_mul (cm z hp.d (by omega)) (d_v 7) (d_ixT rfl (d_v 0) d_int))) (da_cons (d_mul (cm hR.n hp.d (by omega)) (d_v 8) (d_ixT rfl (d_v 0) d_int)) da_nil)))
      ⟨_, _, _, rfl, Int.mul_ne_zero (by have := hR.pos; omega) hp.ne, (hR.n.mul hp.d).mono (by omega), rfl⟩)))
def R_led (ds : List PyData) (d : PyData) : Prop := ∃ (ps : List Pl) (r : Ru) (n : Nat), ds = [pgD ps, ruD r] ∧ ps ≠ [] ∧ ps.length ≤ 64 ∧ n ≤ 4000 ∧ AllOk n ps ∧ RuOk r ∧ d = pgD (ledP r ps)
theorem sc_led : FnScope ["plate", "rule", "p"] ["plate", "rule"] (defScope (topS 55)) := ⟨rfl, rfl, rfl, by decide +kernel, rfl, by decide +kernel, by decide +kernel⟩
theorem kn_led (F : Fd K mg "led" (topS 55) ["plate", "rule"]) (G : Kn P w K mg base "hull" 6 R_hull) (G2 : Kn P w K mg base "led_place" 3 R_ledPlace) : Kn P w K mg base "led" 7 R_led := by
  refine kn F sc_led (by rintro ds d ⟨a, r, n, rfl, _⟩; rfl) fun f cdv A outer s H E hr ds d => ?_
  rintro ⟨ps, r, n, rfl, ne, hl, hn, h1, hR, rfl⟩
  exact ds_rt (s_ret (d_call G hr (da_cons (d_lc (own := [("p", 2)]) (g := gName 2) (xs := ps) (enc := plD) (f := fun p => plD (ledPl r p)) rfl sc_led.nd (bk (by decide +kernel)) (di_tup (d_v 0)) (fun _ _ _ _ _ => pg_name (i := 2) sc_led.nd rfl (Or.inl rfl)) (fun _ _ => bd_name (by decide))
    (fun p hp _ _ _ _ _ => d_call G2 (hr.mono (by decide)) (da_cons (d_v 2) (da_cons (d_v 1) da_nil)) ⟨p, r, n, rfl, by omega, h1 p hp, hR, rfl⟩) (by omega)) da_nil)
    ⟨ps.map (ledPl r), n + 8, false, by rw [List.map_map]; rfl, by simpa using ne, by rw [List.length_map]; exact hl, by omega, fun x hx => by obtain ⟨p, hp, rfl⟩ := List.mem_map.mp hx; exact ledPl_ok hR (h1 p hp), rfl⟩))
def R_inside (ds : List PyData) (d : PyData) : Prop := ∃ (ps : List Pl) (n : Nat), ds = [pgD ps] ∧ ps.length ≤ 64 ∧ n ≤ 4400 ∧ AllOk n ps ∧ d = .list ((insideP ps).map inD)
theorem sc_inside : FnScope ["plate", "normal", "p", "q", "edges", "sign"] ["plate"] (defScope (topS 56)) := ⟨rfl, rfl, rfl, by decide +kernel, rfl, by decide +kernel, by decide +kernel⟩
theorem kn_inside (T : Top mg) (F : Fd K mg "inside" (topS 56) ["plate"]) (G : Kn P w K mg base "hull" 6 R_hull) (G2 : Kn P w K mg base "sides" 5 R_sides) : Kn P w K mg base "inside" 7 R_inside := by
  refine kn F sc_inside (by rintro ds d ⟨a, n, rfl, _⟩; rfl) fun f cdv A outer s H E hr ds d => ?_
  rintro ⟨ps, n, rfl, hl, hn, hps, rfl⟩
  have sl : (sidesP ps).length ≤ 64 := by unfold sidesP; rw [List.length_map]; have := nbrs_len ps; omega
  have side : ∀ x ∈ sidesP ps, AllOk n [x.2.1, x.2.2] := fun x hx p hp => by
    obtain ⟨e, he, rfl⟩ := List.mem_map.mp hx
    rcases List.mem_cons.mp hp with rfl | hp
    · exact hps _ (nbrs_mem he).1
    · rw [List.mem_singleton.mp hp]
      exact hps _ (nbrs_mem he).2.1
  have len2 : ∀ {k : Int} {j : Nat}, ((j : Nat) : Int) = k → decide (k < ((ps.map plD).length : Int)) = decide (j < ps.length) := fun e => by rw [List.length_map]; exact decide_eq_decide.mpr (by omega)
  refine ds_cond (k := decide (ps.length = 1)) (DT.is (t_eqI (d_lenT T (d_v 0)) d_int) (by rw [List.length_map]; exact decide_eq_decide.mpr (by omega))) (fun h => ds_rt (s_ret (DE.is (d_lst (da_cons (d_tup (da_cons (d_v 0) (da_cons d_int da_nil))) da_nil)) ?_))) fun h => ?_
  · unfold insideP; rw [if_pos (of_decide_eq_true h)]; rfl
  · refine ds_cons (s_set 4 sc_inside.nd (d := .list ((if 2 < ps.length then (sidesP ps).map (fun s => (hullP [s.2.1, s.2.2], (-1 : Int))) else []).map inD)) (d_if (k := decide (2 < ps.length)) (DT.is (t_gt (d_lenT T (d_v 0)) d_int) (len2 rfl)) (fun c => DE.is (d_lc (own := [("normal", 1), ("p", 2), ("q", 3)]) (g := gTup _ 3 (gCons (gName 1) (gCons (gName 2) (gCons (gName 3) gNil)))) (xs := sidesP ps) (enc := sdD) (f := fun s => inD (hullP [s.2.1, s.2.2], -1)) rfl sc_inside.nd (bk (by decide +kernel))
        (di_list (d_call G2 (hr.mono (by decide)) (da_cons (d_v 0) da_nil) ⟨ps, n, rfl, by omega, hn, hps, rfl⟩)) (fun _ _ _ _ _ => pg_tup (n := 3) rfl (pgs_cons (pg_name (i := 1) sc_inside.nd rfl (.inl rfl)) (pgs_cons (pg_name (i := 2) sc_inside.nd rfl (.inl rfl)) (pgs_cons (pg_name (i := 3) sc_inside.nd rfl (.inl rfl)) pgs_nil)))) (fun _ _ => bd_tup (bds_cons (bd_name (by decide)) (bds_cons (bd_name (by decide)) (bds_cons (bd_name (by decide)) bds_nil))) rfl)
        (fun x hx _ _ _ _ _ => d_tup (da_cons (d_call G hr (da_cons (d_lst (da_cons (d_v 2) (da_cons (d_v 3) da_nil))) da_nil) ⟨[x.2.1, x.2.2], n, false, rfl, by simp, by show 2 ≤ 64; decide, hn, side x hx, rfl⟩) (da_cons (d_neg d_int) da_nil))) (by omega)) ?_) fun c => DE.is (d_lst da_nil) ?_)) ?_
    · rw [if_pos (of_decide_eq_true c), List.map_map]; rfl
    · rw [if_neg (of_decide_eq_false c)]; rfl
    · refine ds_cons (s_set 5 sc_inside.nd (d := .int (if 2 < ps.length then 1 else -1)) (d_if (k := decide (2 < ps.length)) (DT.is (t_gt (d_lenT T (d_v 0)) d_int) (len2 rfl)) (fun c => DE.is d_int (by rw [if_pos (of_decide_eq_true c)])) fun c => DE.is (d_neg d_int) (by rw [if_neg (of_decide_eq_false c)]))) ?_
      refine ds_rt (s_ret (DE.is (d_lst (da_cons (d_tup (da_cons (d_v 0) (da_cons d_int da_nil))) (da_star (d_v 4) (da_star (d_lc (own := [("p", 2)]) (g := gName 2) (xs := ps) (enc := plD) (f := fun p => inD ([p], if 2 < ps.length then 1 else -1)) rfl sc_inside.nd (bk (by decide +kernel)) (di_tup (d_v 0)) (fun _ _ _ _ _ => pg_name (i := 2) sc_inside.nd rfl (Or.inl rfl)) (fun _ _ => bd_name (by decide))
        (fun p hp _ _ _ _ _ => d_tup (da_cons (d_tup (da_cons (d_v 2) da_nil)) (da_cons (d_v 5) da_nil))) (by omega)) da_nil))) ?_) ?_))
      · rw [List.length_cons, List.length_append, List.length_append, List.length_map, List.length_map]
        have : (if 2 < ps.length then (sidesP ps).map (fun s => (hullP [s.2.1, s.2.2], (-1 : Int))) else []).length ≤ 64 := by
          split
          · rw [List.length_map]; exact sl
          · simp
        simp only [List.length_nil]
        omega
      · unfold insideP
        rw [if_neg (of_decide_eq_false h), List.map_append, List.map_append, List.map_map, List.append_nil]
        rfl
end
end PH

set_option Elab.async false
set_option linter.all false
set_option maxRecDepth 100000
set_option maxHeartbeats 1000000
namespace PH
open PySem PySem.Spec PyProof.Rows L2
theorem cut_drop {H : Hp} (k : Nat) (xs : List V) (ds : List PyData) (h : DqA H xs ds) (hk : k ≤ ds.length) : DqA H (cutV xs (some (k : Int)) none) (ds.drop k) := by
  unfold cutV
  rw [show HT.sIx xs.length 0 (some (k : Int)) = min k xs.length from HT.sIx_nat xs.length 0 k, HT.sIx_none]
  have hl := h.length
  have e : (xs.drop (min k xs.length)).take (xs.length - min k xs.length) = xs.drop k := by
    rw [show min k xs.length = k by omega]
    exact List.take_of_length_le (by rw [List.length_drop]; omega)
  rw [e]
  exact h.drop k
/-- xs[k:], k computed -/
theorem d_drop {X : Cx} {ρ : En} {a b : Expr} {pos p3 : Pos} {ds : List PyData} {k : Nat} (hk : k ≤ ds.length) (h : DE X a ρ (.list ds)) (h2 : DE X b ρ (.int (k : Int))) : DE X (.Subscript a (.Slice (some b) none none p3) pos) ρ (.list (ds.drop k)) :=
  de_of (pe_slice sl_list (pe_self X a) (po_some (pe_self X b)) po_none) fun σ Hc H s R Q q => h σ Hc H s R _ fun v Hc1 H1 s1 d1 => h2 σ Hc1 H1 s1.sub (R.mono s1.cc) _ fun u Hc2 H2 s2 d2 => by
    cases d2
    cases d1 with
    | lst a1 a2 =>
      exact ⟨k, rfl, _, _, rfl, SqL.of (s2.hh _ _ (s1.sub _ _ a1)), fun p hp => q _ _ _ ((s1.trans s2).trans (Step.new s2.sub hp)) (.lst upd_same ((cut_drop k _ _ a2 hk).mono (s2.cc.trans (same_new (s2.sub.free hp)))))⟩
section
variable {P : Program} {w : World} {K : PySem.W.Frag} {mg : Str → Option Value} {base : Heap}
/-! ### _law_common -/
theorem WhR.more {c : En → Bool → Prop} {body : En → Out → Prop} : ∀ {n : Nat} {ρ : En} {o : Out}, WhR c body n ρ o → WhR c body (n + 1) ρ o
  | _, _, _, .done h => .done h
  | _, _, _, .turn a b h => .turn a b h.more
def R_lcommon (ds : List PyData) (d : PyData) : Prop := ∃ a b : Int, ds = [.int a, .int b] ∧ d = .int (a.natAbs.gcd b.natAbs : Nat)
theorem sc_lcommon : FnScope ["_law_a", "_law_b"] ["_law_a", "_law_b"] (defScope (topS 60)) := ⟨rfl, rfl, rfl, by decide +kernel, rfl, by decide +kernel, by decide +kernel⟩
theorem common_wh {X : Cx} {c : Expr} {body : List Stmt} (test : ∀ a b : Nat, DT X c [some (.int a), some (.int b)] (!decide ((b : Int) = 0))) (step : ∀ a b : Nat, b ≠ 0 → DS X body [some (.int a), some (.int b)] (.nx [some (.int b), some (.int (a % b : Nat))])) :
    ∀ n b a : Nat, b ≤ n → WhR (DT X c) (DS X body) n [some (.int a), some (.int b)] (.nx [some (.int (a.gcd b : Nat)), some (.int 0)])
  | 0, b, a, h => by
    obtain rfl : b = 0 := by omega
    rw [Nat.gcd_zero_right]
    exact .done (test a 0)
  | n + 1, b, a, h => by
    by_cases hb : b = 0
    · subst hb
      rw [Nat.gcd_zero_right]
      exact .done (test a 0)
    · refine .turn ((test a b).is (by simp; omega)) (step a b hb) ?_
      rw [Nat.gcd_comm a b, Nat.gcd_rec, Nat.gcd_comm (a % b) b]
      exact common_wh test step n (a % b) b (by have := Nat.mod_lt a (show 0 < b by omega); omega)
theorem kn_lcommon (T : Top mg) (F : Fd K mg "_law_common" (topS 60) ["_law_a", "_law_b"]) : Kn P w K mg base "_law_common" 1 R_lcommon := by
  refine kn F sc_lcommon (by rintro ds d ⟨a, b, rfl, _⟩; rfl) fun f cdv A outer s H E hr ds d => ?_
  rintro ⟨a, b, rfl, rfl⟩
  exact ds_cons (s_par rfl sc_lcommon.nd (i := 0) (j := 1) rfl rfl (by decide) (d_abs T (d_v 0)) (d_abs T (d_v 1)))
    (ds_cons (s_while (common_wh (fun a b => t_neI (d_v 1) d_int) (fun a b hb => ds_cons (s_par rfl sc_lcommon.nd (i := 0) (j := 1) rfl rfl (by decide) (d_v 1) (DE.is (d_mod (i := (a : Int)) (j := (b : Int)) (by omega) (d_v 0) (d_v 1)) (by rw [Int.fmod_eq_emod_of_nonneg _ (by omega)]; rfl))) ds_nil) b.natAbs b.natAbs a.natAbs (Nat.le_refl _)))
      (ds_rt (s_ret (d_v 0))))
theorem sc_lplace : FnScope ["_law_x", "_law_y", "_law_d", "_law_n"] ["_law_x", "_law_y", "_law_d"] (defScope (topS 61)) := ⟨rfl, rfl, rfl, by decide +kernel, rfl, by decide +kernel, by decide +kernel⟩
theorem sg_of (z : Int) (g : Nat) : (g : Int) * (if 0 < z then 1 else 0 - 1) = sg z g := by unfold sg; split <;> omega
theorem sg_sm {n : Nat} {z : Int} {g : Nat} (h : Sm n (g : Int)) : Sm n (sg z g) := by unfold Sm at *; rw [sg_abs]; simpa using h
theorem gcd_sm_r {n a : Nat} {b : Int} (h0 : b ≠ 0) (h : Sm n b) : Sm n ((a.gcd b.natAbs : Nat) : Int) := by
  unfold Sm at *
  rw [Int.natAbs_natCast]
  exact Nat.lt_of_le_of_lt (Nat.le_of_dvd (by omega) (Nat.gcd_dvd_right _ _)) h
theorem kn_lplace (F : Fd K mg "_law_place" (topS 61) ["_law_x", "_law_y", "_law_d"]) (G : Kn P w K mg base "_law_common" 1 R_lcommon) : Kn P w K mg base "_law_place" 2 R_place := by
  refine kn F sc_lplace (by rintro ds d ⟨x, y, z, rfl, _⟩; rfl) fun f cdv A outer s H E hr ds d => ?_
  rintro ⟨x, y, z, rfl, hz, sz, rfl⟩
  have g0 := sg_ne (z := z) (gcd3_pos (x := x) (y := y) hz)
  have gs : Sm 8999 ((gcd3 x y z : Nat) : Int) := gcd_sm_r hz sz
  have o : Sm 1 1 := by decide
  have o' : Sm 1 (0 - 1) := by decide
  have ho : Sm 1 (if 0 < z then 1 else 0 - 1 : Int) := by split <;> assumption
  refine ds_cons (s_set 3 sc_lplace.nd (d := .int (sg z (gcd3 x y z))) (DE.is (d_mul (i := ((gcd3 x y z : Nat) : Int)) (j := if 0 < z then 1 else 0 - 1) (cm gs ho (by decide)) (DE.is (d_call G hr (da_cons (d_call G hr (da_cons (d_v 0) (da_cons (d_v 1) da_nil)) ⟨x, y, rfl, rfl⟩) (da_cons (d_v 2) da_nil)) ⟨_, z, rfl, rfl⟩) (by rw [Int.natAbs_natCast]; rfl))
      (d_if (t_gt (d_v 2) d_int) (fun h => DE.is d_int (by rw [if_pos (of_decide_eq_true h)])) fun h => DE.is (d_sub d_int d_int) (by rw [if_neg (of_decide_eq_false h)]))) (congrArg PyData.int (sg_of z _)))) ?_
  exact ds_rt (s_ret (d_tup (da_cons (d_div (cz g0 (sg_sm gs) (by decide)) (d_v 0) (d_v 3)) (da_cons (d_div (cz g0 (sg_sm gs) (by decide)) (d_v 1) (d_v 3)) (da_cons (d_div (cz g0 (sg_sm gs) (by decide)) (d_v 2) (d_v 3)) da_nil)))))
theorem sc_lfraction : FnScope ["_law_p", "_law_q", "_law_n"] ["_law_p", "_law_q"] (defScope (topS 62)) := ⟨rfl, rfl, rfl, by decide +kernel, rfl, by decide +kernel, by decide +kernel⟩
theorem kn_lfraction (F : Fd K mg "_law_fraction" (topS 62) ["_law_p", "_law_q"]) (G : Kn P w K mg base "_law_common" 1 R_lcommon) : Kn P w K mg base "_law_fraction" 2 R_fraction := by
  refine kn F sc_lfraction (by rintro ds d ⟨x, y, rfl, _⟩; rfl) fun f cdv A outer s H E hr ds d => ?_
  rintro ⟨x, z, rfl, hz, sz, rfl⟩
  have g0 := sg_ne (z := z) (show 0 < x.natAbs.gcd z.natAbs from Nat.gcd_pos_of_pos_right _ (by omega))
  have gs : Sm 8999 ((x.natAbs.gcd z.natAbs : Nat) : Int) := gcd_sm_r hz sz
  have o : Sm 1 1 := by decide
  have o' : Sm 1 (0 - 1) := by decide
  have ho : Sm 1 (if 0 < z then 1 else 0 - 1 : Int) := by split <;> assumption
  refine ds_cons (s_set 2 sc_lfraction.nd (d := .int (sg z (x.natAbs.gcd z.natAbs))) (DE.is (d_mul (i := ((x.natAbs.gcd z.natAbs : Nat) : Int)) (j := if 0 < z then 1 else 0 - 1) (cm gs ho (by decide)) (d_call G hr (da_cons (d_v 0) (da_cons (d_v 1) da_nil)) ⟨x, z, rfl, rfl⟩)
      (d_if (t_gt (d_v 1) d_int) (fun h => DE.is d_int (by rw [if_pos (of_decide_eq_true h)])) fun h => DE.is (d_sub d_int d_int) (by rw [if_neg (of_decide_eq_false h)]))) (congrArg PyData.int (sg_of z _)))) ?_
  exact ds_rt (s_ret (d_tup (da_cons (d_div (cz g0 (sg_sm gs) (by decide)) (d_v 0) (d_v 2)) (da_cons (d_div (cz g0 (sg_sm gs) (by decide)) (d_v 1) (d_v 2)) da_nil))))
theorem sc_ldirection : FnScope ["_law_a", "_law_b", "_law_n"] ["_law_a", "_law_b"] (defScope (topS 63)) := ⟨rfl, rfl, rfl, by decide +kernel, rfl, by decide +kernel, by decide +kernel⟩
theorem kn_ldirection (F : Fd K mg "_law_direction" (topS 63) ["_law_a", "_law_b"]) (G : Kn P w K mg base "_law_common" 1 R_lcommon) : Kn P w K mg base "_law_direction" 2 R_direction := by
  refine kn F sc_ldirection (by rintro ds d ⟨x, y, rfl, _⟩; rfl) fun f cdv A outer s H E hr ds d => ?_
  rintro ⟨x, y, rfl, hne, sx, sy, rfl⟩
  have gs := gcd2_sm hne sx sy
  exact ds_cons (s_set 2 sc_ldirection.nd (d_call G hr (da_cons (d_v 0) (da_cons (d_v 1) da_nil)) ⟨x, y, rfl, rfl⟩)) (ds_rt (s_ret (d_tup (da_cons (d_div (cz (gcd2_ne hne) gs (by decide)) (d_v 0) (d_v 2)) (da_cons (d_div (cz (gcd2_ne hne) gs (by decide)) (d_v 1) (d_v 2)) da_nil)))))
def halfL (u : Pr) (p : Pl) : Pl := mkHalf (u.1 * p.2.2) (u.2 * p.2.2) (u.1 * p.1 + u.2 * p.2.1)
def R_lhalf (ds : List PyData) (d : PyData) : Prop := ∃ (u : Pr) (p : Pl) (m n : Nat), ds = [prD u, plD p] ∧ m + n ≤ 8999 ∧ DirOk m u ∧ PlOk n p ∧ d = plD (halfL u p)
theorem sc_lhalf : FnScope ["_law_u", "_law_p", "_law_a", "_law_b", "_law_c", "_law_n"] ["_law_u", "_law_p"] (defScope (topS 71)) := ⟨rfl, rfl, rfl, by decide +kernel, rfl, by decide +kernel, by decide +kernel⟩
theorem half_ne {m n : Nat} {u : Pr} {p : Pl} (hu : DirOk m u) (hp : PlOk n p) : ¬ (u.1 * p.2.2 = 0 ∧ u.2 * p.2.2 = 0) := fun ⟨a, b⟩ => hu.ne ⟨(Int.mul_eq_zero.mp a).resolve_right hp.ne, (Int.mul_eq_zero.mp b).resolve_right hp.ne⟩
theorem kn_lhalf (F : Fd K mg "_law_half" (topS 71) ["_law_u", "_law_p"]) (G : Kn P w K mg base "_law_common" 1 R_lcommon) : Kn P w K mg base "_law_half" 2 R_lhalf := by
  refine kn F sc_lhalf (by rintro ds d ⟨x, y, m, n, rfl, _⟩; rfl) fun f cdv A outer s H E hr ds d => ?_
  rintro ⟨u, p, m, n, rfl, hmn, hu, hp, rfl⟩
  have hne := half_ne hu hp
  have g0 : ((gcd3 (u.1 * p.2.2) (u.2 * p.2.2) (u.1 * p.1 + u.2 * p.2.1) : Nat) : Int) ≠ 0 := by have := gcd3_half_pos (c := u.1 * p.1 + u.2 * p.2.1) hne; omega
  have gs := gcd3_half_sm (c := u.1 * p.1 + u.2 * p.2.1) hne (hu.a.mul hp.d) (hu.b.mul hp.d)
  exact ds_cons (s_par3 rfl sc_lhalf.nd (i := 2) (j := 3) (l := 4) rfl rfl rfl (by decide) (by decide) (by decide) (d_mul (cm hu.a hp.d (by omega)) (d_ixT rfl (d_v 0) d_int) (d_ixT rfl (d_v 1) d_int)) (d_mul (cm hu.b hp.d (by omega)) (d_ixT rfl (d_v 0) d_int) (d_ixT rfl (d_v 1) d_int))
      (d_add (d_mul (cm hu.a hp.x (by omega)) (d_ixT rfl (d_v 0) d_int) (d_ixT rfl (d_v 1) d_int)) (d_mul (cm hu.b hp.y (by omega)) (d_ixT rfl (d_v 0) d_int) (d_ixT rfl (d_v 1) d_int))))
    (ds_cons (s_set 5 sc_lhalf.nd (d := .int ((gcd3 (u.1 * p.2.2) (u.2 * p.2.2) (u.1 * p.1 + u.2 * p.2.1) : Nat) : Int)) (DE.is (d_call G hr (da_cons (d_call G hr (da_cons (d_v 2) (da_cons (d_v 3) da_nil)) ⟨_, _, rfl, rfl⟩) (da_cons (d_v 4) da_nil)) ⟨_, _, rfl, rfl⟩) (by rw [Int.natAbs_natCast]; rfl)))
      (ds_rt (s_ret (d_tup (da_cons (d_div (cz g0 gs hmn) (d_v 2) (d_v 5)) (da_cons (d_div (cz g0 gs hmn) (d_v 3) (d_v 5)) (da_cons (d_div (cz g0 gs hmn) (d_v 4) (d_v 5)) da_nil)))))))
end
end PH

set_option Elab.async false
set_option linter.all false
set_option maxRecDepth 100000
set_option maxHeartbeats 1000000
namespace PH
open PySem PySem.Spec PyProof.Rows L2
section
variable {P : Program} {w : World} {K : PySem.W.Frag} {mg : Str → Option Value} {base : Heap}
def midP (p q : Pl) : Pl := mkPl (p.1 * q.2.2 + q.1 * p.2.2) (p.2.1 * q.2.2 + q.2.1 * p.2.2) (2 * p.2.2 * q.2.2)
theorem sc_lmiddle : FnScope ["_law_p", "_law_q"] ["_law_p", "_law_q"] (defScope (topS 72)) := ⟨rfl, rfl, rfl, by decide +kernel, rfl, by decide +kernel, by decide +kernel⟩
theorem sm2 : Sm 2 2 := by decide
theorem kn_lmiddle (F : Fd K mg "_law_middle" (topS 72) ["_law_p", "_law_q"]) (G : Kn P w K mg base "_law_place" 2 R_place) : Kn P w K mg base "_law_middle" 3 (R_pp midP) := by
  refine kn F sc_lmiddle (by rintro ds d ⟨x, y, n, rfl, _⟩; rfl) fun f cdv A outer s H E hr ds d => ?_
  rintro ⟨p, q, n, rfl, hn, hp, hq, rfl⟩
  exact ds_rt (s_ret (d_call G hr (da_cons (d_add (d_mul (cm hp.x hq.d (by omega)) (d_ixT rfl (d_v 0) d_int) (d_ixT rfl (d_v 1) d_int)) (d_mul (cm hq.x hp.d (by omega)) (d_ixT rfl (d_v 1) d_int) (d_ixT rfl (d_v 0) d_int)))
    (da_cons (d_add (d_mul (cm hp.y hq.d (by omega)) (d_ixT rfl (d_v 0) d_int) (d_ixT rfl (d_v 1) d_int)) (d_mul (cm hq.y hp.d (by omega)) (d_ixT rfl (d_v 1) d_int) (d_ixT rfl (d_v 0) d_int)))
    (da_cons (d_mul (cm (sm2.mul hp.d) hq.d (by omega)) (d_mul (cm sm2 hp.d (by omega)) d_int (d_ixT rfl (d_v 0) d_int)) (d_ixT rfl (d_v 1) d_int)) da_nil))) ⟨_, _, _, rfl, Int.mul_ne_zero (Int.mul_ne_zero (by decide) hp.ne) hq.ne, ((sm2.mul hp.d).mul hq.d).mono (by omega), rfl⟩))
theorem sc_lheight : FnScope ["_law_u", "_law_p"] ["_law_u", "_law_p"] (defScope (topS 70)) := ⟨rfl, rfl, rfl, by decide +kernel, rfl, by decide +kernel, by decide +kernel⟩
theorem kn_lheight (F : Fd K mg "_law_height" (topS 70) ["_law_u", "_law_p"]) (G : Kn P w K mg base "_law_fraction" 2 R_fraction) : Kn P w K mg base "_law_height" 3 R_height := by
  refine kn F sc_lheight (by rintro ds d ⟨h, p, m, n, rfl, _⟩; rfl) fun f cdv A outer s H E hr ds d => ?_
  rintro ⟨u, p, m, n, rfl, hm, hn, hu, hp, rfl⟩
  exact ds_rt (s_ret (d_call G hr (da_cons (d_add (d_mul (cm hu.a hp.x (by omega)) (d_ixT rfl (d_v 0) d_int) (d_ixT rfl (d_v 1) d_int)) (d_mul (cm hu.b hp.y (by omega)) (d_ixT rfl (d_v 0) d_int) (d_ixT rfl (d_v 1) d_int))) (da_cons (d_ixT rfl (d_v 1) d_int) da_nil)) ⟨_, _, rfl, hp.ne, hp.d.mono (by omega), rfl⟩))
theorem sc_lfirst : FnScope ["_law_p", "_law_q"] ["_law_p", "_law_q"] (defScope (topS 64)) := ⟨rfl, rfl, rfl, by decide +kernel, rfl, by decide +kernel, by decide +kernel⟩
theorem lex2 (a b x y : Int) : HT.lexLt [a, b] [x, y] = if a ≠ x then decide (a < x) else decide (b < y) := by
  simp only [HT.lexLt]
  by_cases h : a = x
  · subst h; simp; omega
  · simp [h]
theorem kn_lfirst (F : Fd K mg "_law_first" (topS 64) ["_law_p", "_law_q"]) : Kn P w K mg base "_law_first" 1 R_first := by
  refine kn F sc_lfirst (by rintro ds d ⟨p, q, n, rfl, _⟩; rfl) fun f cdv A outer s H E hr ds d => ?_
  rintro ⟨p, q, n, rfl, hn, hp, hq, rfl⟩
  have e : comesFirst p q = if p.1 * q.2.2 ≠ q.1 * p.2.2 then decide (p.1 * q.2.2 < q.1 * p.2.2) else decide (p.2.1 * q.2.2 < q.2.1 * p.2.2) := lex2 _ _ _ _
  refine ds_cond (k := !decide (p.1 * q.2.2 = q.1 * p.2.2)) (t_neI (d_mul (cm hp.x hq.d (by omega)) (d_ixT rfl (d_v 0) d_int) (d_ixT rfl (d_v 1) d_int)) (d_mul (cm hq.x hp.d (by omega)) (d_ixT rfl (d_v 1) d_int) (d_ixT rfl (d_v 0) d_int))) (fun h => ?_) fun h => ?_
  · refine ds_rt (s_ret (DE.is (d_lt (d_mul (cm hp.x hq.d (by omega)) (d_ixT rfl (d_v 0) d_int) (d_ixT rfl (d_v 1) d_int)) (d_mul (cm hq.x hp.d (by omega)) (d_ixT rfl (d_v 1) d_int) (d_ixT rfl (d_v 0) d_int))) ?_))
    rw [e, if_pos (by simpa using h)]
  · refine ds_rt (s_ret (DE.is (d_lt (d_mul (cm hp.y hq.d (by omega)) (d_ixT rfl (d_v 0) d_int) (d_ixT rfl (d_v 1) d_int)) (d_mul (cm hq.y hp.d (by omega)) (d_ixT rfl (d_v 1) d_int) (d_ixT rfl (d_v 0) d_int))) ?_))
    rw [e, if_neg (by simpa using h)]
/-! ### _law_places -/
def insL (found : List Pl) (p : Pl) : List Pl := if p ∈ found then found else found.filter (fun q => comesFirst q p) ++ [p] ++ found.drop (found.filter fun q => comesFirst q p).length
def placesL (ps : List Pl) : List Pl := ps.foldl insL []
theorem insL_mem {found : List Pl} {p x : Pl} (h : x ∈ insL found p) : x ∈ found ∨ x = p := by
  unfold insL at h
  split at h
  · exact .inl h
  · rcases List.mem_append.mp h with h | h
    · rcases List.mem_append.mp h with h | h
      · exact .inl (List.mem_filter.mp h).1
      · exact .inr (List.mem_singleton.mp h)
    · exact .inl (List.mem_of_mem_drop h)
theorem insL_len (found : List Pl) (p : Pl) : (insL found p).length ≤ found.length + 1 := by
  unfold insL
  split
  · omega
  · have := List.length_filter_le (fun q => comesFirst q p) found
    rw [List.length_append, List.length_append, List.length_drop, List.length_singleton]
    omega
def R_lplaces (ds : List PyData) (d : PyData) : Prop := ∃ (ps : List Pl) (n : Nat), ds = [.list (ps.map plD)] ∧ ps.length ≤ 1000 ∧ n ≤ 20000 ∧ AllOk n ps ∧ d = .list ((placesL ps).map plD)
theorem sc_lplaces : FnScope ["_law_places_here", "_law_q", "_law_found", "_law_p", "_law_ahead"] ["_law_places_here"] (defScope (topS 65)) := ⟨rfl, rfl, rfl, by decide +kernel, rfl, by decide +kernel, by decide +kernel⟩
theorem any_eqv (ps : List Pl) (p : Pl) : ((ps.map plD).any fun z => PyData.eqv z (plD p)) = decide (p ∈ ps) := by
  rw [List.any_map, Bool.eq_iff_iff, List.any_eq_true, decide_eq_true_iff]
  constructor
  · rintro ⟨q, hq, h⟩
    have h : PyData.eqv (plD q) (plD p) = true := h
    rw [eqv_pl] at h
    exact of_decide_eq_true h ▸ hq
  · intro h
    exact ⟨p, h, by show PyData.eqv (plD p) (plD p) = true; rw [eqv_pl]; exact decide_eq_true rfl⟩
def lzA (z : Option PyData) (found : List Pl) : List Pl → Option PyData
  | [] => z
  | p :: ps => lzA (if p ∈ found then z else some (.list ((found.filter fun q => comesFirst q p).map plD))) (insL found p) ps
theorem lplaces_for {X : Cx} {body : List Stmt} {d0 : PyData} {n : Nat} (step : ∀ (found : List Pl) (p : Pl) (z : Option PyData), AllOk n found → PlOk n p → found.length ≤ 2000 →
      DS X body [some d0, none, some (.list (found.map plD)), some (plD p), z] (.nx [some d0, none, some (.list ((insL found p).map plD)), some (plD p), if p ∈ found then z else some (.list ((found.filter fun q => comesFirst q p).map plD))])) :
    ∀ (ps found : List Pl) (y z : Option PyData), AllOk n ps → AllOk n found → ps.length + found.length ≤ 2000 → ForR (fun x ρ ρ1 => Bd (gName 3) ρ (plD x) ρ1 [3]) (DS X body) ps [some d0, none, some (.list (found.map plD)), y, z] (.nx [some d0, none, some (.list ((ps.foldl insL found).map plD)), lzG plD y ps, lzA z found ps])
  | [], found, y, z, _, _, _ => .nil
  | p :: ps, found, y, z, h1, h2, hl => by
    rw [List.length_cons] at hl
    have hp := h1 p List.mem_cons_self
    have := insL_len found p
    exact .next (bd_name (by decide)) (step found p z h2 hp (by omega)) (lplaces_for step ps (insL found p) _ _ (fun q hq => h1 q (List.mem_cons_of_mem _ hq)) (fun q hq => (insL_mem hq).elim (h2 q) fun e => e ▸ hp) (by omega))
theorem kn_lplaces (T : Top mg) (F : Fd K mg "_law_places" (topS 65) ["_law_places_here"]) (G : Kn P w K mg base "_law_first" 1 R_first) : Kn P w K mg base "_law_places" 2 R_lplaces := by
  refine kn F sc_lplaces (by rintro ds d ⟨a, n, rfl, _⟩; rfl) fun f cdv A outer s H E hr ds d => ?_
  rintro ⟨ps, n, rfl, hl, hn, hps, rfl⟩
  refine ds_cons (s_set 2 sc_lplaces.nd (d_lst da_nil)) (ds_cons (s_for (xs := ps) (enc := plD) (vs := [3]) rfl (di_list (d_v 0)) (pg_name (i := 3) sc_lplaces.nd rfl (.inr rfl)) (lplaces_for (n := n) (fun found p z hf hp hfl => ds_cons (s_if (k := decide (p ∉ found)) (DT.is (t_notIn (units65 hr) (op_notInD (units65 hr)) (sh_pl p) (sh_pls found) rfl (d_v 3) (d_v 2)) (by rw [any_eqv]; simp)) (fun h => ?_) fun h => ?_) ds_nil) ps [] none none hps (fun _ h => nomatch h) (by simp; omega))) (ds_rt (s_ret (d_v 2))))
  · have h := of_decide_eq_true h
    have fl := List.length_filter_le (fun q => comesFirst q p) found
    rw [if_neg h]
    refine ds_cons (s_setLcf 4 (own := [("_law_q", 1)]) (g := gName 1) (xs := found) (enc := plD) (f := plD) (t := fun q => comesFirst q p) rfl sc_lplaces.nd (sw_true rfl rfl rfl rfl) (bk (by decide +kernel)) (di_list (d_v 2)) (fun _ _ _ _ _ => pg_name (i := 1) sc_lplaces.nd rfl (Or.inl rfl)) (fun _ _ => bd_name (by decide))
      (fun q hq _ _ _ _ _ => t_v (d_call G hr (da_cons (d_v 1) (da_cons (d_v 3) da_nil)) ⟨q, p, n, rfl, hn, hf q hq, hp, rfl⟩)) (fun q _ _ _ _ _ _ _ => d_v 1) (by omega)) ?_
    refine ds_cons (s_set 2 sc_lplaces.nd (d := .list ((insL found p).map plD)) (DE.is (d_cat (d_cat (d_v 4) (d_lst (da_cons (d_v 3) da_nil)) (by rw [List.length_map]; show _ + 1 ≤ _; omega)) (d_drop (ds := found.map plD) (k := (found.filter fun q => comesFirst q p).length) (by rw [List.length_map]; exact fl) (d_v 2) (DE.is (d_lenL (ds := (found.filter fun q => comesFirst q p).map plD) T (d_v 4)) (by rw [List.length_map]))) (by rw [List.length_append, List.length_map, List.length_drop, List.length_map]; show _ + 1 + _ ≤ _; omega)) ?_)) ds_nil
    unfold insL
    rw [if_neg h, List.map_append, List.map_append, List.map_drop]
    rfl
  · have h : p ∈ found := by simpa using h
    rw [if_pos h]
    have : insL found p = found := by unfold insL; rw [if_pos h]
    rw [this]
    exact ds_nil
end
end PH

set_option Elab.async false
set_option linter.all false
set_option maxRecDepth 100000
set_option maxHeartbeats 1000000
namespace PH
open PySem PySem.Spec PyProof.Rows L2
def stepL (p q : Pl) : Pr := (q.1 * p.2.2 - p.1 * q.2.2, q.2.1 * p.2.2 - p.2.1 * q.2.2)
def detL (p q r : Pl) : Int := (stepL p q).1 * (stepL p r).2 - (stepL p q).2 * (stepL p r).1
def turnL (p q r : Pl) : Int := (if decide (0 < detL p q r) = true then 1 else 0) - (if decide (detL p q r < 0) = true then 1 else 0)
def leftL (a b p : Pl) : Bool := !decide (turnL a b p < 1)
def chainL (ps : List Pl) : List Pl := (Geo.chain leftL ps).dropLast
def hullL (ps : List Pl) : List Pl := if (placesL ps).length < 2 then placesL ps else chainL (placesL ps) ++ chainL (placesL ps).reverse
theorem placesL_mem' {ps : List Pl} {x : Pl} (h : x ∈ placesL ps) : x ∈ ps := by
  have : ∀ (ps found : List Pl), x ∈ ps.foldl insL found → x ∈ ps ∨ x ∈ found := by
    intro ps
    induction ps with
    | nil => intro f h; exact .inr h
    | cons p ps ih =>
      intro f h
      rcases ih _ h with h | h
      · exact .inl (List.mem_cons_of_mem _ h)
      · rcases insL_mem h with h | h
        · exact .inr h
        · exact .inl (h ▸ List.mem_cons_self)
  rcases this ps [] h with h | h
  · exact h
  · cases h
theorem placesL_len (ps : List Pl) : (placesL ps).length ≤ ps.length := by
  have : ∀ (ps found : List Pl), (ps.foldl insL found).length ≤ ps.length + found.length := by
    intro ps
    induction ps with
    | nil => intro f; simp
    | cons p ps ih =>
      intro f
      have h1 := ih (insL f p)
      have h2 := insL_len f p
      rw [List.foldl_cons, List.length_cons]
      omega
  simpa [placesL] using this ps []
theorem stepL_sm {n : Nat} {p q : Pl} (hp : PlOk n p) (hq : PlOk n q) : Sm (n + n + 1) (stepL p q).1 ∧ Sm (n + n + 1) (stepL p q).2 :=
  ⟨(hq.x.mul hp.d).sub (hp.x.mul hq.d), (hq.y.mul hp.d).sub (hp.y.mul hq.d)⟩
section
variable {P : Program} {w : World} {K : PySem.W.Frag} {mg : Str → Option Value} {base : Heap}
def R_lstep (ds : List PyData) (d : PyData) : Prop := ∃ (p q : Pl) (n : Nat), ds = [plD p, plD q] ∧ n ≤ 20000 ∧ PlOk n p ∧ PlOk n q ∧ d = prD (stepL p q)
theorem sc_lstep : FnScope ["_law_p", "_law_q"] ["_law_p", "_law_q"] (defScope (topS 66)) := ⟨rfl, rfl, rfl, by decide +kernel, rfl, by decide +kernel, by decide +kernel⟩
theorem kn_lstep (F : Fd K mg "_law_step" (topS 66) ["_law_p", "_law_q"]) : Kn P w K mg base "_law_step" 1 R_lstep := by
  refine kn F sc_lstep (by rintro ds d ⟨p, q, n, rfl, _⟩; rfl) fun f cdv A outer s H E hr ds d => ?_
  rintro ⟨p, q, n, rfl, hn, hp, hq, rfl⟩
  exact ds_rt (s_ret (d_tup (da_cons (d_sub (d_mul (cm hq.x hp.d (by omega)) (d_ixT rfl (d_v 1) d_int) (d_ixT rfl (d_v 0) d_int)) (d_mul (cm hp.x hq.d (by omega)) (d_ixT rfl (d_v 0) d_int) (d_ixT rfl (d_v 1) d_int)))
    (da_cons (d_sub (d_mul (cm hq.y hp.d (by omega)) (d_ixT rfl (d_v 1) d_int) (d_ixT rfl (d_v 0) d_int)) (d_mul (cm hp.y hq.d (by omega)) (d_ixT rfl (d_v 0) d_int) (d_ixT rfl (d_v 1) d_int))) da_nil))))
def R_lturn (ds : List PyData) (d : PyData) : Prop := ∃ (p q r : Pl) (n : Nat), ds = [plD p, plD q, plD r] ∧ n ≤ 20000 ∧ PlOk n p ∧ PlOk n q ∧ PlOk n r ∧ d = .int (turnL p q r)
theorem sc_lturn : FnScope ["_law_p", "_law_q", "_law_r", "_law_one", "_law_other", "_law_n"] ["_law_p", "_law_q", "_law_r"] (defScope (topS 67)) := ⟨rfl, rfl, rfl, by decide +kernel, rfl, by decide +kernel, by decide +kernel⟩
theorem kn_lturn (T : Top mg) (F : Fd K mg "_law_turn" (topS 67) ["_law_p", "_law_q", "_law_r"]) (G : Kn P w K mg base "_law_step" 1 R_lstep) : Kn P w K mg base "_law_turn" 2 R_lturn := by
  refine kn F sc_lturn (by rintro ds d ⟨p, q, r, n, rfl, _⟩; rfl) fun f cdv A outer s H E hr ds d => ?_
  rintro ⟨p, q, r, n, rfl, hn, hp, hq, hr', rfl⟩
  have a1 := stepL_sm hp hq
  have a2 := stepL_sm hp hr'
  exact ds_cons (s_par rfl sc_lturn.nd (i := 3) (j := 4) rfl rfl (by decide) (d_call G hr (da_cons (d_v 0) (da_cons (d_v 1) da_nil)) ⟨p, q, n, rfl, hn, hp, hq, rfl⟩) (d_call G hr (da_cons (d_v 0) (da_cons (d_v 2) da_nil)) ⟨p, r, n, rfl, hn, hp, hr', rfl⟩))
    (ds_cons (s_set 5 sc_lturn.nd (d_sub (d_mul (cm a1.1 a2.2 (by omega)) (d_ixT rfl (d_v 3) d_int) (d_ixT rfl (d_v 4) d_int)) (d_mul (cm a1.2 a2.1 (by omega)) (d_ixT rfl (d_v 3) d_int) (d_ixT rfl (d_v 4) d_int))))
    (ds_rt (s_ret (d_sub (d_intB T (d_gt (d_v 5) d_int)) (d_intB T (d_lt (d_v 5) d_int))))))
def R_lchain (ds : List PyData) (d : PyData) : Prop := ∃ (ps : List Pl) (n : Nat), ds = [.list (ps.map plD)] ∧ ps.length ≤ 1000 ∧ n ≤ 20000 ∧ AllOk n ps ∧ d = .list ((chainL ps).map plD)
theorem sc_lchain : FnScope ["_law_places_here", "_law_found", "_law_p"] ["_law_places_here"] (defScope (topS 68)) := ⟨rfl, rfl, rfl, by decide +kernel, rfl, by decide +kernel, by decide +kernel⟩
def poppedL (p : Pl) : List Pl → Bool
  | b :: a :: _ => decide (turnL a b p < 1)
  | _ => false
theorem lchain_while {X : Cx} {c : Expr} {body : List Stmt} {d0 : PyData} {n : Nat} {p : Pl}
    (test : ∀ st : List Pl, AllOk n st → DT X c [some d0, some (.list (stD st)), some (plD p)] (poppedL p st))
    (pop : ∀ ds : List PyData, DS X body [some d0, some (.list ds), some (plD p)] (.nx [some d0, some (.list ds.dropLast), some (plD p)])) :
    ∀ st : List Pl, AllOk n st → WhR (DT X c) (DS X body) st.length [some d0, some (.list (stD st)), some (plD p)] (.nx [some d0, some (.list (stD (Geo.popw leftL p st))), some (plD p)])
  | [], h => .done (test [] h)
  | [b], h => .done (test [b] h)
  | b :: a' :: st, h => by
    have t := test (b :: a' :: st) h
    unfold Geo.popw leftL
    by_cases e : turnL a' b p < 1
    · have e1 : poppedL p (b :: a' :: st) = true := decide_eq_true e
      rw [e1] at t
      rw [if_neg (by simp [e])]
      refine .turn t (pop _) ?_
      rw [stD_pop]
      exact lchain_while test pop (a' :: st) fun x hx => h x (List.mem_cons_of_mem _ hx)
    · have e1 : poppedL p (b :: a' :: st) = false := decide_eq_false e
      rw [e1] at t
      rw [if_pos (by simp [e])]
      exact .done t
theorem lchain_for {X : Cx} {body : List Stmt} {d0 : PyData} {n : Nat}
    (step : ∀ (p : Pl) (st : List Pl), PlOk n p → AllOk n st → st.length ≤ 5000 → DS X body [some d0, some (.list (stD st)), some (plD p)] (.nx [some d0, some (.list (stD (Geo.pushc leftL st p))), some (plD p)])) :
    ∀ (ps st : List Pl) (z : Option PyData), AllOk n ps → AllOk n st → ps.length + st.length ≤ 5000 → ForR (fun x ρ ρ1 => Bd (gName 2) ρ (plD x) ρ1 [2]) (DS X body) ps [some d0, some (.list (stD st)), z] (.nx [some d0, some (.list (stD (ps.foldl (Geo.pushc leftL) st))), lz z ps])
  | [], st, z, _, _, _ => .nil
  | p :: ps, st, z, h1, h2, hl => by
    rw [List.length_cons] at hl
    have ih := lchain_for step ps (Geo.pushc leftL st p) (some (plD p)) (fun x hx => h1 x (List.mem_cons_of_mem _ hx))
      (fun x hx => (List.mem_cons.mp hx).elim (fun e => e ▸ h1 p List.mem_cons_self) fun m => h2 x (popw_sub p st x m)) (by
        have := popw_len (left := leftL) p st
        show _ + (Geo.popw leftL p st).length.succ ≤ _
        omega)
    exact .next (bd_name (by decide)) (step p st (h1 p List.mem_cons_self) h2 (by omega)) ih
theorem kn_lchain (T : Top mg) (F : Fd K mg "_law_chain" (topS 68) ["_law_places_here"]) (G : Kn P w K mg base "_law_turn" 2 R_lturn) : Kn P w K mg base "_law_chain" 3 R_lchain := by
  refine kn F sc_lchain (by rintro ds d ⟨a, b, rfl, _⟩; rfl) fun f cdv A outer s H E hr ds d => ?_
  rintro ⟨ps, n, rfl, hl, hn, hp, rfl⟩
  refine ds_cons (s_set 1 sc_lchain.nd (d_lst da_nil)) (ds_cons (s_for (xs := ps) (enc := plD) (vs := [2]) rfl (di_list (d_v 0)) (pg_name (i := 2) sc_lchain.nd rfl (.inl rfl))
    (lchain_for (n := n) (fun p st hpp hst hle => ds_cons (s_while (lchain_while (n := n) (fun st' h' => ?_) (fun ds => ds_cons (s_set 1 sc_lchain.nd (d_dl (d_v 1))) ds_nil) st hst)) (ds_cons (s_set 1 sc_lchain.nd (d := .list (stD (Geo.pushc leftL st p))) (DE.is (d_cat (d_v 1) (d_lst (da_cons (d_v 2) da_nil)) ?_) ?_)) ds_nil)) ps [] none hp (fun _ h => nomatch h) (by simp; omega)))
    (ds_rt (s_ret (DE.is (d_dl (d_v 1)) ?_))))
  · match st', h' with
    | [], h' => exact DT.is (t_and (l := false) (t_gt (d_lenL T (d_v 1)) d_int) (fun z => by simp [stD] at z)) rfl
    | [b], h' => exact DT.is (t_and (l := false) (t_gt (d_lenL T (d_v 1)) d_int) (fun z => by simp [stD] at z)) (Bool.and_false _)
    | b :: a' :: st', h' => exact DT.is (t_and (t_gt (d_lenL T (d_v 1)) d_int) (fun _ => t_lt (d_call G hr (da_cons (d_ixL (at2 st' a' b) (d_v 1) (d_neg d_int)) (da_cons (d_ixL (at1 (a' :: st') b) (d_v 1) (d_neg d_int)) (da_cons (d_v 2) da_nil)))
        ⟨a', b, p, n, rfl, hn, h' a' (by simp), h' b (by simp), hpp, rfl⟩) d_int)) (by rw [stD_len, List.length_cons, List.length_cons]; show (decide ((1 : Int) < _) && poppedL p (b :: a' :: st')) = _; rw [decide_eq_true (by omega), Bool.true_and])
  · rw [stD_len]
    have := popw_len (left := leftL) p st
    show _ + 1 ≤ _
    omega
  · exact congrArg PyData.list (stD_push _ _).symm
  · unfold chainL
    rw [List.map_dropLast]
    rfl
def R_lhull (ds : List PyData) (d : PyData) : Prop := ∃ (ps : List Pl) (n : Nat), ds = [.list (ps.map plD)] ∧ ps.length ≤ 1000 ∧ n ≤ 20000 ∧ AllOk n ps ∧ d = pgD (hullL ps)
theorem sc_lhull : FnScope ["_law_places_here", "_law_every"] ["_law_places_here"] (defScope (topS 69)) := ⟨rfl, rfl, rfl, by decide +kernel, rfl, by decide +kernel, by decide +kernel⟩
theorem kn_lhull (T : Top mg) (F : Fd K mg "_law_hull" (topS 69) ["_law_places_here"]) (G : Kn P w K mg base "_law_places" 2 R_lplaces) (G2 : Kn P w K mg base "_law_chain" 3 R_lchain) : Kn P w K mg base "_law_hull" 4 R_lhull := by
  refine kn F sc_lhull (by rintro ds d ⟨a, b, rfl, _⟩; rfl) fun f cdv A outer s H E hr ds d => ?_
  rintro ⟨ps, n, rfl, hl, hn, hp, rfl⟩
  have pl := placesL_len ps
  have hp2 : AllOk n (placesL ps) := fun p h => hp p (placesL_mem' h)
  have c1 := chain_len (left := leftL) (placesL ps)
  have c2 := chain_len (left := leftL) (placesL ps).reverse
  rw [List.length_reverse] at c2
  refine ds_cons (s_set 1 sc_lhull.nd (d_call G (hr.mono (by decide)) (da_cons (d_v 0) da_nil) ⟨ps, n, rfl, hl, hn, hp, rfl⟩)) (ds_cond (k := decide ((placesL ps).length < 2)) (DT.is (t_lt (d_lenL T (d_v 1)) d_int) (by rw [List.length_map]; exact decide_eq_decide.mpr (by omega))) (fun h => ds_rt (s_ret (DE.is (d_tuple T (d_v 1)) ?_))) fun h => ds_rt (s_ret (DE.is (d_tuple T (d_cat (d_call G2 hr (da_cons (d_v 1) da_nil) ⟨placesL ps, n, rfl, by omega, hn, hp2, rfl⟩) (d_call G2 hr (da_cons (d_rev (d_v 1)) da_nil) ⟨(placesL ps).reverse, n, by rw [List.map_reverse], by rw [List.length_reverse]; omega, hn, fun p h => hp2 p (List.mem_reverse.mp h), rfl⟩) ?_)) ?_)))
  · unfold pgD hullL
    rw [if_pos (of_decide_eq_true h)]
  · unfold chainL
    rw [List.length_map, List.length_map, List.length_dropLast, List.length_dropLast]
    omega
  · unfold pgD hullL
    rw [if_neg (of_decide_eq_false h), List.map_append]
end
end PH

set_option Elab.async false
set_option linter.all false
set_option maxRecDepth 100000
set_option maxHeartbeats 1000000
namespace PH
open PySem PySem.Spec PyProof.Rows L2
def prv (ps : List Pl) (k : Nat) : Pl := if k = 0 then ps.getLastD (0, 0, 1) else ps.getD (k - 1) (0, 0, 1)
def cur (ps : List Pl) (k : Nat) : Pl := ps.getD k (0, 0, 1)
def crossL (h p q : Pl) : Option Pl := if depth h p * depth h q < 0 then
  some (mkPl (((depth h q).natAbs : Int) * p.2.2 * p.1 * q.2.2 + ((depth h p).natAbs : Int) * q.2.2 * q.1 * p.2.2) (((depth h q).natAbs : Int) * p.2.2 * p.2.1 * q.2.2 + ((depth h p).natAbs : Int) * q.2.2 * q.2.1 * p.2.2) ((((depth h p).natAbs : Int) * q.2.2 + ((depth h q).natAbs : Int) * p.2.2) * p.2.2 * q.2.2)) else none
def crossK (h : Pl) (ps : List Pl) (k : Nat) : Option Pl := crossL h (prv ps k) (cur ps k)
def cornersL (ps : List Pl) (h : Pl) : List Pl := ps.filter (fun p => decide (h.2.2 * p.2.2 ≤ h.1 * p.1 + h.2.1 * p.2.1)) ++ (List.range ps.length).filterMap (crossK h ps)
theorem atI_nat {α : Type} {xs : List α} {k : Nat} : atI xs (k : Int) = xs[k]? := by
  unfold atI ixN
  rw [if_pos (by omega)]
  by_cases h : k < xs.length
  · rw [if_pos (by omega)]; rfl
  · rw [if_neg (by omega), List.getElem?_eq_none (by omega)]; rfl
theorem at_cur {ps : List Pl} {k : Nat} (h : k < ps.length) : atI (ps.map plD) (k : Int) = some (plD (cur ps k)) := by
  rw [atI_nat, List.getElem?_map, List.getElem?_eq_getElem h]
  unfold cur
  rw [List.getD_eq_getElem?_getD, List.getElem?_eq_getElem h] <;> rfl
theorem at_prv {ps : List Pl} {k : Nat} (h : k < ps.length) : atI (ps.map plD) ((k : Int) - 1) = some (plD (prv ps k)) := by
  unfold prv
  by_cases hk : k = 0
  · subst hk
    rw [if_pos rfl]
    exact at_last (fun e => by rw [e] at h; cases h)
  · rw [if_neg hk, show ((k : Int) - 1) = ((k - 1 : Nat) : Int) by omega]
    exact at_cur (k := k - 1) (by omega)
theorem cur_mem {ps : List Pl} {k : Nat} (h : k < ps.length) : cur ps k ∈ ps := by
  unfold cur
  rw [List.getD_eq_getElem?_getD, List.getElem?_eq_getElem h]
  exact List.getElem_mem h
theorem prv_mem {ps : List Pl} {k : Nat} (h : k < ps.length) : prv ps k ∈ ps := by
  unfold prv
  split
  · exact last_mem (fun e => by rw [e] at h; cases h)
  · exact cur_mem (k := k - 1) (by omega)
theorem Sm.abs {n : Nat} {x : Int} (h : Sm n x) : Sm n (x.natAbs : Int) := by unfold Sm at *; rw [Int.natAbs_natCast]; exact h
theorem cross_z {s t a b : Int} (h : s * t < 0) (ha : 0 < a) (hb : 0 < b) : ((s.natAbs : Int) * b + (t.natAbs : Int) * a) * a * b ≠ 0 := by
  have h1 : 0 < (s.natAbs : Int) := by
    have : s ≠ 0 := fun e => by rw [e, Int.zero_mul] at h; omega
    omega
  have h2 : 0 < (t.natAbs : Int) := by
    have : t ≠ 0 := fun e => by rw [e, Int.mul_zero] at h; omega
    omega
  have := Int.mul_pos (Int.mul_pos (Int.add_pos (Int.mul_pos h1 hb) (Int.mul_pos h2 ha)) ha) hb
  omega
theorem crossL_ok {m n : Nat} {h p q x : Pl} (hh : HfOk m h) (hp : PlOk n p) (hq : PlOk n q) (e : crossL h p q = some x) : PlOk (m + 4 * n + 3) x := by
  unfold crossL at e
  split at e
  · next c =>
    obtain rfl := Option.some.inj e
    have s := (depth_sm hh hp).abs
    have t := (depth_sm hh hq).abs
    exact mkPl_ok (cross_z c hp.pos hq.pos) (Sm.mono (Sm.add (Sm.mono (((t.mul hp.d).mul hp.x).mul hq.d) (show _ ≤ m + 4 * n + 2 by omega)) (Sm.mono (((s.mul hq.d).mul hq.x).mul hp.d) (by omega))) (by omega)) (Sm.mono (Sm.add (Sm.mono (((t.mul hp.d).mul hp.y).mul hq.d) (show _ ≤ m + 4 * n + 2 by omega)) (Sm.mono (((s.mul hq.d).mul hq.y).mul hp.d) (by omega))) (by omega))
      (Sm.mono (((Sm.add (s.mul hq.d) ((t.mul hp.d).mono (by omega))).mul hp.d).mul hq.d) (by omega))
  · cases e
theorem cornersL_ok {m n : Nat} {h : Pl} {ps : List Pl} (hh : HfOk m h) (hp : AllOk n ps) : AllOk (m + 4 * n + 3) (cornersL ps h) := fun x hx => by
  rcases List.mem_append.mp hx with c | c
  · exact (hp x (List.mem_filter.mp c).1).mono (by omega)
  · obtain ⟨k, hk, c⟩ := List.mem_filterMap.mp c
    have hk := List.mem_range.mp hk
    exact crossL_ok hh (hp _ (prv_mem hk)) (hp _ (cur_mem hk)) c
theorem cornersL_len (ps : List Pl) (h : Pl) : (cornersL ps h).length ≤ 2 * ps.length := by
  unfold cornersL
  have h1 := List.length_filter_le (fun p : Pl => decide (h.2.2 * p.2.2 ≤ h.1 * p.1 + h.2.1 * p.2.1)) ps
  have h2 := List.length_filterMap_le (crossK h ps) (List.range ps.length)
  rw [List.length_range] at h2
  rw [List.length_append]
  omega
theorem hullL_sub {ps : List Pl} {x : Pl} (h : x ∈ hullL ps) : x ∈ ps := by
  unfold hullL at h
  split at h
  · exact placesL_mem' h
  · rcases List.mem_append.mp h with h | h
    · exact placesL_mem' (chain_sub _ _ ((List.dropLast_sublist _).subset h))
    · exact placesL_mem' (List.mem_reverse.mp (chain_sub _ _ ((List.dropLast_sublist _).subset h)))
/-- what the names of the loop hold -/
structure Lo where
  p : Option PyData
  k : Option PyData
  q : Option PyData
  s : Option PyData
  t : Option PyData
  m : Option PyData
  n : Option PyData
  x : Option PyData
  y : Option PyData
def eo (d0 d1 a b c : PyData) (v : Option PyData) (r : Lo) : En := [some d0, some d1, r.p, some a, some b, some c, v, r.k, r.q, r.s, r.t, r.m, r.n, r.x, r.y]
def stLo (h : Pl) (ps : List Pl) (r : Lo) (k : Nat) : Lo := if depth h (prv ps k) * depth h (cur ps k) < 0 then
    ⟨some (plD (prv ps k)), some (.int (k : Int)), some (plD (cur ps k)), some (.int (depth h (prv ps k))), some (.int (depth h (cur ps k))), some (.int (((depth h (prv ps k)).natAbs : Int) * (cur ps k).2.2)), some (.int (((depth h (cur ps k)).natAbs : Int) * (prv ps k).2.2)),
      some (.int (((depth h (cur ps k)).natAbs : Int) * (prv ps k).2.2 * (prv ps k).1 * (cur ps k).2.2 + ((depth h (prv ps k)).natAbs : Int) * (cur ps k).2.2 * (cur ps k).1 * (prv ps k).2.2)),
      some (.int (((depth h (cur ps k)).natAbs : Int) * (prv ps k).2.2 * (prv ps k).2.1 * (cur ps k).2.2 + ((depth h (prv ps k)).natAbs : Int) * (cur ps k).2.2 * (cur ps k).2.1 * (prv ps k).2.2))⟩
  else ⟨some (plD (prv ps k)), some (.int (k : Int)), some (plD (cur ps k)), some (.int (depth h (prv ps k))), some (.int (depth h (cur ps k))), r.m, r.n, r.x, r.y⟩
theorem corners_for {X : Cx} {ad : Addr} {body : List Stmt} {d0 d1 a b c : PyData} {h : Pl} {ps : List Pl}
    (step : ∀ (k : Nat) (acc : List PyData) (r : Lo), k < ps.length → acc.length < 50000 → DSM X ad body (eo d0 d1 a b c (some (oq ad)) { r with k := some (.int (k : Int)) }) acc (eo d0 d1 a b c (some (oq ad)) (stLo h ps r k)) (acc ++ (crossK h ps k).toList.map plD)) :
    ∀ (ks : List Nat) (acc : List PyData) (r : Lo), (∀ k ∈ ks, k < ps.length) → ks.length + acc.length ≤ 50000 → FoM (fun (k : Nat) ρ ρ1 => Bd (gName 7) ρ (.int (k : Int)) ρ1 [7]) (DSM X ad body) ks (eo d0 d1 a b c (some (oq ad)) r) acc (eo d0 d1 a b c (some (oq ad)) (ks.foldl (stLo h ps) r)) (acc ++ (ks.filterMap (crossK h ps)).map plD)
  | [], acc, r, _, _ => by rw [List.filterMap_nil, List.map_nil, List.append_nil]; exact .nil
  | k :: ks, acc, r, hm, hl => by
    rw [List.length_cons] at hl
    have hc : ((crossK h ps k).toList.map plD).length ≤ 1 := by rw [List.length_map]; cases crossK h ps k <;> simp
    have ih := corners_for step ks (acc ++ (crossK h ps k).toList.map plD) (stLo h ps r k) (fun e' h' => hm e' (List.mem_cons_of_mem _ h')) (by rw [List.length_append]; omega)
    have eq : acc ++ ((k :: ks).filterMap (crossK h ps)).map plD = (acc ++ (crossK h ps k).toList.map plD) ++ (ks.filterMap (crossK h ps)).map plD := by
      rw [List.filterMap_cons]
      cases crossK h ps k <;> simp
    rw [eq]
    exact .next (bd_name (by decide)) (step k acc r (hm k List.mem_cons_self) (by omega)) ih
section
variable {P : Program} {w : World} {K : PySem.W.Frag} {mg : Str → Option Value} {base : Heap}
def R_corners (ds : List PyData) (d : PyData) : Prop := ∃ (ps : List Pl) (h : Pl) (m n : Nat), ds = [pgD ps, plD h] ∧ ps.length ≤ 1000 ∧ m + 4 * n + 10 ≤ 8999 ∧ HfOk m h ∧ AllOk n ps ∧ d = .list ((cornersL ps h).map plD)
abbrev NC : List Str := ["_law_plate", "_law_edge", "_law_p", "_law_a", "_law_b", "_law_c", "_law_found", "_law_k", "_law_q", "_law_s", "_law_t", "_law_m", "_law_n", "_law_x", "_law_y"]
theorem sc_corners : FnScope ["_law_plate", "_law_edge", "_law_p", "_law_a", "_law_b", "_law_c", "_law_found", "_law_k", "_law_q", "_law_s", "_law_t", "_law_m", "_law_n", "_law_x", "_law_y"] ["_law_plate", "_law_edge"] (defScope (topS 76)) := ⟨rfl, rfl, rfl, by decide +kernel, rfl, by decide +kernel, by decide +kernel⟩
theorem kn_corners (T : Top mg) (F : Fd K mg "_law_cut_corners" (topS 76) ["_law_plate", "_law_edge"]) (G : Kn P w K mg base "_law_place" 2 R_place) : Kn P w K mg base "_law_cut_corners" 3 R_corners := by
  refine kn F sc_corners (by rintro ds d ⟨a, b, m, n, rfl, _⟩; rfl) fun f cdv A outer s H E hr ds d => ?_
  rintro ⟨ps, h, m, n, rfl, hl, hm, hh, hps, rfl⟩
  have fl := List.length_filter_le (fun p : Pl => decide (h.2.2 * p.2.2 ≤ h.1 * p.1 + h.2.1 * p.2.1)) ps
  refine ds_cons (s_asg (vs := [3, 4, 5]) (d_v 1) (pg_tup (n := 3) rfl (pgs_cons (pg_name (i := 3) sc_corners.nd rfl (.inr rfl)) (pgs_cons (pg_name (i := 4) sc_corners.nd rfl (.inr rfl)) (pgs_cons (pg_name (i := 5) sc_corners.nd rfl (.inr rfl)) pgs_nil)))) (bd_tup (bds_cons (bd_name (by decide)) (bds_cons (bd_name (by decide)) (bds_cons (bd_name (by decide)) bds_nil))) rfl)) ?_
  refine ds_ownLcf (i := 6) (own := [("_law_p", 2)]) (g := gName 2) (xs := ps) (enc := plD) (f := plD) (t := fun p => decide (h.2.2 * p.2.2 ≤ h.1 * p.1 + h.2.1 * p.2.1)) (ρ2 := eo (pgD ps) (plD h) (.int h.1) (.int h.2.1) (.int h.2.2) none ((List.range ps.length).foldl (stLo h ps) ⟨none, none, none, none, none, none, none, none, none⟩)) (ds1 := (cornersL ps h).map plD)
    rfl sc_corners.nd (sw_true rfl rfl rfl rfl) (bk (by decide +kernel)) (di_tup (d_v 0)) (fun _ _ _ _ _ => pg_name (i := 2) sc_corners.nd rfl (Or.inl rfl)) (fun _ _ => bd_name (by decide))
    (fun p hp1 _ _ _ _ _ => t_ge (d_add (d_mul (cm hh.a (hps p hp1).x (by omega)) (d_v 3) (d_ixT rfl (d_v 2) d_int)) (d_mul (cm hh.b (hps p hp1).y (by omega)) (d_v 4) (d_ixT rfl (d_v 2) d_int))) (d_mul (cm hh.c (hps p hp1).d (by omega)) (d_v 5) (d_ixT rfl (d_v 2) d_int))) (fun p _ _ _ _ _ _ _ => d_v 2) (by omega)
    (fun ad => D1M.is (m_for (xs := List.range ps.length) (enc := fun k : Nat => .int (k : Int)) (g := gName 7) (vs := [7]) rfl (DI.is (di_range T (d_lenT T (d_v 0)) (by rw [List.length_map]; omega) (by omega)) (by rw [List.length_map, Int.toNat_natCast])) (pg_name (i := 7) sc_corners.nd rfl (.inl rfl))
      (corners_for (h := h) (ps := ps) (fun k acc r hk hacc => ?_) (List.range ps.length) ((ps.filter fun p => decide (h.2.2 * p.2.2 ≤ h.1 * p.1 + h.2.1 * p.2.1)).map plD) ⟨none, none, none, none, none, none, none, none, none⟩ (fun k hk => List.mem_range.mp hk) (by rw [List.length_map, List.length_range]; omega))) (by unfold cornersL; rw [List.map_append])) (by show 6 < 15; decide)
    (ds_rt (s_ret (d_v 6)))
  have kp := hps _ (prv_mem hk)
  have kq := hps _ (cur_mem hk)
  have ds := depth_sm hh kp
  have dt := depth_sm hh kq
  refine m_cons (m_lift (s_par rfl sc_corners.nd (i := 2) (j := 8) rfl rfl (by decide) (d_ixT (at_prv hk) (d_v 0) (d_sub (d_v 7) d_int)) (d_ixT (at_cur hk) (d_v 0) (d_v 7))))
    (m_cons (m_lift (s_par rfl sc_corners.nd (i := 9) (j := 10) (d := .int (depth h (prv ps k))) (d2 := .int (depth h (cur ps k))) rfl rfl (by decide)
        (d_sub (d_add (d_mul (cm hh.a kp.x (by omega)) (d_v 3) (d_ixT rfl (d_v 2) d_int)) (d_mul (cm hh.b kp.y (by omega)) (d_v 4) (d_ixT rfl (d_v 2) d_int))) (d_mul (cm hh.c kp.d (by omega)) (d_v 5) (d_ixT rfl (d_v 2) d_int)))
        (d_sub (d_add (d_mul (cm hh.a kq.x (by omega)) (d_v 3) (d_ixT rfl (d_v 8) d_int)) (d_mul (cm hh.b kq.y (by omega)) (d_v 4) (d_ixT rfl (d_v 8) d_int))) (d_mul (cm hh.c kq.d (by omega)) (d_v 5) (d_ixT rfl (d_v 8) d_int)))))
      (m_cons (m_if (k := decide (depth h (prv ps k) * depth h (cur ps k) < 0)) (t_lt (d_mul (cm ds dt (by omega)) (d_v 9) (d_v 10)) d_int) (fun hc => ?_) fun hc => ?_) m_nil))
  · have hc := of_decide_eq_true hc
    have sa := ds.abs
    have ta := dt.abs
    have e1 : stLo h ps r k = ⟨some (plD (prv ps k)), some (.int (k : Int)), some (plD (cur ps k)), some (.int (depth h (prv ps k))), some (.int (depth h (cur ps k))), some (.int (((depth h (prv ps k)).natAbs : Int) * (cur ps k).2.2)), some (.int (((depth h (cur ps k)).natAbs : Int) * (prv ps k).2.2)),
      some (.int (((depth h (cur ps k)).natAbs : Int) * (prv ps k).2.2 * (prv ps k).1 * (cur ps k).2.2 + ((depth h (prv ps k)).natAbs : Int) * (cur ps k).2.2 * (cur ps k).1 * (prv ps k).2.2)),
      some (.int (((depth h (cur ps k)).natAbs : Int) * (prv ps k).2.2 * (prv ps k).2.1 * (cur ps k).2.2 + ((depth h (prv ps k)).natAbs : Int) * (cur ps k).2.2 * (cur ps k).2.1 * (prv ps k).2.2))⟩ := by unfold stLo; rw [if_pos hc]
    have e2 : crossK h ps k = some (mkPl (((depth h (cur ps k)).natAbs : Int) * (prv ps k).2.2 * (prv ps k).1 * (cur ps k).2.2 + ((depth h (prv ps k)).natAbs : Int) * (cur ps k).2.2 * (cur ps k).1 * (prv ps k).2.2) (((depth h (cur ps k)).natAbs : Int) * (prv ps k).2.2 * (prv ps k).2.1 * (cur ps k).2.2 + ((depth h (prv ps k)).natAbs : Int) * (cur ps k).2.2 * (cur ps k).2.1 * (prv ps k).2.2) ((((depth h (prv ps k)).natAbs : Int) * (cur ps k).2.2 + ((depth h (cur ps k)).natAbs : Int) * (prv ps k).2.2) * (prv ps k).2.2 * (cur ps k).2.2)) := by
      unfold crossK crossL; rw [if_pos hc]
    rw [e1, e2]
    refine m_cons (m_lift (s_par rfl sc_corners.nd (i := 11) (j := 12) rfl rfl (by decide) (d_mul (cm sa kq.d (by omega)) (d_abs T (d_v 9)) (d_ixT rfl (d_v 8) d_int)) (d_mul (cm ta kp.d (by omega)) (d_abs T (d_v 10)) (d_ixT rfl (d_v 2) d_int))))
      (m_cons (m_lift (s_par rfl sc_corners.nd (i := 13) (j := 14) rfl rfl (by decide)
          (d_add (d_mul (cm ((ta.mul kp.d).mul kp.x) kq.d (by omega)) (d_mul (cm (ta.mul kp.d) kp.x (by omega)) (d_v 12) (d_ixT rfl (d_v 2) d_int)) (d_ixT rfl (d_v 8) d_int)) (d_mul (cm ((sa.mul kq.d).mul kq.x) kp.d (by omega)) (d_mul (cm (sa.mul kq.d) kq.x (by omega)) (d_v 11) (d_ixT rfl (d_v 8) d_int)) (d_ixT rfl (d_v 2) d_int)))
          (d_add (d_mul (cm ((ta.mul kp.d).mul kp.y) kq.d (by omega)) (d_mul (cm (ta.mul kp.d) kp.y (by omega)) (d_v 12) (d_ixT rfl (d_v 2) d_int)) (d_ixT rfl (d_v 8) d_int)) (d_mul (cm ((sa.mul kq.d).mul kq.y) kp.d (by omega)) (d_mul (cm (sa.mul kq.d) kq.y (by omega)) (d_v 11) (d_ixT rfl (d_v 8) d_int)) (d_ixT rfl (d_v 2) d_int)))))
        (m_cons (m_append (i := 6) (d_call G hr (da_cons (d_v 13) (da_cons (d_v 14) (da_cons (d_mul (cm ((Sm.add (sa.mul kq.d) ((ta.mul kp.d).mono (by omega))).mul kp.d) kq.d (by omega)) (d_mul (cm (Sm.add (sa.mul kq.d) ((ta.mul kp.d).mono (by omega))) kp.d (by omega)) (d_add (d_v 11) (d_v 12)) (d_ixT rfl (d_v 2) d_int)) (d_ixT rfl (d_v 8) d_int)) da_nil)))
            ⟨_, _, _, rfl, cross_z hc kp.pos kq.pos, Sm.mono (((Sm.add (sa.mul kq.d) ((ta.mul kp.d).mono (by omega))).mul kp.d).mul kq.d) (by omega), rfl⟩) rfl (by omega)) m_nil))
  · have hc := of_decide_eq_false hc
    constructor
    · unfold stLo; rw [if_neg hc]; rfl
    · unfold crossK crossL; rw [if_neg hc]; simp
end
end PH

set_option Elab.async false
set_option linter.all false
set_option maxRecDepth 100000
set_option maxHeartbeats 1000000
namespace PH
open PySem PySem.Spec PyProof.Rows L2
def farL : List Pl := [(-50, -50, 1), (50, -50, 1), (50, 50, 1), (-50, 50, 1)]
def greatL (h : Pl) : List Pl := hullL (cornersL (hullL farL) h)
theorem farL_ok : AllOk 6 farL := by
  intro p hp
  simp only [farL, List.mem_cons, List.not_mem_nil, or_false] at hp
  rcases hp with rfl | rfl | rfl | rfl <;> exact ⟨by decide, by decide, by decide, by decide, by decide⟩
theorem hullL_len (ps : List Pl) : (hullL ps).length ≤ 2 * ps.length := by
  have pl := placesL_len ps
  have c1 := chain_len (left := leftL) (placesL ps)
  have c2 := chain_len (left := leftL) (placesL ps).reverse
  rw [List.length_reverse] at c2
  unfold hullL chainL
  split
  · omega
  · rw [List.length_append, List.length_dropLast, List.length_dropLast]; omega
theorem hullL_ok {n : Nat} {ps : List Pl} (h : AllOk n ps) : AllOk n (hullL ps) := fun p hp => h p (hullL_sub hp)
/-- what the law asks of one plate -/
structure Told (n : Nat) (ps : List Pl) : Prop where
  ne : ps ≠ []
  len : ps.length ≤ 64
  sz : n ≤ 400
  ok : AllOk n ps
  nd : ps.Nodup
  hull : hullP ps = ps
  cut : CutsOk (3 * n + 2) n ps (bordersP ps)
  meet : meetP ps ps = some ps
  far : ∀ s ∈ sidesP ps, farthestP ps s.1 = [s.2.1, s.2.2]
  met : ∀ s ∈ sidesP ps, isMet ps (halfL s.1 s.2.1) = true
  top : ∀ s ∈ sidesP ps, topP ps s.1 = height s.1 s.2.2
  mid : ∀ s ∈ sidesP ps, hasPlace ps (midP s.2.1 s.2.2) = true
  sum : ((insideP ps).map (·.2)).sum = if ps.length = 1 then 1 else if ps.length = 2 then -1 else 1
theorem halfL_ok {m n : Nat} {u : Pr} {p : Pl} (hu : DirOk m u) (hp : PlOk n p) : HfOk (m + n + 1) (halfL u p) :=
  mkHalf_ok (half_ne hu hp) ((hu.a.mul hp.d).mono (Nat.le_succ _)) ((hu.b.mul hp.d).mono (Nat.le_succ _)) ((hu.a.mul hp.x).add (hu.b.mul hp.y))
theorem midP_ok {n : Nat} {p q : Pl} (hp : PlOk n p) (hq : PlOk n q) : PlOk (n + n + 2) (midP p q) :=
  mkPl_ok (Int.mul_ne_zero (Int.mul_ne_zero (by decide) hp.ne) hq.ne) (((hp.x.mul hq.d).add (hq.x.mul hp.d)).mono (Nat.le_succ _)) (((hp.y.mul hq.d).add (hq.y.mul hp.d)).mono (Nat.le_succ _)) (((sm2.mul hp.d).mul hq.d).mono (by omega))
theorem Told.one {n : Nat} {ps : List Pl} (t : Told n ps) : True := trivial
theorem eqv_pgo (o : Option (List Pl)) (ps : List Pl) : PyData.eqv (optD o) (pgD ps) = decide (o = some ps) := by
  cases o with
  | none => simp [optD, pgD, PyData.eqv]
  | some q => rw [optD, eqv_pg, Bool.eq_iff_iff]; simp
theorem sh_opt (o : Option (List Pl)) : SeqAt.shaped (optD o) = true := by
  cases o with
  | none => decide
  | some q => exact sh_pg q
theorem eqv_oo (o o' : Option (List Pl)) : PyData.eqv (optD o) (optD o') = decide (o = o') := by
  cases o' with
  | some q => exact eqv_pgo o q
  | none =>
    cases o with
    | none => rfl
    | some q => simp [optD, pgD, PyData.eqv]
section
variable {P : Program} {w : World} {K : PySem.W.Frag} {mg : Str → Option Value} {base : Heap}
def R_great (ds : List PyData) (d : PyData) : Prop := ∃ (h : Pl) (m : Nat), ds = [plD h] ∧ m ≤ 1000 ∧ HfOk m h ∧ d = pgD (greatL h)
theorem sc_great : FnScope ["_law_half_here", "_law_far"] ["_law_half_here"] (defScope (topS 77)) := ⟨rfl, rfl, rfl, by decide +kernel, rfl, by decide +kernel, by decide +kernel⟩
theorem kn_great (F : Fd K mg "_law_great" (topS 77) ["_law_half_here"]) (G : Kn P w K mg base "_law_hull" 4 R_lhull) (G2 : Kn P w K mg base "_law_cut_corners" 3 R_corners) : Kn P w K mg base "_law_great" 5 R_great := by
  refine kn F sc_great (by rintro ds d ⟨a, m, rfl, _⟩; rfl) fun f cdv A outer s H E hr ds d => ?_
  rintro ⟨h, m, rfl, hm, hh, rfl⟩
  have l1 := hullL_len farL
  have l2 := cornersL_len (hullL farL) h
  have l0 : farL.length = 4 := rfl
  exact ds_cons (s_set 1 sc_great.nd (d := .list (farL.map plD)) (DE.is (d_lst (da_cons (d_tup (da_cons (d_sub d_int d_int) (da_cons (d_sub d_int d_int) (da_cons d_int da_nil)))) (da_cons (d_tup (da_cons d_int (da_cons (d_sub d_int d_int) (da_cons d_int da_nil)))) (da_cons (d_tup (da_cons d_int (da_cons d_int (da_cons d_int da_nil)))) (da_cons (d_tup (da_cons (d_sub d_int d_int) (da_cons d_int (da_cons d_int da_nil)))) da_nil))))) rfl))
    (ds_rt (s_ret (d_call G hr (da_cons (d_call G2 (hr.mono (by decide)) (da_cons (d_call G hr (da_cons (d_v 1) da_nil) ⟨farL, 6, rfl, by decide, by decide, farL_ok, rfl⟩) (da_cons (d_v 0) da_nil)) ⟨hullL farL, h, m, 6, rfl, by omega, by omega, hh, hullL_ok farL_ok, rfl⟩) da_nil)
      ⟨cornersL (hullL farL) h, m + 4 * 6 + 3, rfl, by omega, by omega, cornersL_ok hh (hullL_ok farL_ok), rfl⟩)))
def R_told (ds : List PyData) (d : PyData) : Prop := ∃ (ps : List Pl) (n : Nat), ds = [pgD ps] ∧ Told n ps ∧ d = .bool true
theorem sc_told : FnScope ["_law_plate", "_law_normal", "_law_p", "_law_q", "_law_part", "_law_weight"] ["_law_plate"] (defScope (topS 78)) := ⟨rfl, rfl, rfl, by decide +kernel, rfl, by decide +kernel, by decide +kernel⟩
theorem told_for {X : Cx} {K : PySem.W.Frag} {body : List Stmt} {d0 : PyData} {ss0 : List (Pr × Pl × Pl)} (step : ∀ s : Pr × Pl × Pl, s ∈ ss0 → DS X body [some d0, some (prD s.1), some (plD s.2.1), some (plD s.2.2), none, none] (.nx [some d0, some (prD s.1), some (plD s.2.1), some (plD s.2.2), none, none])) :
    ∀ (ss : List (Pr × Pl × Pl)) (x y z : Option PyData), (∀ s ∈ ss, s ∈ ss0) → ForR (fun s ρ ρ1 => Bd (gTup K 3 (gCons (gName 1) (gCons (gName 2) (gCons (gName 3) gNil)))) ρ (sdD s) ρ1 [1, 2, 3]) (DS X body) ss [some d0, x, y, z, none, none] (.nx [some d0, lzG (fun s => prD s.1) x ss, lzG (fun s => plD s.2.1) y ss, lzG (fun s => plD s.2.2) z ss, none, none])
  | [], _, _, _, _ => .nil
  | s :: ss, _, _, _, h => .next (bd_tup (bds_cons (bd_name (by decide)) (bds_cons (bd_name (by decide)) (bds_cons (bd_name (by decide)) bds_nil))) rfl) (step s (h s List.mem_cons_self)) (told_for step ss _ _ _ fun t ht => h t (List.mem_cons_of_mem _ ht))
structure Lib (P : Program) (w : World) (K : PySem.W.Frag) (mg : Str → Option Value) (base : Heap) : Prop where
  top' : Top mg
  isPlate : Kn P w K mg base "is_plate" 7 R_isPlate
  hull : Kn P w K mg base "hull" 6 R_hull
  meet : Kn P w K mg base "meet" 8 R_meet
  sides : Kn P w K mg base "sides" 5 R_sides
  farthest : Kn P w K mg base "farthest" 6 R_farthest
  isMet : Kn P w K mg base "is_met" 3 R_isMet
  top : Kn P w K mg base "top" 3 (R_top topP)
  bottom : Kn P w K mg base "bottom" 4 (R_top bottomP)
  hasPlace : Kn P w K mg base "has_place" 5 R_hasPlace
  inside : Kn P w K mg base "inside" 7 R_inside
  cut : Kn P w K mg base "cut_plate" 7 R_cut
  put : Kn P w K mg base "put" 7 R_put
  mirror : Kn P w K mg base "mirror" 7 R_mirror
  led : Kn P w K mg base "led" 7 R_led
  ledPlace : Kn P w K mg base "led_place" 3 R_ledPlace
  lhalf : Kn P w K mg base "_law_half" 2 R_lhalf
  lheight : Kn P w K mg base "_law_height" 3 R_height
  lmiddle : Kn P w K mg base "_law_middle" 3 (R_pp midP)
theorem kn_told (L : Lib P w K mg base) (F : Fd K mg "_law_told_right" (topS 78) ["_law_plate"]) : Kn P w K mg base "_law_told_right" 9 R_told := by
  refine kn F sc_told (by rintro ds d ⟨a, n, rfl, _⟩; rfl) fun f cdv A outer s H E hr ds d => ?_
  rintro ⟨ps, n, rfl, t, rfl⟩
  have T := L.top'
  have hn := t.sz
  have hl := t.len
  have side : ∀ s ∈ sidesP ps, DirOk (n + n + 1) s.1 ∧ PlOk n s.2.1 ∧ PlOk n s.2.2 := fun x hx => by
    obtain ⟨e, he, rfl⟩ := List.mem_map.mp hx
    exact ⟨side_ok t.ok he, t.ok _ (nbrs_mem he).1, t.ok _ (nbrs_mem he).2.1⟩
  refine ds_cons (s_skip (DT.is (t_or3 (k := false) (l := false) (m := false) (DT.is (t_not (t_v (d_call L.isPlate (hr.mono (by decide)) (da_cons (d_v 0) da_nil) ⟨ps, n, rfl, t.ne, hl, by omega, t.ok, rfl⟩))) (by rw [t.hull]; simp))
      (fun _ => DT.is (t_neD (units64 hr) (sh_pg (hullP ps)) (sh_pg ps) (d_call L.hull (hr.mono (by decide)) (da_cons (d_list T (d_v 0)) da_nil) ⟨ps, n, false, rfl, t.ne, hl, by omega, t.ok, rfl⟩) (d_v 0)) (by rw [eqv_pg, t.hull]; simp))
      (fun _ _ => DT.is (t_neD (units64 hr) (sh_opt (meetP ps ps)) (sh_pg ps) (d_call L.meet hr (da_cons (d_v 0) (da_cons (d_v 0) da_nil)) ⟨ps, ps, n, n, n, rfl, t.ne, by omega, by omega, by omega, by omega, t.ne, t.nd, t.ok, t.ok, by omega, t.cut, rfl⟩) (d_v 0)) (by rw [eqv_pgo, t.meet]; simp))) rfl)) ?_
  refine ds_cons (s_for (xs := sidesP ps) (enc := sdD) (vs := [1, 2, 3]) rfl (di_list (d_call L.sides (hr.mono (by decide)) (da_cons (d_v 0) da_nil) ⟨ps, n, rfl, by omega, by omega, t.ok, rfl⟩)) (pg_tup (n := 3) rfl (pgs_cons (pg_name (i := 1) sc_told.nd rfl (.inl rfl)) (pgs_cons (pg_name (i := 2) sc_told.nd rfl (.inl rfl)) (pgs_cons (pg_name (i := 3) sc_told.nd rfl (.inl rfl)) pgs_nil))))
    (told_for (ss0 := sidesP ps) (fun s hs => ?_) (sidesP ps) none none none (fun _ h => h))) ?_
  · obtain ⟨hu, hp, hq⟩ := side s hs
    have hN := halfL_ok hu hp
    refine ds_cons (s_skip (DT.is (t_or (k := false) (l := false) (DT.is (t_neD (units64 hr) (x := .list ((farthestP ps s.1).map plD)) (y := .list [plD s.2.1, plD s.2.2]) (sh_pls _) (sh_pls [s.2.1, s.2.2]) (d_call L.farthest (hr.mono (by decide)) (da_cons (d_v 0) (da_cons (d_v 1) da_nil)) ⟨ps, s.1, n + n + 1, n, rfl, t.ne, by omega, by omega, by omega, t.ok, hu, rfl⟩) (d_lst (da_cons (d_v 2) (da_cons (d_v 3) da_nil)))) (by rw [show PyData.list [plD s.2.1, plD s.2.2] = .list ([s.2.1, s.2.2].map plD) from rfl, eqv_pls, t.far s hs]; simp))
        fun _ => DT.is (t_not (t_v (d_call L.isMet (hr.mono (by decide)) (da_cons (d_v 0) (da_cons (d_call L.lhalf (hr.mono (by decide)) (da_cons (d_v 1) (da_cons (d_v 2) da_nil)) ⟨s.1, s.2.1, n + n + 1, n, rfl, by omega, hu, hp, rfl⟩) da_nil)) ⟨ps, halfL s.1 s.2.1, n + n + 1 + n + 1, n, rfl, by omega, by omega, hN, t.ok, rfl⟩))) (by rw [t.met s hs]; rfl)) rfl))
      (ds_cons (s_skip (DT.is (t_or (k := false) (l := false) (DT.is (t_neD (units64 hr) (sh_pr (topP ps s.1)) (sh_pr (height s.1 s.2.2)) (d_call L.top (hr.mono (by decide)) (da_cons (d_v 0) (da_cons (d_v 1) da_nil)) ⟨ps, s.1, n + n + 1, n, rfl, t.ne, by omega, by omega, t.ok, hu, rfl⟩) (d_call L.lheight (hr.mono (by decide)) (da_cons (d_v 1) (da_cons (d_v 3) da_nil)) ⟨s.1, s.2.2, n + n + 1, n, rfl, by omega, by omega, hu, hq, rfl⟩)) (by rw [eqv_pr, t.top s hs]; simp))
        fun _ => DT.is (t_not (t_v (d_call L.hasPlace (hr.mono (by decide)) (da_cons (d_v 0) (da_cons (d_call L.lmiddle (hr.mono (by decide)) (da_cons (d_v 2) (da_cons (d_v 3) da_nil)) ⟨s.2.1, s.2.2, n, rfl, by omega, hp, hq, rfl⟩) da_nil)) ⟨ps, midP s.2.1 s.2.2, n + n + 2, rfl, t.ne, by omega, by omega, t.ok.mono (by omega), midP_ok hp hq, rfl⟩))) (by rw [t.mid s hs]; rfl)) rfl)) ds_nil)
  · have il : (insideP ps).length ≤ 90000 := by
      have sl : (sidesP ps).length ≤ 64 := by unfold sidesP; rw [List.length_map]; have := nbrs_len ps; omega
      unfold insideP
      split
      · simp
      · split
        · simp; omega
        · simp; omega
    refine ds_rt (s_ret (DE.is (d_eqI (d_sum T (ns := (insideP ps).map (·.2)) rfl (DE.is (d_lc (own := [("_law_part", 4), ("_law_weight", 5)]) (g := gTup _ 2 (gCons (gName 4) (gCons (gName 5) gNil))) (xs := insideP ps) (enc := inD) (f := fun s => .int s.2) rfl sc_told.nd (bk (by decide +kernel)) (di_list (d_call L.inside (hr.mono (by decide)) (da_cons (d_v 0) da_nil) ⟨ps, n, rfl, hl, by omega, t.ok, rfl⟩))
      (fun _ _ _ _ _ => pg_tup (n := 2) rfl (pgs_cons (pg_name (i := 4) sc_told.nd rfl (.inl rfl)) (pgs_cons (pg_name (i := 5) sc_told.nd rfl (.inl rfl)) pgs_nil))) (fun _ _ => bd_tup (bds_cons (bd_name (by decide)) (bds_cons (bd_name (by decide)) bds_nil)) rfl) (fun p _ _ _ _ _ _ => d_v 5) (by omega)) (by rw [List.map_map]; rfl)))
      (d_ixL (ds := [.int 0, .int 1, .int (0 - 1), .int 1]) (d := .int (if ps.length = 1 then 1 else if ps.length = 2 then -1 else 1)) ?_ (d_lst (da_cons d_int (da_cons d_int (da_cons (d_sub d_int d_int) (da_cons d_int da_nil))))) (d_min T rfl d_int (d_lenT T (d_v 0))))) ?_))
    · rw [List.length_map]
      have h0 := List.length_pos_iff.mpr t.ne
      by_cases h1 : ps.length = 1
      · rw [h1]; rfl
      · by_cases h2 : ps.length = 2
        · rw [h2]; rfl
        · rw [if_neg h1, if_neg h2, show min (3 : Int) (ps.length : Int) = 3 by omega]; rfl
    · rw [t.sum]; simp
end
end PH

set_option Elab.async false
set_option linter.all false
set_option maxRecDepth 100000
set_option maxHeartbeats 1000000
namespace PH
open PySem PySem.Spec PyProof.Rows L2
/-! ### the law's source of numbers -/
def srcK (C : Addr) (l m t : Int) : List (L2.Key × V) := [(.inr ("cells" : Str), .ref C), (.inr ("left" : Str), .int l), (.inr ("mixed" : Str), .int m), (.inr ("turn" : Str), .int t)]
theorem k12 : ("cells" : Str) ≠ "left" := by decide +kernel
theorem k13 : ("cells" : Str) ≠ "mixed" := by decide +kernel
theorem k14 : ("cells" : Str) ≠ "turn" := by decide +kernel
theorem k23 : ("left" : Str) ≠ "mixed" := by decide +kernel
theorem k24 : ("left" : Str) ≠ "turn" := by decide +kernel
theorem k34 : ("mixed" : Str) ≠ "turn" := by decide +kernel
theorem get_cells {C : Addr} {l m t : Int} : valV (srcK C l m t) (.inr "cells") = some (.ref C) := by simp [srcK, valV, List.find?_cons]
theorem get_left {C : Addr} {l m t : Int} : valV (srcK C l m t) (.inr "left") = some (.int l) := by simp [srcK, valV, List.find?_cons, k12]
theorem get_mixed {C : Addr} {l m t : Int} : valV (srcK C l m t) (.inr "mixed") = some (.int m) := by simp [srcK, valV, List.find?_cons, k13, k23]
theorem get_turn {C : Addr} {l m t : Int} : valV (srcK C l m t) (.inr "turn") = some (.int t) := by simp [srcK, valV, List.find?_cons, k14, k24, k34]
theorem put_left {C : Addr} {l m t i : Int} : putK (srcK C l m t) (.inr "left") (.int i) = srcK C i m t := by simp [srcK, putK, k12, k23.symm, k24.symm]
theorem put_turn {C : Addr} {l m t i : Int} : putK (srcK C l m t) (.inr "turn") (.int i) = srcK C l m i := by simp [srcK, putK, k14, k24, k34]
/-! ### expressions over a heap that stays -/
def XW (X : Cx) (e : Expr) (σ : L2.St) (H : Hp) (v : V) (H' : Hp) : Prop := ∀ Q : VK, Q v H' → teOf X e σ H Q
def XT (X : Cx) (e : Expr) (σ : L2.St) (H : Hp) (b : Bool) : Prop := ∀ Q : Bool → Hp → Prop, Q b H → ttOf X e σ H Q
def DX (X : Cx) (st : Stmt) (σ : L2.St) (H : Hp) (σ' : L2.St) (H' : Hp) : Prop := ∀ D : Ends, D.nx σ' H' → ts1 X st D σ H
def DXs (X : Cx) (st : List Stmt) (σ : L2.St) (H : Hp) (σ' : L2.St) (H' : Hp) : Prop := ∀ D : Ends, D.nx σ' H' → tsOf X st D σ H
def DR (X : Cx) (st : List Stmt) (σ : L2.St) (H : Hp) (v : V) (H' : Hp) : Prop := ∀ D : Ends, D.rt v H' → tsOf X st D σ H
section
variable {X : Cx} {σ σ' : L2.St} {H H' H'' : Hp} {e a b c : Expr} {i j : Int} {v : V} {pos p p2 p3 : Pos} {x : Str} {k l : Bool}
theorem xw_of {te : TE} (h : PE X e te) (q : ∀ Q : VK, Q v H' → te σ H Q) : XW X e σ H v H' := fun Q w pins sh I => h.run pins sh σ H Q I (q Q w)
theorem xt_of {tt : TT} (h : PT X e tt) (q : ∀ Q : Bool → Hp → Prop, Q k H → tt σ H Q) : XT X e σ H k := fun Q w pins sh I => h.run pins sh σ H Q I (q Q w)
theorem x_v (n : Nat) (h : σ[n]? = some (some v) := by rfl) (hN : X.N[n]? = some x := by rfl) (hv : Vis X.env.scope x := by first | exact Or.inl rfl | exact Or.inr (Or.inl rfl) | exact Or.inr (Or.inr rfl)) (hd : (x == ("__debug__" : Str)) = false := by decide)
    (hcd : (x == ("__classdict__" : Str)) = false := by decide) : XW X (.Name x pos) σ H v H := xw_of (pe_var hN hv hd hcd) fun Q q => ⟨v, h, q⟩
theorem x_int {n : Int} {m : Nat} : XW X (.Constant (.int n) m pos) σ H (.int n) H := xw_of pe_int fun Q q => q
theorem x_add (ha : XW X a σ H (.int i) H) (hb : XW X b σ H (.int j) H) : XW X (.BinOp a .Add b pos) σ H (.int (i + j)) H := xw_of (pe_op op_add (pe_self X a) (pe_self X b)) fun Q q => ha _ (hb _ ⟨i, j, rfl, rfl, q⟩)
theorem x_mul (hc : CMul i j) (ha : XW X a σ H (.int i) H) (hb : XW X b σ H (.int j) H) : XW X (.BinOp a .Mult b pos) σ H (.int (i * j)) H := xw_of (pe_op op_mul (pe_self X a) (pe_self X b)) fun Q q => ha _ (hb _ ⟨i, j, rfl, rfl, hc, q⟩)
theorem x_mod (hc : j ≠ 0) (ha : XW X a σ H (.int i) H) (hb : XW X b σ H (.int j) H) : XW X (.BinOp a .Mod b pos) σ H (.int (i.fmod j)) H := xw_of (pe_op op_modN (pe_self X a) (pe_self X b)) fun Q q => ha _ (hb _ ⟨i, j, rfl, rfl, hc, q⟩)
theorem x_div (hc : CDivZ i j) (ha : XW X a σ H (.int i) H) (hb : XW X b σ H (.int j) H) : XW X (.BinOp a .FloorDiv b pos) σ H (.int (i.fdiv j)) H := xw_of (pe_op op_fdivZ (pe_self X a) (pe_self X b)) fun Q q => ha _ (hb _ ⟨i, j, rfl, rfl, hc, q⟩)
theorem x_intI (T : Top X.mg) (h : XW X a σ H (.int i) H) (n : NS a := by exact fun _ _ => rfl) (hg : Gl X "int" := by rfl) : XW X (.Call (.Name "int" p) [a] [] pos) σ H (.int i) H :=
  xw_of (pe_callTy call_int1 hg T.int bt_int (pa_cons (pe_self X a) pa_nil (n _ _)) db_int.1 db_int.2 (n _ _) (by rfl)) fun Q q => h _ (.inl ⟨i, rfl, q⟩)
theorem x_get {S C : Addr} {lf m t : Int} {key : Str} {jj : Nat} (hu : X.A.units + 1 < cLine) (hS : H S = some (.dK (srcK C lf m t))) (hv : valV (srcK C lf m t) (.inr key) = some v) (ha : XW X a σ H (.ref S) H) : XW X (.Subscript a (.Constant (.str key) jj p) pos) σ H v H :=
  xw_of (pe_dget hu (pe_self X a) pe_str (fun _ _ => rfl)) fun Q q => ha _ ⟨S, v, rfl, hv ▸ DGet.k (k := .inr key) hS, q⟩
theorem xt_lt (ha : XW X a σ H (.int i) H) (hb : XW X b σ H (.int j) H) : XT X (.Compare a [.Lt] [b] pos) σ H (decide (i < j)) := xt_of (pt_cmpR op_lt (pe_self X a) (pe_self X b) (nomark _)) fun Q q => ha _ (hb _ ⟨i, j, rfl, rfl, _, rfl, q⟩)
theorem xt_gt (ha : XW X a σ H (.int i) H) (hb : XW X b σ H (.int j) H) : XT X (.Compare a [.Gt] [b] pos) σ H (decide (j < i)) := xt_of (pt_cmpR op_gt (pe_self X a) (pe_self X b) (nomark _)) fun Q q => ha _ (hb _ ⟨i, j, rfl, rfl, _, rfl, q⟩)
theorem xt_and (h : XT X a σ H k) (t : k = true → XT X b σ H l) : XT X (.BoolOp .And [a, b] pos) σ H (k && l) := xt_of (PW.pt (pw_and (pt_self X a) (pw_and1 (pt_self X b)))) fun Q q => h _ (by
  cases k with
  | true => exact t rfl Q q
  | false => exact q)
theorem XT.is {k' : Bool} (h : XT X e σ H k) (q : k = k') : XT X e σ H k' := q ▸ h
theorem XW.is {v' : V} (h : XW X e σ H v H') (q : v = v') : XW X e σ H v' H' := q ▸ h
theorem r_cons {st : Stmt} {rest : List Stmt} (h : DX X st σ H σ' H') (t : DR X rest σ' H' v H'') : DR X (st :: rest) σ H v H'' := fun D q pins sh I => (pss_cons (ps_self X st) (pss_self X rest)).run pins sh σ H D I (h { D with nx := tsOf X rest D } (t D q))
theorem r_ret {rest : List Stmt} (h : XW X e σ H v H') : DR X (.Return (some e) pos :: rest) σ H v H' := fun D q pins sh I => (pss_cons (ps_ret (pe_self X e)) (pss_self X rest)).run pins sh σ H D I (h _ q)
theorem r_one {st : Stmt} (h : DX X st σ H σ' H') : DXs X [st] σ H σ' H' := fun D q pins sh I => (pss_one (ps_self X st)).run pins sh σ H D I (h D q)
theorem r_cond {rest sa : List Stmt} (h : XT X c σ H k) (h1 : k = true → DR X sa σ H v H') (h2 : k = false → DR X rest σ H v H') : DR X (.If c sa [] pos :: rest) σ H v H' := fun D q pins sh I => (pss_cons (ps_if (pt_self X c) (pss_self X sa) pss_nil) (pss_self X rest)).run pins sh σ H D I (h _ (by
  cases k with
  | true => exact h1 rfl { D with nx := tsOf X rest D } q
  | false => exact h2 rfl D q))
theorem x_set (n : Nat) {p1 : Pos} (hN : X.N.Nodup) (he : XW X e σ H v H') (hi : X.N[n]? = some x := by rfl) (hx : Loc X.env.scope x := by first | exact Or.inl rfl | exact Or.inr rfl) (hs : swapsWith e (some (.Name x p1)) pos.line X.env = pure false := by rfl)
    (hf : X.fn x = true ∨ X.env.scope.names.lookup x = some .local := by first | exact .inl rfl | exact .inr rfl) : DX X (.Assign [.Name x p1] e pos) σ H (σ.set n (some v)) H' := fun D q pins sh I => (ps_set hN hi hx (pe_self X e) hs hf).run pins sh σ H D I (he _ q)
theorem x_put {S C : Addr} {lf m t : Int} {key : Str} {jj : Nat} (hu : X.A.units + 1 < cLine) (he : XW X e σ H v H') (hS : H' S = some (.dK (srcK C lf m t))) (ha : XW X a σ H' (.ref S) H') (hs : swapsWith e (some (.Subscript a (.Constant (.str key) jj p) p2)) pos.line X.env = pure false := by rfl) :
    DX X (.Assign [.Subscript a (.Constant (.str key) jj p) p2] e pos) σ H σ (upd H' S (.dK (putK (srcK C lf m t) (.inr key) v))) := fun D q pins sh I => (ps_dput hu (pe_self X a) pe_str (pe_self X e) hs).run pins sh σ H D I (he _ (ha _ ⟨S, _, rfl, DPut.k (k := .inr key) hS (show 4 < sizeLine by decide), q⟩))
/-- what the source holds -/
structure Sr where
  ns : List Int
  l : Int
  m : Int
  t : Int
def SrcV (S C : Addr) (z : Sr) (H : Hp) : Prop := H S = some (.dK (srcK C z.l z.m z.t)) ∧ H C = some (.lst (z.ns.map V.int))
/-- the source holds other numbers -/
def put (S C : Addr) (z : Sr) (H : Hp) : Hp := upd (upd H C (.lst (z.ns.map V.int))) S (.dK (srcK C z.l z.m z.t))
theorem SrcV.ne {S C : Addr} {z : Sr} {H : Hp} (h : SrcV S C z H) : C ≠ S := fun e => by
  have := h.1
  rw [← e, h.2] at this
  cases this
theorem put_src {S C : Addr} {z : Sr} {H : Hp} (h : C ≠ S) : SrcV S C z (put S C z H) := ⟨upd_same, by unfold put; rw [upd_ne h, upd_same]⟩
theorem put_same {S C : Addr} {z : Sr} {H : Hp} (h : SrcV S C z H) : put S C z H = H := by
  funext b
  unfold put upd
  by_cases hb : b = S
  · subst hb; rw [if_pos rfl]; exact h.1.symm
  · rw [if_neg hb]
    by_cases hc : b = C
    · subst hc; rw [if_pos rfl]; exact h.2.symm
    · rw [if_neg hc]
theorem put_put {S C : Addr} {y z : Sr} {H : Hp} : put S C z (put S C y H) = put S C z H := by
  funext b
  unfold put upd
  by_cases hb : b = S
  · rw [if_pos hb, if_pos hb]
  · rw [if_neg hb, if_neg hb]
    by_cases hc : b = C
    · rw [if_pos hc, if_neg hb, if_pos hc]
    · simp [hc, hb]
theorem put_dk {S C : Addr} {z : Sr} {H : Hp} {l m t : Int} (h : SrcV S C z H) : upd H S (.dK (srcK C l m t)) = put S C ⟨z.ns, l, m, t⟩ H := by
  funext b
  unfold put upd
  by_cases hb : b = S
  · rw [if_pos hb, if_pos hb]
  · rw [if_neg hb, if_neg hb]
    by_cases hc : b = C
    · subst hc; rw [if_pos rfl]; exact h.2
    · rw [if_neg hc]
/-- xs.pop() -/
theorem x_pop {S C : Addr} {z : Sr} {n : Nat} {d : Int} {ds : List Int} (h : SrcV S C z H) (hz : z.ns = ds ++ [d]) (hσ : σ[n]? = some (some (.ref C)) := by rfl) (hN : X.N[n]? = some x := by rfl) (hv : Vis X.env.scope x := by first | exact Or.inl rfl | exact Or.inr (Or.inl rfl) | exact Or.inr (Or.inr rfl)) (hd : (x == ("__debug__" : Str)) = false := by decide)
    (hcd : (x == ("__classdict__" : Str)) = false := by decide) (hbase : attributeBase (.Name x p) "pop" X.env (eval (.Name x p) X.env) = eval (.Name x p) X.env := by rfl) (hline : (p2.endLine == p3.line) = true := by rfl) :
    XW X (.Call (.Attribute (.Name x p) "pop" p2) [] [] p3) σ H (.int d) (upd H C (.lst (ds.map V.int))) := xw_of (pe_bm0 PySem.F.plainAttrs_list PySem.F.slot_list_pop PySem.F.type_list_pop mt_pop (pe_var hN hv hd hcd) hbase hline) fun Q q => by
  refine ⟨_, hσ, .inl ⟨rfl, _, SqL.of h.2⟩, C, z.ns.map V.int, .int d, rfl, rfl, h.2, ?_, ?_⟩
  · rw [hz, List.map_append, List.length_append, List.length_map]
    simp
  · rw [hz, List.map_append, show [d].map V.int = [V.int d] from rfl, List.dropLast_concat]
    exact q
theorem x_len {S C : Addr} {z : Sr} (T : Top X.mg) (h : SrcV S C z H) (ha : XW X a σ H (.ref C) H) (n : NS a := by exact fun _ _ => rfl) (hg : Gl X "len" := by rfl) : XW X (.Call (.Name "len" p) [a] [] pos) σ H (.int z.ns.length) H :=
  xw_of (pe_callB call_len_seq hg T.len bt_len (pa_cons (pe_self X a) pa_nil (n _ _)) db_len.1 db_len.2 (n _ _) (by rfl)) fun Q q => ha _ ⟨C, _, rfl, .inl (SqL.of h.2), by rw [List.length_map]; exact q⟩
/-- while -/
inductive WhX (c : L2.St → Hp → Bool → Prop) (body : L2.St → Hp → L2.St → Hp → Prop) : Nat → L2.St → Hp → L2.St → Hp → Prop
  | done {n : Nat} {σ : L2.St} {H : Hp} : c σ H false → WhX c body n σ H σ H
  | turn {n : Nat} {σ σ1 σ2 : L2.St} {H H1 H2 : Hp} : c σ H true → body σ H σ1 H1 → WhX c body n σ1 H1 σ2 H2 → WhX c body (n + 1) σ H σ2 H2
theorem x_while {body : List Stmt} {n : Nat} (h : WhX (XT X c) (DXs X body) n σ H σ' H') (hp : PassesOwn (model X.prog X.w) X.A X.env X.xe := by exact PassesOwn.never) : DX X (.While c body [] pos) σ H σ' H' := fun D q pins sh I => (ps_while hp (pt_self X c) (pss_self X body)).run pins sh σ H D I
  ⟨fun m σ1 H1 => WhX (XT X c) (DXs X body) m σ1 H1 σ' H', ⟨n, h⟩, by
    intro m σ1 H1 f
    cases f with
    | done a => exact a _ (by rw [if_neg (by decide)]; exact q)
    | @turn m' _ σ3 _ _ H3 _ a b f' => exact a _ (by
        rw [if_pos rfl]
        exact ⟨fun σ2 H2 => WhX (XT X c) (DXs X body) m' σ2 H2 σ' H', fun σ2 H2 h => ⟨m', Nat.lt_succ_self _, h⟩, b _ f'⟩)⟩
end
end PH

set_option Elab.async false
set_option linter.all false
set_option maxRecDepth 100000
set_option maxHeartbeats 1000000
namespace PH
open PySem PySem.Spec PyProof.Rows L2
section
variable {P : Program} {w : World} {K : PySem.W.Frag} {mg : Str → Option Value} {base : Heap}
def spPick : Sp := fun vs H Q _ => ∃ (S C : Addr) (z : Sr) (k : Int), vs = [.ref S, .int k] ∧ SrcV S C z H ∧ 1 ≤ k ∧ k ≤ 1000 ∧ ∀ (r : Int) (z' : Sr), 0 ≤ r → r < k → Q (.int r) (put S C z' H)
theorem sc_pick : FnScope ["_law_source", "_law_most", "_law_digits", "_law_left", "_law_laps", "_law_mixed"] ["_law_source", "_law_most"] (defScope (topS 59)) := ⟨rfl, rfl, rfl, by decide +kernel, rfl, by decide +kernel, by decide +kernel⟩
/-- what the while leaves -/
def aft : Nat → List Int → Int → List Int × Int
  | 0, ns, l => (ns, l)
  | n + 1, ns, l => if l < 2 then aft n ns.dropLast (ns.getLast?.getD 0) else (ns, l)
theorem pick_while {X : Cx} {c : Expr} {body : List Stmt} {σ : L2.St} {S C : Addr} {m t : Int} {H0 : Hp} (test : ∀ (ns : List Int) (l : Int), XT X c σ (put S C ⟨ns, l, m, t⟩ H0) (decide (l < 2) && decide ((0 : Int) < ns.length)))
    (step : ∀ (ds : List Int) (d l : Int), DXs X body σ (put S C ⟨ds ++ [d], l, m, t⟩ H0) σ (put S C ⟨ds, d, m, t⟩ H0)) :
    ∀ (n : Nat) (ns : List Int) (l : Int), ns.length = n → WhX (XT X c) (DXs X body) n σ (put S C ⟨ns, l, m, t⟩ H0) σ (put S C ⟨(aft n ns l).1, (aft n ns l).2, m, t⟩ H0)
  | 0, ns, l, h => .done ((test ns l).is (by rw [h]; simp))
  | n + 1, ns, l, h => by
    unfold aft
    by_cases hl : l < 2
    · obtain ⟨ds, d, rfl⟩ : ∃ ds d, ns = ds ++ [d] := ⟨ns.dropLast, ns.getLast (by intro e; rw [e] at h; cases h), (List.dropLast_concat_getLast _).symm⟩
      rw [if_pos hl, List.dropLast_concat, List.getLast?_concat]
      exact .turn ((test _ l).is (by rw [decide_eq_true hl, decide_eq_true (by rw [h]; omega)]; rfl)) (step ds d l) (pick_while test step n ds d (by simpa using h))
    · rw [if_neg hl]
      exact .done ((test ns l).is (by rw [decide_eq_false hl]; rfl))
theorem pick_while' {X : Cx} {c : Expr} {body : List Stmt} {σ : L2.St} {S C : Addr} {m t l : Int} {ns : List Int} {H0 : Hp} (hz : SrcV S C ⟨ns, l, m, t⟩ H0) (test : ∀ (ns : List Int) (l : Int), XT X c σ (put S C ⟨ns, l, m, t⟩ H0) (decide (l < 2) && decide ((0 : Int) < ns.length)))
    (step : ∀ (ds : List Int) (d l : Int), DXs X body σ (put S C ⟨ds ++ [d], l, m, t⟩ H0) σ (put S C ⟨ds, d, m, t⟩ H0)) : WhX (XT X c) (DXs X body) ns.length σ H0 σ (put S C ⟨(aft ns.length ns l).1, (aft ns.length ns l).2, m, t⟩ H0) := by
  have := pick_while test step ns.length ns l rfl
  rw [put_same hz] at this
  exact this
theorem put_pop {S C : Addr} {z : Sr} {H : Hp} {ds : List Int} (ne : C ≠ S) : upd (put S C z H) C (.lst (ds.map V.int)) = put S C ⟨ds, z.l, z.m, z.t⟩ H := by
  funext b
  unfold put upd
  by_cases hb : b = C
  · subst hb; rw [if_pos rfl, if_neg ne, if_pos rfl]
  · rw [if_neg hb]
    by_cases hc : b = S
    · rw [if_pos hc, if_pos hc]
    · rw [if_neg hc, if_neg hc, if_neg hb, if_neg hb]
section
variable {X : Cx} {σ : L2.St} {H H1 : Hp} {e a : Expr} {i : Int} {S C : Addr} {z : Sr} {pos p p2 : Pos} {jj : Nat}
theorem x_putL (hu : X.A.units + 1 < cLine) (ne : C ≠ S) (he : XW X e σ H1 (.int i) (put S C z H)) (ha : XW X a σ (put S C z H) (.ref S) (put S C z H)) (hs : swapsWith e (some (.Subscript a (.Constant (.str "left") jj p) p2)) pos.line X.env = pure false := by rfl) :
    DX X (.Assign [.Subscript a (.Constant (.str "left") jj p) p2] e pos) σ H1 σ (put S C ⟨z.ns, i, z.m, z.t⟩ H) := by
  have h := x_put hu he (put_src ne).1 ha hs
  rw [put_left, put_dk (put_src ne), put_put] at h
  exact h
theorem x_putT (hu : X.A.units + 1 < cLine) (ne : C ≠ S) (he : XW X e σ H1 (.int i) (put S C z H)) (ha : XW X a σ (put S C z H) (.ref S) (put S C z H)) (hs : swapsWith e (some (.Subscript a (.Constant (.str "turn") jj p) p2)) pos.line X.env = pure false := by rfl) :
    DX X (.Assign [.Subscript a (.Constant (.str "turn") jj p) p2] e pos) σ H1 σ (put S C ⟨z.ns, z.l, z.m, i⟩ H) := by
  have h := x_put hu he (put_src ne).1 ha hs
  rw [put_turn, put_dk (put_src ne), put_put] at h
  exact h
theorem x_popP {x : Str} {n : Nat} {d l m t : Int} {ds : List Int} {p3 : Pos} (ne : C ≠ S) (hσ : σ[n]? = some (some (.ref C)) := by rfl) (hN : X.N[n]? = some x := by rfl) (hv : Vis X.env.scope x := by first | exact Or.inl rfl | exact Or.inr (Or.inl rfl) | exact Or.inr (Or.inr rfl)) (hd : (x == ("__debug__" : Str)) = false := by decide)
    (hcd : (x == ("__classdict__" : Str)) = false := by decide) (hbase : attributeBase (.Name x p) "pop" X.env (eval (.Name x p) X.env) = eval (.Name x p) X.env := by rfl) (hline : (p2.endLine == p3.line) = true := by rfl) :
    XW X (.Call (.Attribute (.Name x p) "pop" p2) [] [] p3) σ (put S C ⟨ds ++ [d], l, m, t⟩ H) (.int d) (put S C ⟨ds, l, m, t⟩ H) := by
  have h := x_pop (put_src (z := ⟨ds ++ [d], l, m, t⟩) (H := H) ne) rfl hσ hN hv hd hcd hbase hline
  rw [put_pop ne] at h
  exact h
end
theorem fm_lt {a b : Int} (h : 0 < b) : 0 ≤ a.fmod b ∧ a.fmod b < b := by
  rw [Int.fmod_eq_emod_of_nonneg _ (by omega)]
  exact ⟨Int.emod_nonneg _ (by omega), Int.emod_lt_of_pos _ h⟩
theorem fn_pick (T : Top mg) (F : Fd K mg "_law_pick" (topS 59) ["_law_source", "_law_most"]) : ∃ (f : Addr) (fd : FuncData), FnOk P w K mg base CX0 1 f fd ["_law_source", "_law_most"] spPick ∧ mg "_law_pick" = some (.ref f) ∧ PySem.W.keepIn K (.ref f) = true ∧ Binds K fd ["_law_source", "_law_most"] [] := by
  obtain ⟨f, fd, F1, hm, hb⟩ := F.ex
  refine ⟨f, fd, F1.ok sc_pick (fun vs H Q E h => ?_) (fun cdv A outer s H vs Q E hr h => ⟨_, pss_self _ _, ?_⟩), hm, F1.kp, hb⟩
  · obtain ⟨S, C, z, k, rfl, _⟩ := h
    rfl
  obtain ⟨S, C, z, k, rfl, hz, hk, hk2, q⟩ := h
  have ne := hz.ne
  have hu := units1 hr
  suffices hd : ∃ r z', 0 ≤ r ∧ r < k ∧ DR (cxD P w K mg base ["_law_source", "_law_most", "_law_digits", "_law_left", "_law_laps", "_law_mixed"] "_law_pick" (topS 59) f cdv A outer s H E) (defBody (topS 59)) [some (.ref S), some (.int k), none, none, none, none] H (.int r) (put S C z' H) by
    obtain ⟨r, z', h1, h2, h3⟩ := hd
    exact h3 _ (q r z' h1 h2)
  by_cases h2 : k < 2
  · exact ⟨0, z, by omega, by omega, by rw [put_same hz]; exact r_cond (k := true) (XT.is (xt_lt (x_v 1) x_int) (decide_eq_true h2)) (fun _ => r_ret x_int) (fun z => nomatch z)⟩
  · obtain ⟨ns, l, m, t⟩ := z
    have hp : put S C ⟨ns, l, m, t⟩ H = H := put_same hz
    have src : ∀ y : Sr, SrcV S C y (put S C y H) := fun y => put_src ne
    have ck : CDivZ (aft ns.length ns l).2 k := ⟨by omega, by
      have h1 : k.natAbs.log2 ≤ k.natAbs := Nat.log2_le_self _
      omega⟩
    have s17 : ∀ x : Int, CMul x 17 := fun x => .inr (by decide)
    have s104 : ∀ x : Int, CMul x 104729 := fun x => .inr (by decide)
    by_cases hl : 1 < (aft ns.length ns l).2
    · have fl := fm_lt (a := (aft ns.length ns l).2) (show 0 < k by omega)
      exact ⟨(aft ns.length ns l).2.fmod k, ⟨(aft ns.length ns l).1, (aft ns.length ns l).2.fdiv k, m, t⟩, fl.1, fl.2, r_cond (k := false) (XT.is (xt_lt (x_v 1) x_int) (decide_eq_false h2)) (fun z => nomatch z) fun _ => (r_cons (x_set 2 sc_pick.nd (x_get hu hz.1 get_cells (x_v 0))) (r_cons (x_while (n := ns.length) (pick_while' hz (fun ns l => xt_and (xt_lt (x_get hu (src ⟨ns, l, m, t⟩).1 get_left (x_v 0)) x_int) fun _ => xt_gt (x_len T (src ⟨ns, l, m, t⟩) (x_v 2)) x_int) (fun ds d l => r_one (x_putL hu ne (x_popP (n := 2) ne) (x_v 0)))))
        (r_cons (x_set 3 sc_pick.nd (x_get hu (src _).1 get_left (x_v 0))) (r_cond (k := true) (XT.is (xt_gt (x_v 3) x_int) (decide_eq_true hl)) (fun _ => r_cons (x_putL hu ne (x_div ck (x_v 3) (x_v 1)) (x_v 0)) (r_ret (x_mod (i := (aft ns.length ns l).2) (j := k) (by omega) (x_intI T (x_v 3)) (x_v 1)))) (fun z => nomatch z)))))⟩
    · have f1 := fm_lt (a := m + (t + 1) * 104729) (show (0 : Int) < 998244353 by decide)
      have f2 := fm_lt (a := (m + (t + 1) * 104729).fmod 998244353 * (m + (t + 1) * 104729).fmod 998244353 + (t + 1) * 17) (show (0 : Int) < 2147483647 by decide)
      have f3 := fm_lt (a := ((((m + (t + 1) * 104729).fmod 998244353 * (m + (t + 1) * 104729).fmod 998244353 + (t + 1) * 17).fmod 2147483647)).fdiv 16) (show 0 < k by omega)
      have sm : CMul ((m + (t + 1) * 104729).fmod 998244353) ((m + (t + 1) * 104729).fmod 998244353) := .inl ⟨by omega, by omega⟩
      have c16 : CDivZ (((m + (t + 1) * 104729).fmod 998244353 * (m + (t + 1) * 104729).fmod 998244353 + (t + 1) * 17).fmod 2147483647) 16 := ⟨by decide, by decide⟩
      exact ⟨_, ⟨(aft ns.length ns l).1, (aft ns.length ns l).2, m, t + 1⟩, f3.1, f3.2, r_cond (k := false) (XT.is (xt_lt (x_v 1) x_int) (decide_eq_false h2)) (fun z => nomatch z) fun _ => (r_cons (x_set 2 sc_pick.nd (x_get hu hz.1 get_cells (x_v 0))) (r_cons (x_while (n := ns.length) (pick_while' hz (fun ns l => xt_and (xt_lt (x_get hu (src ⟨ns, l, m, t⟩).1 get_left (x_v 0)) x_int) fun _ => xt_gt (x_len T (src ⟨ns, l, m, t⟩) (x_v 2)) x_int) (fun ds d l => r_one (x_putL hu ne (x_popP (n := 2) ne) (x_v 0)))))
        (r_cons (x_set 3 sc_pick.nd (x_get hu (src _).1 get_left (x_v 0))) (r_cond (k := false) (XT.is (xt_gt (x_v 3) x_int) (decide_eq_false hl)) (fun z => nomatch z) fun _ =>
          r_cons (x_putT hu ne (x_add (x_get hu (src _).1 get_turn (x_v 0)) x_int) (x_v 0)) (r_cons (x_set 4 sc_pick.nd (x_get hu (src _).1 get_turn (x_v 0))) (r_cons (x_set 5 sc_pick.nd (x_mod (by decide) (x_intI T (x_add (x_get hu (src _).1 get_mixed (x_v 0)) (x_mul (s104 _) (x_v 4) x_int))) x_int))
            (r_cons (x_set 5 sc_pick.nd (x_mod (by decide) (x_intI T (x_add (x_mul sm (x_v 5) (x_v 5)) (x_mul (s17 _) (x_v 4) x_int))) x_int)) (r_ret (x_mod (j := k) (by omega) (x_intI T (x_div c16 (x_v 5) x_int)) (x_v 1))))))))))⟩
end
end PH

set_option Elab.async false
set_option linter.all false
set_option maxRecDepth 100000
set_option maxHeartbeats 1000000
namespace PH
open PySem PySem.Spec PyProof.Rows L2
/-! ### work that draws from the source -/
structure SrcAt (S C : Addr) (Hc H : Hp) : Prop where
  oS : Hc S = none
  oC : Hc C = none
  ex : ∃ z, SrcV S C z H
structure StepP (S C : Addr) (Hc H Hc' H' : Hp) : Prop where
  cc : Same Hc Hc'
  hh : ∀ b o, b ≠ S → b ≠ C → H b = some o → H' b = some o
  sub : Same Hc' H'
  fr : ∀ b, b ≠ S → b ≠ C → Hc b = none → H b ≠ none → (∀ xs, H b ≠ some (.tup xs)) → Hc' b = none
section
variable {S C : Addr}
theorem Step.p {Hc H Hc' H' : Hp} (s : Step Hc H Hc' H') : StepP S C Hc H Hc' H' := ⟨s.cc, fun b o _ _ e => s.hh b o e, s.sub, fun b _ _ h1 h2 h3 => s.fr b h1 h2 h3⟩
theorem StepP.trans {Hc H Hc1 H1 Hc2 H2 : Hp} (a : StepP S C Hc H Hc1 H1) (b : StepP S C Hc1 H1 Hc2 H2) : StepP S C Hc H Hc2 H2 :=
  ⟨a.cc.trans b.cc, fun c o x y e => b.hh c o x y (a.hh c o x y e), b.sub, fun c x y h1 h2 h3 => by
    cases e : H c with
    | none => exact absurd e h2
    | some o => exact b.fr c x y (a.fr c x y h1 h2 h3) (by rw [a.hh c o x y e]; exact fun z => nomatch z) (fun xs => by rw [a.hh c o x y e, ← e]; exact h3 xs)⟩
theorem SrcAt.step {Hc H Hc' H' : Hp} (a : SrcAt S C Hc H) (s : Step Hc H Hc' H') : SrcAt S C Hc' H' := by
  obtain ⟨a1, a2, z, z1, z2⟩ := a
  exact ⟨s.fr S a1 (by rw [z1]; exact fun z => nomatch z) (fun xs => by rw [z1]; exact fun z => nomatch z), s.fr C a2 (by rw [z2]; exact fun z => nomatch z) (fun xs => by rw [z2]; exact fun z => nomatch z), z, s.hh _ _ z1, s.hh _ _ z2⟩
theorem put_step {Hc H : Hp} {z : Sr} (s : Same Hc H) (a : SrcAt S C Hc H) : StepP S C Hc H Hc (put S C z H) ∧ SrcAt S C Hc (put S C z H) := by
  obtain ⟨a1, a2, y, hy⟩ := a
  refine ⟨⟨Same.refl _, fun b o x y e => by unfold put; rw [upd_ne x, upd_ne y]; exact e, fun b o e => ?_, fun _ _ _ h _ _ => h⟩, a1, a2, z, put_src hy.ne⟩
  unfold put
  rw [upd_ne (fun x => by rw [x, a1] at e; cases e), upd_ne (fun x => by rw [x, a2] at e; cases e)]
  exact s b o e
variable (S C) in
def EvS (te : TE) (ρ : En) (P : PyData → Prop) : Prop := ∀ (σ : L2.St) (Hc H : Hp), Same Hc H → Rep Hc σ ρ → SrcAt S C Hc H → ∀ Q : VK, (∀ v d Hc' H', StepP S C Hc H Hc' H' → SrcAt S C Hc' H' → P d → Dq Hc' v d → Q v H') → te σ H Q
variable (S C) in
def EaS (ta : TA) (ρ : En) (P : List PyData → Prop) : Prop := ∀ (σ : L2.St) (Hc H : Hp), Same Hc H → Rep Hc σ ρ → SrcAt S C Hc H → ∀ Q : List V → Hp → Prop, (∀ vs ds Hc' H', StepP S C Hc H Hc' H' → SrcAt S C Hc' H' → P ds → DqA Hc' vs ds → Q vs H') → ta σ H Q
variable {ρ : En} {te ta tb tn : TE} {tr : TA} {r : R2} {P Pa Pb Pf : PyData → Prop} {d : PyData} {Ps : List PyData → Prop}
theorem EvS.imp (h : EvS S C te ρ P) (i : ∀ d, P d → Pa d) : EvS S C te ρ Pa := fun σ Hc H s R a Q q => h σ Hc H s R a Q fun v d Hc1 H1 s1 a1 p d1 => q v d Hc1 H1 s1 a1 (i d p) d1
theorem es_lift (h : Ev te ρ d) (hp : P d) : EvS S C te ρ P := fun σ Hc H s R a Q q => h σ Hc H s R Q fun v Hc1 H1 s1 d1 => q v d Hc1 H1 s1.p (a.step s1) hp d1
theorem es_op (ha : EvS S C ta ρ Pa) (hb : EvS S C tb ρ Pb) (hr : ∀ d e, Pa d → Pb e → ∃ f, Pf f ∧ Op2 r d e f) : EvS S C (tOp r ta tb) ρ Pf := fun σ Hc H s R a Q q =>
  ha σ Hc H s R a _ fun x d Hc1 H1 s1 a1 p1 d1 => hb σ Hc1 H1 s1.sub (R.mono s1.cc) a1 _ fun y e Hc2 H2 s2 a2 p2 d2 => by
    obtain ⟨f, hf, h⟩ := hr d e p1 p2
    exact h x y Hc2 H2 s2.sub (d1.mono s2.cc) d2 Q fun v Hc3 H3 s3 d3 => q v f Hc3 H3 ((s1.trans s2).trans s3.p) (a2.step s3) hf d3
theorem es_nil : EaS S C tNil ρ (· = []) := fun σ Hc H s R a Q q => q [] [] Hc H (Step.refl s).p a rfl .nil
theorem es_cons (ha : EvS S C ta ρ P) (hr : EaS S C tr ρ Ps) : EaS S C (tCons ta tr) ρ (fun ds => ∃ d es, ds = d :: es ∧ P d ∧ Ps es) := fun σ Hc H s R a Q q =>
  ha σ Hc H s R a _ fun x d Hc1 H1 s1 a1 p1 d1 => hr σ Hc1 H1 s1.sub (R.mono s1.cc) a1 _ fun vs ds Hc2 H2 s2 a2 p2 d2 => q _ _ Hc2 H2 (s1.trans s2) a2 ⟨d, ds, rfl, p1, p2⟩ (.cons (d1.mono s2.cc) d2)
theorem es_tup (h : EaS S C tr ρ Ps) (hl : ∀ ds, Ps ds → ds.length ≤ 100000) : EvS S C (tTup tr) ρ (fun d => ∃ ds, d = .tuple ds ∧ Ps ds) := fun σ Hc H s R a Q q =>
  h σ Hc H s R a _ fun vs ds Hc1 H1 s1 a1 p1 d1 => ⟨by rw [d1.length]; exact sz_ok (hl ds p1), fun p hp => q _ _ _ _ (s1.trans (Step.new (o := .tup vs) s1.sub hp).p) (a1.step (Step.new s1.sub hp)) ⟨ds, rfl, p1⟩ (.tup upd_same (d1.mono (same_new (s1.sub.free hp))))⟩
theorem es_call {R : List PyData → PyData → Prop} {E : XK} (h : EaS S C tr ρ Ps) (hr : ∀ ds, Ps ds → ∃ f, Pf f ∧ R ds f) : EvS S C (tCall (spD R) [] E tr) ρ Pf := fun σ Hc H s Rp a Q q =>
  h σ Hc H s Rp a _ fun vs ds Hc1 H1 s1 a1 p1 d1 => by
    obtain ⟨f, hf, hR⟩ := hr ds p1
    show spD R (vs ++ []) H1 Q E
    rw [List.append_nil]
    exact ⟨Hc1, ds, f, s1.sub, d1, hR, fun v Hc2 H2 s2 d2 => q v f Hc2 H2 (s1.trans s2.p) (a1.step s2) hf d2⟩
def spS (R : List PyData → (PyData → Prop) → Prop) : Sp := fun vs H Q _ => ∃ (S C : Addr) (us : List V) (Hc : Hp) (ds : List PyData) (P : PyData → Prop), vs = .ref S :: us ∧ Same Hc H ∧ SrcAt S C Hc H ∧ DqA Hc us ds ∧ R ds P ∧ ∀ v d Hc' H', StepP S C Hc H Hc' H' → SrcAt S C Hc' H' → P d → Dq Hc' v d → Q v H'
theorem es_callS {R : List PyData → (PyData → Prop) → Prop} {E : XK} (h : EaS S C tr ρ Ps) (hr : ∀ ds, Ps ds → ∃ es, ds = oq S :: es ∧ R es Pf) : EvS S C (tCall (spS R) [] E tr) ρ Pf := fun σ Hc H s Rp a Q q =>
  h σ Hc H s Rp a _ fun vs ds Hc1 H1 s1 a1 p1 d1 => by
    obtain ⟨es, rfl, hR⟩ := hr ds p1
    show spS R (vs ++ []) H1 Q E
    rw [List.append_nil]
    cases d1 with
    | cons x1 x2 =>
      cases x1
      exact ⟨S, C, _, Hc1, es, Pf, rfl, s1.sub, a1, x2, hR, fun v d Hc2 H2 s2 a2 p2 d2 => q v d Hc2 H2 (s1.trans s2) a2 p2 d2⟩
theorem es_lc {Pn : Int → Prop} {i : Nat} (hn : EvS S C tn ρ (fun d => ∃ n, d = .int n ∧ Pn n)) (hb : ∀ n, Pn n → 0 ≤ n ∧ n ≤ 1000) (he : ∀ k : Nat, EvS S C te ((wipeE ρ [i]).set i (some (.int (k : Int)))) P) : EvS S C (tLc (iRng1 (tCons tn tNil)) (gName i) tYes te [i]) ρ (fun d => ∃ n ds, Pn n ∧ d = .list ds ∧ ds.length = n.toNat ∧ ∀ x ∈ ds, P x) := fun σ Hc H s R a Q q =>
  hn σ Hc H s R a _ fun v d Hc1 H1 s1 a1 p1 d1 => by
    obtain ⟨n, rfl, hn⟩ := p1
    cases d1
    obtain ⟨b1, b2⟩ := hb n hn
    refine ⟨n, rfl, by omega, by omega, fun D hD => ?_⟩
    have hcD : Hc1 D = none := s1.sub.free hD
    obtain ⟨z, hz⟩ := a1.ex
    have nS : D ≠ S := fun e => by rw [e, hz.1] at hD; cases hD
    have nC : D ≠ C := fun e => by rw [e, hz.2] at hD; cases hD
    refine ⟨fun j m H2 => m = n.toNat - j ∧ j ≤ n.toNat ∧ ∃ Hc2 acc ds, StepP S C Hc1 H1 Hc2 H2 ∧ SrcAt S C Hc2 H2 ∧ Hc2 D = none ∧ H2 D = some (.lst acc) ∧ DqA Hc2 acc ds ∧ ds.length = j ∧ ∀ x ∈ ds, P x,
      ⟨_, rfl, Nat.zero_le _, Hc1, [], [], ⟨Same.refl _, fun b o _ _ e => by rw [upd_ne (ne_of_none e hD)]; exact e, fun c o e => by rw [upd_ne (ne_of_none e hcD)]; exact s1.sub c o e, fun _ _ _ h _ _ => h⟩, ⟨a1.oS, a1.oC, z, by rw [upd_ne nS.symm]; exact hz.1, by rw [upd_ne nC.symm]; exact hz.2⟩, hcD, upd_same, .nil, rfl, fun _ h => nomatch h⟩, ?_⟩
    rintro j m H2 ⟨rfl, hj, Hc2, acc, ds, s2, a2, n2, h2, d2, l2, p2⟩
    by_cases hlt : j < n.toNat
    · refine .inr ⟨hlt, fun H' => ∃ Hc2 acc ds, StepP S C Hc1 H1 Hc2 H' ∧ SrcAt S C Hc2 H' ∧ Hc2 D = none ∧ H' D = some (.lst acc) ∧ DqA Hc2 acc ds ∧ ds.length = j + 1 ∧ ∀ x ∈ ds, P x, fun H' h => ⟨n.toNat - (j + 1), by omega, rfl, hlt, h⟩, fun x H3 y => ?_⟩
      obtain ⟨e1, e2⟩ := y
      subst e1 e2
      have hw : Dq Hc2 (.int (0 + (j : Int))) (.int (j : Int)) := by rw [Int.zero_add]; exact .int _
      refine ⟨by rw [wipe_set _ _ _ _ (by simp), wipe_wipe σ [i] [i] fun _ h => h], ?_⟩
      unfold tYes
      dsimp only
      rw [if_pos rfl]
      refine he j _ Hc2 _ s2.sub (((R.mono (s1.cc.trans s2.cc)).wipe [i]).set hw i) a2 _ fun y d Hc5 H5 s5 a5 p5 d5 => ?_
      have n5 := s5.fr D nS nC n2 (by rw [h2]; exact fun z => nomatch z) (fun xs => by rw [h2]; exact fun z => nomatch z)
      have h5 := s5.hh D _ nS nC h2
      have s25 := s2.trans s5
      obtain ⟨z5, hz5⟩ := a5.ex
      refine ⟨acc, h5, Nat.lt_of_lt_of_le (show _ < 100001 by rw [d2.length, l2]; omega) (by decide), Hc5, acc ++ [y], ds ++ [d], ⟨s25.cc, fun b o x y e => by rw [upd_ne (ne_of_none e hD)]; exact s25.hh b o x y e, fun c o e => by rw [upd_ne (ne_of_none e n5)]; exact s25.sub c o e, s25.fr⟩,
        ⟨a5.oS, a5.oC, z5, by rw [upd_ne nS.symm]; exact hz5.1, by rw [upd_ne nC.symm]; exact hz5.2⟩, n5, upd_same, (d2.mono s5.cc).append (.cons d5 .nil), by rw [List.length_append, l2]; rfl, fun x hx => ?_⟩
      rcases List.mem_append.mp hx with h | h
      · exact p2 x h
      · rw [List.mem_singleton.mp h]; exact p5
    · have e : j = n.toNat := by omega
      have nD : Same Hc2 (upd Hc2 D (.lst acc)) := same_new n2
      obtain ⟨z2, hz2⟩ := a2.ex
      refine .inl ⟨by show n.toNat ≤ j; omega, q _ (.list ds) (upd Hc2 D (.lst acc)) H2 (s1.trans ⟨s2.cc.trans nD, s2.hh, fun c o z => ?_, fun c x y h1 h2' h3 => ?_⟩) ⟨by rw [upd_ne nS.symm]; exact a2.oS, by rw [upd_ne nC.symm]; exact a2.oC, z2, hz2⟩ ⟨n, ds, hn, rfl, by omega, p2⟩ (.lst upd_same (d2.mono nD))⟩
      · by_cases hc : c = D
        · subst hc; rw [upd_same] at z; rw [← z]; exact h2
        · rw [upd_ne hc] at z; exact s2.sub c o z
      · rw [upd_ne (fun z => h2' (by rw [z]; exact hD))]
        exact s2.fr c x y h1 h2' h3
end
end PH

set_option Elab.async false
set_option linter.all false
set_option maxRecDepth 100000
set_option maxHeartbeats 1000000
namespace PH
open PySem PySem.Spec PyProof.Rows L2
theorem sql_mono {K : PySem.W.Frag} {H H' : Hp} {a : Addr} {xs : List V} (s : Same H H') : SqL K H a xs → SqL K H' a xs
  | .inl (.inl h) => .inl (.inl (s _ _ h))
  | .inl (.inr ⟨o, h⟩) => .inl (.inr ⟨o, s _ _ h⟩)
  | .inr h => .inr h
def DC (X : Cx) (st : Stmt) (σ : L2.St) (H : Hp) (post : L2.St → Hp → Prop) : Prop := ∀ D : Ends, (∀ σ' H', post σ' H' → D.nx σ' H') → ts1 X st D σ H
theorem tseq_dc {X : Cx} {st : Stmt} {u : TS} {D : Ends} {σ : L2.St} {H : Hp} {post : L2.St → Hp → Prop} (h : DC X st σ H post) (k : ∀ σ' H', post σ' H' → u D σ' H') : tSeq (ts1 X st) u D σ H := h _ k
theorem tseq_dx {X : Cx} {st : Stmt} {u : TS} {D : Ends} {σ σ' : L2.St} {H H' : Hp} (h : DX X st σ H σ' H') (k : u D σ' H') : tSeq (ts1 X st) u D σ H := h _ k
theorem xgo {X : Cx} {e : Expr} {σ : L2.St} {H H' : Hp} {v : V} {Q : VK} (h : XW X e σ H v H') (q : Q v H') : teOf X e σ H Q := h Q q
section
variable {X : Cx} {σ : L2.St} {H : Hp} {ns : List Int} {a : Addr}
theorem x_forL {tg iter : Expr} {body : List Stmt} {pos : Pos} {n : Nat} {inv : L2.St → Prop} (hc : X.calm = true) (ha : XW X iter σ H (.ref a) H) (hs : SqL X.K H a (ns.map V.int)) (hg : PG X tg (gName n)) (h0 : inv σ) (step : ∀ (σ1 : L2.St) (i : Int), inv σ1 → ∃ σ2, inv σ2 ∧ DXs X body (σ1.set n (some (.int i))) H σ2 H)
    (hf : ∀ x, foldedSetIterable iter X.env x = pure x := by intro _; rfl) (hp : PassesOwn (model X.prog X.w) X.A X.env X.xe := by exact PassesOwn.never) : DC X (.For tg iter body [] pos) σ H (fun σ' H' => H' = H ∧ inv σ') := fun D q pins sh I =>
  (ps_for hp hc (pi_list (pe_self X iter)) hg (pss_self X body) hf).run pins sh σ H D I (ha _ ⟨a, rfl, ⟨_, hs⟩, fun i m σ1 H1 => m = ns.length - i ∧ i ≤ ns.length ∧ H1 = H ∧ inv σ1, ⟨_, rfl, Nat.zero_le _, rfl, h0⟩, by
    rintro i m σ1 H1 ⟨rfl, hi, rfl, v1⟩
    by_cases hlt : i < ns.length
    · refine .inr ⟨⟨_, _, hs, List.getElem?_eq_getElem (by rw [List.length_map]; exact hlt)⟩, fun σ' H' => H' = H1 ∧ inv σ', fun σ' H' h => ⟨ns.length - (i + 1), by omega, rfl, hlt, h⟩, fun x H' y => ?_⟩
      obtain ⟨rfl, y⟩ := y
      have e := y _ hs
      rw [List.getElem?_map, List.getElem?_eq_getElem hlt] at e
      have e : V.int ns[i] = x := Option.some.inj e
      subst e
      obtain ⟨σ2, v2, h2⟩ := step σ1 ns[i] v1
      exact h2 _ ⟨rfl, v2⟩
    · exact .inl ⟨⟨_, hs, by rw [List.length_map]; omega⟩, q σ1 _ ⟨rfl, v1⟩⟩⟩)
/-- y = [f(i) for i in a list of numbers] -/
theorem x_setLcL {tg iter elt : Expr} {scope : Scope} {own : List (Str × Nat)} {pos spos py : Pos} {y : Str} {n k : Nat} {f : Int → Int} (hc : X.calm = true) (hN : X.N.Nodup) (hsw : swapsWith (.ListComp elt [⟨tg, iter, [], 0⟩] scope pos) (some (.Name y py)) spos.line X.env = pure true) (ok : BlkOk X.N X.env.scope scope own) (ho : own.map (·.2) = [k])
    (ha : XW X iter σ H (.ref a) H) (hs : SqL X.K H a (ns.map V.int)) (hz : ns.length ≤ 90000) (hg : PGB X scope tg (gName k)) (he : ∀ (i : Int) (H' : Hp) (s : Shared) (H1 : Hp) (C : Addr) (cl : List (Str × Addr)) (fp : List Addr), XW (X.blk s H1 scope (compEnvC scope cl C X.env) fp) elt ((wipe σ [k]).set k (some (.int i))) H' (.int (f i)) H')
    (hy : X.N[n]? = some y := by rfl) (hyl : X.env.scope.names.lookup y = some .local := by rfl) (hf : ∀ x, foldedSetIterable iter X.env x = pure x := by intro _; rfl) :
    DC X (.Assign [.Name y py] (.ListComp elt [⟨tg, iter, [], 0⟩] scope pos) spos) σ H (fun σ' H' => ∃ d, H d = none ∧ σ' = σ.set n (some (.ref d)) ∧ H' = upd H d (.lst ((ns.map f).map V.int))) := fun D q pins sh I =>
  (ps_setLc hc hN hy hyl hsw (pi_list (pe_self X iter)) ok hg (fun _ _ _ _ _ => pts_nil) (pe_teB (e := elt)) hf).run pins sh σ H D I (ha _ ⟨a, rfl, ⟨_, hs⟩, fun d hd => by
    have keep : ∀ acc, SqL X.K (upd H d (.lst acc)) a (ns.map V.int) := fun acc => sql_mono (same_new hd) hs
    rw [ho]
    refine ⟨fun i m H1 => m = ns.length - i ∧ i ≤ ns.length ∧ H1 = upd H d (.lst (((ns.take i).map f).map V.int)), ⟨_, rfl, Nat.zero_le _, rfl⟩, ?_⟩
    rintro i m H1 ⟨rfl, hi, rfl⟩
    by_cases hlt : i < ns.length
    · refine .inr ⟨⟨_, _, keep _, List.getElem?_eq_getElem (by rw [List.length_map]; exact hlt)⟩, fun H' => H' = upd H d (.lst (((ns.take (i + 1)).map f).map V.int)), fun H' h => ⟨ns.length - (i + 1), by omega, rfl, hlt, h⟩, fun x H' y => ?_⟩
      obtain ⟨rfl, y⟩ := y
      have e := y _ (keep _)
      rw [List.getElem?_map, List.getElem?_eq_getElem hlt] at e
      have e : V.int ns[i] = x := Option.some.inj e
      subst e
      refine ⟨by rw [wipe_set _ _ _ _ (by simp), wipe_wipe σ [k] [k] fun _ h => h], ?_⟩
      unfold tYes
      dsimp only
      rw [if_pos rfl]
      intro s1 H1 C cl fp
      refine he ns[i] _ s1 H1 C cl fp _ ⟨_, upd_same, ?_, ?_⟩
      · rw [List.length_map, List.length_map, List.length_take]
        exact Nat.lt_of_lt_of_le (show _ < 100001 by omega) (by decide)
      · rw [upd_upd, List.take_add_one, List.getElem?_eq_getElem hlt, List.map_append, List.map_append]
        rfl
    · refine .inl ⟨⟨_, keep _, by rw [List.length_map]; omega⟩, ?_⟩
      rw [List.take_of_length_le (by omega)]
      exact q _ _ ⟨d, hd, rfl, rfl⟩⟩)
end
section
variable {P : Program} {w : World} {K : PySem.W.Frag} {mg : Str → Option Value} {base : Heap}
def spOpen (K : PySem.W.Frag) : Sp := fun vs H Q _ => ∃ (a : Addr) (ns : List Int), vs = [.ref a] ∧ SqL K H a (ns.map V.int) ∧ ns.length ≤ 90000 ∧ ∀ S C z H', SrcV S C z H' → Q (.ref S) H'
theorem sc_open : FnScope ["_law_script", "_law_mixed", "_law_cell", "_law_digits"] ["_law_script"] (defScope (topS 58)) := ⟨rfl, rfl, rfl, by decide +kernel, rfl, by decide +kernel, by decide +kernel⟩
theorem merge_src {C : Addr} {l m t : Int} : mergeK [] (srcK C l m t) = srcK C l m t := by
  simp [mergeK, srcK, putK, k12, k13, k14, k23, k24, k34]
theorem fn_open (T : Top mg) (F : Fd K mg "_law_open_cells" (topS 58) ["_law_script"]) : ∃ (f : Addr) (fd : FuncData), FnOk P w K mg base CX0 1 f fd ["_law_script"] (spOpen K) ∧ mg "_law_open_cells" = some (.ref f) ∧ PySem.W.keepIn K (.ref f) = true ∧ Binds K fd ["_law_script"] [] := by
  obtain ⟨f, fd, F1, hm, hb⟩ := F.ex
  refine ⟨f, fd, F1.ok sc_open (fun vs H Q E h => ?_) (fun cdv A outer s H vs Q E hr h => ⟨_, pss_cons (ps_self _ _) (pss_cons (ps_self _ _) (pss_cons (ps_self _ _) (pss_one (ps_ret (pe_disp (pps_cons pe_str (pe_revL (pe_self _ _)) (pps_cons pe_str (pe_self _ _) (pps_cons pe_str (pe_self _ _) (pps_cons pe_str (pe_self _ _) pps_nil)))) rfl rfl (fun z => by cases z) (by decide)))))), ?_⟩), hm, F1.kp, hb⟩
  · obtain ⟨a, ns, rfl, _⟩ := h
    rfl
  obtain ⟨a, ns, rfl, hs, hz, q⟩ := h
  have s69 : ∀ x : Int, CMul x 69069 := fun x => .inr (by decide)
  have s31 : ∀ x : Int, CMul x 31 := fun x => .inr (by decide)
  refine tseq_dx (x_set (X := cxD P w K mg base ["_law_script", "_law_mixed", "_law_cell", "_law_digits"] "_law_open_cells" (topS 58) f cdv A outer s H E) 1 sc_open.nd x_int) (tseq_dc (x_forL (X := cxD P w K mg base ["_law_script", "_law_mixed", "_law_cell", "_law_digits"] "_law_open_cells" (topS 58) f cdv A outer s H E) (inv := fun σ => ∃ (m : Int) (c : Option V), σ = [some (.ref a), some (.int m), c, none]) rfl (x_v 0) hs (pg_name (i := 2) sc_open.nd rfl (.inl rfl)) ⟨11, none, rfl⟩ ?_) ?_)
  · rintro σ1 i ⟨m, c, rfl⟩
    exact ⟨_, ⟨_, some (.int i), rfl⟩, r_one (x_set 1 sc_open.nd (x_mod (by decide) (x_intI T (x_add (x_add (x_mul (s69 _) (x_v 1) x_int) (x_mul (s31 _) (x_v 2) x_int)) x_int)) x_int))⟩
  rintro σ1 H1 ⟨rfl, m, c, rfl⟩
  refine tseq_dc (x_setLcL (X := cxD P w K mg base ["_law_script", "_law_mixed", "_law_cell", "_law_digits"] "_law_open_cells" (topS 58) f cdv A outer s H1 E) (n := 3) (k := 2) (own := [("_law_cell", 2)]) (f := fun i => if i < 0 then -i else i) rfl sc_open.nd (sw_true rfl rfl rfl rfl) (bk (by decide +kernel)) rfl (x_v 0) hs hz (fun _ _ _ _ _ => pg_name (i := 2) sc_open.nd rfl (Or.inl rfl)) (fun i H' s' H1 C cl fp => ?_)) ?_
  · exact xw_of (pe_callB call_abs rfl T.abs bt_abs (pa_cons (pe_self _ _) pa_nil rfl) db_abs.1 db_abs.2 rfl rfl) fun Q q => xgo (x_v 2) ⟨i, rfl, q⟩
  rintro σ2 H2 ⟨d, hd, rfl, rfl⟩
  refine fun p hp => ?_
  have hpd : p ≠ d := fun e => by rw [e, upd_same] at hp; cases hp
  refine xgo (x_v (X := cxD P w K mg base ["_law_script", "_law_mixed", "_law_cell", "_law_digits"] "_law_open_cells" (topS 58) f cdv A outer s H1 E) 3) ⟨d, _, rfl, SqL.of (by rw [upd_ne hpd.symm]; exact upd_same), fun C hC => ?_⟩
  have hCp : C ≠ p := fun e => by rw [e, upd_same] at hC; cases hC
  refine xgo x_int (xgo (x_v (X := cxD P w K mg base ["_law_script", "_law_mixed", "_law_cell", "_law_digits"] "_law_open_cells" (topS 58) f cdv A outer s H1 E) 1) (xgo x_int ⟨by rw [upd_ne hCp.symm]; exact upd_same, srcK C 1 m 0, rfl, (show 4 ≤ 15 by decide), ?_⟩))
  rw [merge_src]
  refine q p C ⟨(ns.map fun i => if i < 0 then -i else i).reverse, 1, m, 0⟩ _ ⟨upd_same, ?_⟩
  rw [upd_ne hCp, upd_same, List.map_reverse]
end
end PH

set_option Elab.async false
set_option linter.all false
set_option maxRecDepth 100000
set_option maxHeartbeats 1000000
namespace PH
open PySem PySem.Spec PyProof.Rows L2
structure KnS (P : Program) (w : World) (K : PySem.W.Frag) (mg : Str → Option Value) (base : Heap) (x : Str) (k : Nat) (R : List PyData → (PyData → Prop) → Prop) : Prop where
  ex : ∃ (f : Addr) (fd : FuncData) (ps : List Str), FnOk P w K mg base CX0 k f fd ps (spS R) ∧ mg x = some (.ref f) ∧ PySem.W.keepIn K (.ref f) = true ∧ Binds K fd ps []
def IntP (Pa : Int → Prop) : PyData → Prop := fun d => ∃ i, d = .int i ∧ Pa i
def ES (S C : Addr) (X : Cx) (e : Expr) (ρ : En) (P : PyData → Prop) : Prop := EvS S C (teOf X e) ρ P
def EAS (S C : Addr) (X : Cx) (es : List Expr) (ρ : En) (P : List PyData → Prop) : Prop := ∃ ta, PA X es ta ∧ EaS S C ta ρ P
def SrS (S C : Addr) (X : Cx) (st : List Stmt) (ρ : En) (P : PyData → Prop) : Prop := ∀ (D : Ends) (σ : L2.St) (Hc H : Hp), Same Hc H → Rep Hc σ ρ → SrcAt S C Hc H → (∀ v d Hc' H', StepP S C Hc H Hc' H' → SrcAt S C Hc' H' → P d → Dq Hc' v d → D.rt v H') → tsOf X st D σ H
section
variable {S C : Addr} {X : Cx} {ρ : En} {e a b : Expr} {P Pf : PyData → Prop} {Pa Pb Pn : Int → Prop} {Ps : List PyData → Prop} {d : PyData} {pos p p2 : Pos} {rest : List Stmt}
theorem es_of {te : TE} (h : PE X e te) (v : EvS S C te ρ P) : ES S C X e ρ P := fun σ Hc H s R a Q q pins sh I => h.run pins sh σ H Q I (v σ Hc H s R a Q q)
theorem es_d (h : DE X e ρ d) (hp : P d) : ES S C X e ρ P := es_lift h hp
theorem es_i {i : Int} (h : DE X e ρ (.int i)) : ES S C X e ρ (IntP (· = i)) := es_lift h ⟨i, rfl, rfl⟩
theorem es_add (ha : ES S C X a ρ (IntP Pa)) (hb : ES S C X b ρ (IntP Pb)) (hr : ∀ i j, Pa i → Pb j → P (.int (i + j))) : ES S C X (.BinOp a .Add b pos) ρ P := es_of (pe_op op_add (pe_self X a) (pe_self X b)) (es_op ha hb (by
  rintro _ _ ⟨i, rfl, hi⟩ ⟨j, rfl, hj⟩
  exact ⟨_, hr i j hi hj, o2_int⟩))
theorem es_sub (ha : ES S C X a ρ (IntP Pa)) (hb : ES S C X b ρ (IntP Pb)) (hr : ∀ i j, Pa i → Pb j → P (.int (i - j))) : ES S C X (.BinOp a .Sub b pos) ρ P := es_of (pe_op op_sub (pe_self X a) (pe_self X b)) (es_op ha hb (by
  rintro _ _ ⟨i, rfl, hi⟩ ⟨j, rfl, hj⟩
  exact ⟨_, hr i j hi hj, o2_int⟩))
theorem es_ixL {ds : List PyData} (ha : DE X a ρ (.list ds)) (hb : ES S C X b ρ (IntP Pb)) (hr : ∀ j, Pb j → ∃ d, atI ds j = some d ∧ P d) (hs : PlainIx b := by exact fun _ _ => rfl) : ES S C X (.Subscript a b pos) ρ P := es_of (pe_ix ix_list (pe_self X a) (pe_self X b) hs) (es_op (Pa := (· = .list ds)) (es_lift ha rfl) hb (by
  rintro _ _ rfl ⟨j, rfl, hj⟩
  obtain ⟨d, h1, h2⟩ := hr j hj
  exact ⟨d, h2, o2_ixL h1⟩))
theorem eas_nil : EAS S C X [] ρ (· = []) := ⟨_, pa_nil, es_nil⟩
theorem eas_cons {es : List Expr} (h : ES S C X e ρ P) (t : EAS S C X es ρ Ps) (hs : starEach (e :: es) X.env = (false, eval e X.env) :: starEach es X.env := by rfl) : EAS S C X (e :: es) ρ (fun ds => ∃ d es, ds = d :: es ∧ P d ∧ Ps es) :=
  let ⟨_, p, q⟩ := t; ⟨_, pa_cons (pe_self X e) p hs, es_cons h q⟩
theorem es_tupX {es : List Expr} {k : Nat} (h : EAS S C X es ρ Ps) (hl : ∀ ds, Ps ds → ds.length ≤ 100000) (hr : ∀ ds, Ps ds → P (.tuple ds)) : ES S C X (.Tuple es k pos) ρ P := let ⟨_, p, q⟩ := h; es_of (pe_tup p) ((es_tup q hl).imp (by rintro _ ⟨ds, rfl, h⟩; exact hr ds h))
theorem es_callX {x : Str} {k : Nat} {R : List PyData → PyData → Prop} {es : List Expr} (G : Kn X.prog X.w X.K X.mg X.base x k R) (hr : Room k X.A) (h : EAS S C X (e :: es) ρ Ps) (hR : ∀ ds, Ps ds → ∃ f, Pf f ∧ R ds f) (hg : Gl X x := by rfl) (hx : (x == ("__debug__" : Str)) = false := by decide)
    (he : starEach (e :: es) X.env = (false, eval e X.env) :: starEach es X.env := by rfl) (hpl : (backTo pos (starEach es X.env)).any (·.1) = false := by rfl) : ES S C X (.Call (.Name x p) (e :: es) [] pos) ρ Pf := by
  obtain ⟨f, fd, ps, F, hm, hk, hb⟩ := G.ex
  obtain ⟨ta, p1, p2⟩ := h
  exact es_of (pe_call F hr hg hm hk hb .nil pass0 p1 hx he hpl) (es_call p2 hR)
theorem es_callSX {x : Str} {k : Nat} {R : List PyData → (PyData → Prop) → Prop} {es : List Expr} (G : KnS X.prog X.w X.K X.mg X.base x k R) (hr : Room k X.A) (h : EAS S C X (e :: es) ρ Ps) (hR : ∀ ds, Ps ds → ∃ es, ds = oq S :: es ∧ R es Pf) (hg : Gl X x := by rfl) (hx : (x == ("__debug__" : Str)) = false := by decide)
    (he : starEach (e :: es) X.env = (false, eval e X.env) :: starEach es X.env := by rfl) (hpl : (backTo pos (starEach es X.env)).any (·.1) = false := by rfl) : ES S C X (.Call (.Name x p) (e :: es) [] pos) ρ Pf := by
  obtain ⟨f, fd, ps, F, hm, hk, hb⟩ := G.ex
  obtain ⟨ta, p1, p2⟩ := h
  exact es_of (pe_call F hr hg hm hk hb .nil pass0 p1 hx he hpl) (es_callS p2 hR)
def R_pick (ds : List PyData) (P : PyData → Prop) : Prop := ∃ k : Int, ds = [.int k] ∧ 1 ≤ k ∧ k ≤ 1000 ∧ ∀ r, 0 ≤ r → r < k → P (.int r)
/-- _law_pick(source, k) -/
theorem es_pick {k : Int} (G : KnS X.prog X.w X.K X.mg X.base "_law_pick" 1 R_pick) (hr : Room 1 X.A) (h1 : DE X a ρ (oq S)) (h2 : DE X b ρ (.int k)) (hk : 1 ≤ k) (hk2 : k ≤ 1000) (hg : Gl X "_law_pick" := by rfl)
    (hs1 : starEach [a, b] X.env = (false, eval a X.env) :: starEach [b] X.env := by rfl) (hs2 : starEach [b] X.env = (false, eval b X.env) :: starEach [] X.env := by rfl) (hpl : (backTo pos (starEach [b] X.env)).any (·.1) = false := by rfl) : ES S C X (.Call (.Name "_law_pick" p) [a, b] [] pos) ρ (IntP fun r => 0 ≤ r ∧ r < k) :=
  es_callSX G hr (eas_cons (P := (· = oq S)) (es_d h1 rfl) (eas_cons (P := (· = .int k)) (es_d h2 rfl) eas_nil hs2) hs1) (by
    rintro _ ⟨_, _, rfl, rfl, _, _, rfl, rfl, rfl⟩
    exact ⟨_, rfl, k, rfl, hk, hk2, fun r a b => ⟨r, rfl, a, b⟩⟩) hg (by decide) hs1 hpl
theorem es_lcX {tg elt an : Expr} {scope : Scope} {i : Nat} {x : Str} {p3 : Pos} (hc : X.calm = true) (hN : X.N.Nodup) (T : Top X.mg) (ok : BlkOk X.N X.env.scope scope [(x, i)]) (hn : ES S C X an ρ (IntP Pn)) (hb : ∀ n, Pn n → 0 ≤ n ∧ n ≤ 1000) (hg : PGB X scope tg (gName i))
    (he : ∀ (k : Nat) (s : Shared) (H : Hp) (C' : Addr) (cl : List (Str × Addr)) (fp : List Addr), ES S C (X.blk s H scope (compEnvC scope cl C' X.env) fp) elt ((wipeE ρ [i]).set i (some (.int (k : Int)))) P) (hgr : Gl X "range" := by rfl) (hs : starEach [an] X.env = [(false, eval an X.env)] := by rfl) (hs2 : starEach [an] X.env = (false, eval an X.env) :: starEach [] X.env := by rfl)
    (hf : ∀ x, foldedSetIterable (.Call (.Name "range" p3) [an] [] p2) X.env x = pure x := by intro _; rfl) : ES S C X (.ListComp elt [⟨tg, .Call (.Name "range" p3) [an] [] p2, [], 0⟩] scope pos) ρ (fun d => ∃ n ds, Pn n ∧ d = .list ds ∧ ds.length = n.toNat ∧ ∀ x ∈ ds, P x) :=
  es_of (pe_lc hc hN (pi_range1 hgr T.range (pa_cons (pe_self X an) pa_nil hs2) hs) ok hg (fun _ _ _ _ _ => pts_nil) (pe_teB (e := elt)) hf) (es_lc hn hb (fun k σ Hc H s R a Q q s' H' C' cl fp => he k s' H' C' cl fp σ Hc H s R a Q q))
/-! statements -/
theorem ss_set (i : Nat) {x : Str} {p1 : Pos} {Pe : PyData → Prop} (hN : X.N.Nodup) (he : ES S C X e ρ Pe) (k : ∀ d, Pe d → SrS S C X rest (ρ.set i (some d)) P) (hi : X.N[i]? = some x := by rfl) (hx : Loc X.env.scope x := by first | exact Or.inl rfl | exact Or.inr rfl) (hs : swapsWith e (some (.Name x p1)) pos.line X.env = pure false := by rfl)
    (hf : X.fn x = true ∨ X.env.scope.names.lookup x = some .local := by first | exact .inl rfl | exact .inr rfl) : SrS S C X (.Assign [.Name x p1] e pos :: rest) ρ P := fun D σ Hc H s R a w pins sh I =>
  (pss_cons (ps_set hN hi hx (pe_self X e) hs hf) (pss_self X rest)).run pins sh σ H D I (he σ Hc H s R a _ fun v d Hc1 H1 s1 a1 p1 d1 => k d p1 D _ Hc1 H1 s1.sub ((R.mono s1.cc).set d1 i) a1 fun v d Hc2 H2 s2 a2 p2 d2 => w v d Hc2 H2 (s1.trans s2) a2 p2 d2)
theorem ss_par {i j : Nat} {x y : Str} {px py pt : Pos} {kt k2 : Nat} {pt2 : Pos} {Pe Pg : PyData → Prop} (hc : X.calm = true) (hN : X.N.Nodup) (hi : X.N[i]? = some x) (hj : X.N[j]? = some y) (hij : i ≠ j) (h1 : ES S C X a ρ Pe) (h2 : ES S C X b ρ Pg) (k : ∀ d e, Pe d → Pg e → SrS S C X rest ((ρ.set i (some d)).set j (some e)) P)
    (hx : X.env.scope.names.lookup x = some .local := by rfl) (hy : X.env.scope.names.lookup y = some .local := by rfl) (n1 : starEach [a, b] X.env = (false, eval a X.env) :: starEach [b] X.env := by rfl) (n2 : starEach [b] X.env = (false, eval b X.env) :: starEach [] X.env := by rfl)
    (hw : swappedStores [.Tuple [.Name x px, .Name y py] kt pt] (.Tuple [a, b] k2 pt2) X.env = pure (some [x, y]) := by rfl) (hs : swapsWithSole [.Tuple [.Name x px, .Name y py] kt pt] (.Tuple [a, b] k2 pt2) pos.line X.env = pure false := by rfl) :
    SrS S C X (.Assign [.Tuple [.Name x px, .Name y py] kt pt] (.Tuple [a, b] k2 pt2) pos :: rest) ρ P := fun D σ Hc H s R at' w pins sh I => by
  obtain ⟨_, q1, q2⟩ := eas_cons h1 (eas_cons h2 eas_nil n2) n1
  refine (pss_cons (ps_par hc hN hi hj hij hx hy q1 hw hs) (pss_self X rest)).run pins sh σ H D I (q2 σ Hc H s R at' _ fun vs ds Hc1 H1 s1 a1 p1 d1 => ?_)
  obtain ⟨d, _, rfl, pd, e, _, rfl, pe, rfl⟩ := p1
  cases d1 with
  | cons g1 t =>
    cases t with
    | cons g2 t =>
      cases t
      exact ⟨_, _, rfl, k d e pd pe D _ Hc1 H1 s1.sub (((R.mono s1.cc).set g1 i).set g2 j) a1 fun v d Hc2 H2 s2 a2 p2 d2 => w v d Hc2 H2 (s1.trans s2) a2 p2 d2⟩
theorem ss_ret (he : ES S C X e ρ P) : SrS S C X (.Return (some e) pos :: rest) ρ P := fun D σ Hc H s R a w pins sh I => (pss_cons (ps_ret (pe_self X e)) (pss_self X rest)).run pins sh σ H D I (he σ Hc H s R a _ w)
theorem ss_d1 {st : Stmt} {ρ1 : En} (h : D1 X st ρ (.nx ρ1)) (t : SrS S C X rest ρ1 P) : SrS S C X (st :: rest) ρ P := fun D σ Hc H s R a w pins sh I => (pss_cons (ps_self X st) (pss_self X rest)).run pins sh σ H D I
  (h { D with nx := tsOf X rest D } σ Hc H s R fun σ' Hc1 H1 s1 R1 => t D σ' Hc1 H1 s1.sub R1 (a.step s1) fun v d Hc2 H2 s2 a2 p2 d2 => w v d Hc2 H2 (s1.p.trans s2) a2 p2 d2)
theorem ss_ds (h : DS X rest ρ (.rt d)) (hp : P d) : SrS S C X rest ρ P := fun D σ Hc H s R a w => h D σ Hc H s R fun v Hc1 H1 s1 d1 => w v d Hc1 H1 s1.p (a.step s1) hp d1
end
end PH

set_option Elab.async false
set_option linter.all false
set_option maxRecDepth 100000
set_option maxHeartbeats 1000000
namespace PH
open PySem PySem.Spec PyProof.Rows L2
section
variable {P : Program} {w : World} {K : PySem.W.Frag} {mg : Str → Option Value} {base : Heap}
theorem kn_pick (T : Top mg) (F : Fd K mg "_law_pick" (topS 59) ["_law_source", "_law_most"]) : KnS P w K mg base "_law_pick" 1 R_pick := by
  obtain ⟨f, fd, h, hm, hk, hb⟩ := fn_pick (P := P) (w := w) (base := base) T F
  refine ⟨f, fd, _, h.imp ?_, hm, hk, hb⟩
  rintro vs H Q E ⟨S, C, us, Hc, ds, Pf, rfl, sm, a, da, ⟨k, rfl, h1, h2, h3⟩, q⟩
  cases da with
  | cons x t =>
    cases t
    cases x
    obtain ⟨z, hz⟩ := a.ex
    exact ⟨S, C, z, k, rfl, hz, h1, h2, fun r z' a1 a2 => q _ _ Hc _ (put_step sm a).1 (put_step sm a).2 (h3 r a1 a2) (.int r)⟩
theorem kn_srs {x : Str} {st : Stmt} {N ps : List Str} {k : Nat} {R : List PyData → (PyData → Prop) → Prop} (F : Fd K mg x st ps) (Sc : FnScope N ps (defScope st)) (len : ∀ ds Pf, R ds Pf → ds.length + 1 = ps.length)
    (body : ∀ (f : Addr) (cdv : Value) (A : Around) (outer : List Env) (s : Shared) (H : Hp) (E : XK), Room k (cxD P w K mg base N x st f cdv A outer s H E).A → ∀ S C ds Pf, R ds Pf → SrS S C (cxD P w K mg base N x st f cdv A outer s H E) (defBody st) (startE N (oq S :: ds)) Pf) : KnS P w K mg base x (k + 1) R := by
  obtain ⟨f, fd, F1, hm, hb⟩ := F.ex
  refine ⟨f, fd, ps, F1.ok Sc (fun vs H Q E h => ?_) (fun cdv A outer s H vs Q E hr h => ?_), hm, F1.kp, hb⟩
  · obtain ⟨S, C, us, Hc, ds, Pf, rfl, sm, a, da, hR, _⟩ := h
    rw [List.length_cons, da.length]
    exact len ds Pf hR
  · obtain ⟨S, C, us, Hc, ds, Pf, rfl, sm, a, da, hR, q⟩ := h
    exact ⟨_, pss_self _ _, body f cdv A outer s H E hr S C ds Pf hR _ (L2.start N (.ref S :: us)) Hc H sm (rep_start (.cons (.opq S) da)) a q⟩
/-! ### the draws -/
def Pool (p : Pl) : Prop := ∃ x y e : Int, (e = 1 ∨ e = 2 ∨ e = 3) ∧ 0 ≤ x ∧ x ≤ 3 * e ∧ 0 ≤ y ∧ y ≤ 3 * e ∧ p = mkPl x y e
theorem Pool.ok {p : Pl} (h : Pool p) : PlOk 4 p := by
  obtain ⟨x, y, e, he, h1, h2, h3, h4, rfl⟩ := h
  exact mkPl_ok (by omega) (by show x.natAbs < 16; omega) (by show y.natAbs < 16; omega) (by show e.natAbs < 16; omega)
def R_dplace (ds : List PyData) (Pf : PyData → Prop) : Prop := ds = [.int 3] ∧ ∀ p, Pool p → Pf (plD p)
theorem sc_dplace : FnScope ["_law_source", "_law_wide", "_law_d"] ["_law_source", "_law_wide"] (defScope (topS 73)) := ⟨rfl, rfl, rfl, by decide +kernel, rfl, by decide +kernel, by decide +kernel⟩
theorem kn_dplace (F : Fd K mg "_law_draw_place" (topS 73) ["_law_source", "_law_wide"]) (G : KnS P w K mg base "_law_pick" 1 R_pick) (G2 : Kn P w K mg base "_law_place" 2 R_place) : KnS P w K mg base "_law_draw_place" 3 R_dplace := by
  refine kn_srs F sc_dplace (by rintro ds Pf ⟨rfl, _⟩; rfl) fun f cdv A outer s H E hr S C ds Pf => ?_
  rintro ⟨rfl, hP⟩
  refine ss_set 2 sc_dplace.nd (es_ixL (P := fun d => ∃ e : Int, (e = 1 ∨ e = 2 ∨ e = 3) ∧ d = .int e) (ds := [.int 1, .int 1, .int 2, .int 1, .int 3]) (d_lst (da_cons d_int (da_cons d_int (da_cons d_int (da_cons d_int (da_cons d_int da_nil)))))) (es_pick G (hr.mono (by decide)) (d_v 0) d_int (by decide) (by decide)) (fun j hj => ?_)) ?_
  · obtain ⟨h0, h1⟩ := hj
    have : j = 0 ∨ j = 1 ∨ j = 2 ∨ j = 3 ∨ j = 4 := by omega
    rcases this with rfl | rfl | rfl | rfl | rfl
    · exact ⟨_, rfl, 1, .inl rfl, rfl⟩
    · exact ⟨_, rfl, 1, .inl rfl, rfl⟩
    · exact ⟨_, rfl, 2, .inr (.inl rfl), rfl⟩
    · exact ⟨_, rfl, 1, .inl rfl, rfl⟩
    · exact ⟨_, rfl, 3, .inr (.inr rfl), rfl⟩
  rintro _ ⟨e, he, rfl⟩
  have ce : CMulW 3 e := cm (m := 2) (n := 2) (by decide) (by show e.natAbs < 4; omega) (by decide)
  refine ss_ret (es_callX G2 hr (eas_cons (es_pick G (hr.mono (by decide)) (d_v 0) (d_add (d_mul ce (d_v 1) (d_v 2)) d_int) (by omega) (by omega)) (eas_cons (es_pick G (hr.mono (by decide)) (d_v 0) (d_add (d_mul ce (d_v 1) (d_v 2)) d_int) (by omega) (by omega)) (eas_cons (P := (· = .int e)) (es_d (d_v 2) rfl) eas_nil))) ?_)
  rintro _ ⟨_, _, rfl, ⟨x, rfl, x1, x2⟩, _, _, rfl, ⟨y, rfl, y1, y2⟩, _, _, rfl, rfl, rfl⟩
  exact ⟨plD (mkPl x y e), hP _ ⟨x, y, e, he, x1, by omega, y1, by omega, rfl⟩, x, y, e, rfl, by omega, Sm.mono (m := 2) (by show e.natAbs < 4; omega) (by decide), rfl⟩
theorem unmap {Q : Pl → Prop} : ∀ ds : List PyData, (∀ x ∈ ds, ∃ p, x = plD p ∧ Q p) → ∃ ps : List Pl, ds = ps.map plD ∧ ∀ p ∈ ps, Q p
  | [], _ => ⟨[], rfl, fun _ h => nomatch h⟩
  | d :: ds, h => by
    obtain ⟨p, rfl, hp⟩ := h d List.mem_cons_self
    obtain ⟨ps, rfl, hq⟩ := unmap ds fun x hx => h x (List.mem_cons_of_mem _ hx)
    exact ⟨p :: ps, rfl, fun q hq' => (List.mem_cons.mp hq').elim (fun e => e ▸ hp) (hq q)⟩
def R_dpool (ds : List PyData) (Pf : PyData → Prop) : Prop := ds = [.int 4, .int 3] ∧ ∀ ps : List Pl, ps.length = 4 → (∀ p ∈ ps, Pool p) → Pf (.list (ps.map plD))
theorem sc_dpool : FnScope ["_law_source", "_law_many", "_law_wide", "_law_lap"] ["_law_source", "_law_many", "_law_wide"] (defScope (topS 74)) := ⟨rfl, rfl, rfl, by decide +kernel, rfl, by decide +kernel, by decide +kernel⟩
theorem kn_dpool (T : Top mg) (F : Fd K mg "_law_draw_pool" (topS 74) ["_law_source", "_law_many", "_law_wide"]) (G : KnS P w K mg base "_law_draw_place" 3 R_dplace) : KnS P w K mg base "_law_draw_pool" 4 R_dpool := by
  refine kn_srs F sc_dpool (by rintro ds Pf ⟨rfl, _⟩; rfl) fun f cdv A outer s H E hr S C ds Pf => ?_
  rintro ⟨rfl, hP⟩
  refine ss_ret (EvS.imp (es_lcX (Pn := (· = 4)) (P := fun x => ∃ p, x = plD p ∧ Pool p) (i := 3) (x := "_law_lap") rfl sc_dpool.nd T (bk (by decide +kernel)) (es_i (d_v 1)) (fun n e => by omega) (fun _ _ _ _ _ => pg_name (i := 3) sc_dpool.nd rfl (Or.inl rfl)) (fun k _ _ _ _ _ => es_callSX G hr (eas_cons (P := (· = oq S)) (es_d (d_v 0) rfl) (eas_cons (P := (· = .int 3)) (es_d (d_v 2) rfl) eas_nil)) ?_)) ?_)
  · rintro _ ⟨_, _, rfl, rfl, _, _, rfl, rfl, rfl⟩
    exact ⟨_, rfl, rfl, fun p hp => ⟨p, rfl, hp⟩⟩
  · rintro _ ⟨n, ds, rfl, rfl, hl, h⟩
    obtain ⟨ps, rfl, hq⟩ := unmap ds h
    exact hP ps (by simpa using hl) hq
def R_dplate (ds : List PyData) (Pf : PyData → Prop) : Prop := ∃ pool : List Pl, ds = [.list (pool.map plD)] ∧ pool.length = 4 ∧ (∀ p ∈ pool, Pool p) ∧ ∀ qs : List Pl, qs ≠ [] → qs.length ≤ 4 → (∀ q ∈ qs, q ∈ pool) → Pf (pgD (hullL qs))
theorem sc_dplate : FnScope ["_law_source", "_law_pool", "_law_lap"] ["_law_source", "_law_pool"] (defScope (topS 75)) := ⟨rfl, rfl, rfl, by decide +kernel, rfl, by decide +kernel, by decide +kernel⟩
theorem kn_dplate (T : Top mg) (F : Fd K mg "_law_draw_plate" (topS 75) ["_law_source", "_law_pool"]) (G : KnS P w K mg base "_law_pick" 1 R_pick) (G2 : Kn P w K mg base "_law_hull" 4 R_lhull) : KnS P w K mg base "_law_draw_plate" 5 R_dplate := by
  refine kn_srs F sc_dplate (by rintro ds Pf ⟨a, rfl, _⟩; rfl) fun f cdv A outer s H E hr S C ds Pf => ?_
  rintro ⟨pool, rfl, hl, hp, hP⟩
  refine ss_ret (es_callX G2 hr (eas_cons (P := fun d => ∃ qs : List Pl, d = .list (qs.map plD) ∧ qs ≠ [] ∧ qs.length ≤ 4 ∧ ∀ q ∈ qs, q ∈ pool) (EvS.imp (es_lcX (Pn := fun n => 1 ≤ n ∧ n ≤ 4) (P := fun x => ∃ p, x = plD p ∧ p ∈ pool) (i := 2) (x := "_law_lap") rfl sc_dplate.nd T (bk (by decide +kernel))
      (es_add (es_i d_int) (es_pick G (hr.mono (by decide)) (d_v 0) d_int (by decide) (by decide)) (by rintro i j rfl ⟨h1, h2⟩; exact ⟨_, rfl, by omega, by omega⟩)) (fun n e => by omega) (fun _ _ _ _ _ => pg_name (i := 2) sc_dplate.nd rfl (Or.inl rfl))
      (fun k _ _ _ _ _ => es_ixL (ds := pool.map plD) (d_v 1) (es_pick G (hr.mono (by decide)) (d_v 0) (DE.is (d_lenL (ds := pool.map plD) T (d_v 1)) (by rw [List.length_map, hl])) (k := ((4 : Nat) : Int)) (by decide) (by decide)) ?_)) ?_) eas_nil) ?_)
  · rintro j ⟨h1, h2⟩
    obtain ⟨i, rfl⟩ : ∃ i : Nat, j = i := ⟨j.toNat, by omega⟩
    have hi : i < pool.length := by omega
    exact ⟨_, at_cur hi, _, rfl, cur_mem hi⟩
  · rintro _ ⟨n, ds, hn, rfl, hl, h⟩
    obtain ⟨qs, rfl, hq⟩ := unmap ds h
    rw [List.length_map] at hl
    exact ⟨qs, rfl, fun e => by rw [e] at hl; simp at hl; omega, by omega, hq⟩
  · rintro _ ⟨_, _, rfl, ⟨qs, rfl, h1, h2, h3⟩, rfl⟩
    exact ⟨_, hP qs h1 h2 h3, qs, 4, rfl, by omega, by decide, fun q hq => (hp q (h3 q hq)).ok, rfl⟩
end
end PH

set_option Elab.async false
set_option linter.all false
set_option maxRecDepth 100000
set_option maxHeartbeats 4000000
namespace PH
open PySem PySem.Spec PyProof.Rows L2
/-- what is to be known of two plates, a direction and a half plane -/
structure LawF (one other : List Pl) (u : Pr) (h : Pl) : Prop where
  t1 : Told 4 one
  t2 : Told 4 other
  l1 : one.length ≤ 4
  l2 : other.length ≤ 4
  tp : Told 9 (putP one other)
  tm : Told 5 (mirrorP one)
  c1 : (cutL one h).length ≤ 64
  tc : ∀ Q, cutP one h = some Q → Told 400 Q
  cm : CutsOk (3 * 4 + 2) 400 one (bordersP other)
  tmt : ∀ Q, meetP one other = some Q → Told 400 Q
  c2 : (cutL (putP one other) h).length ≤ 64
  tc2 : ∀ Q, cutP (putP one other) h = some Q → Told 400 Q
  gne : greatL h ≠ []
  gnd : (greatL h).Nodup
  gok : AllOk 40 (greatL h)
  glen : (greatL h).length ≤ 1000
  gc : CutsOk (3 * 40 + 2) 400 one (bordersP (greatL h))
  great : cutP one h = meetP one (greatL h)
  met : isMet one h = (cutP one h).isSome
  led : ∀ r, RuOk r → ledP r (putP one other) = putP (ledP r one) (ledP r other)
  ledm : ∀ r, RuOk r → ledP r (mirrorP one) = mirrorP (ledP r one)
  le1 : ∀ r, RuOk r → ledP r one ≠ []
  le2 : ∀ r, RuOk r → ledP r other ≠ []
  led1 : ∀ r, RuOk r → (ledP r one).length ≤ 8
  led2 : ∀ r, RuOk r → (ledP r other).length ≤ 8
  v : ∀ v : Pr, v = u ∨ v = (0 - u.1, 0 - u.2) ∨ v = (1, 0) → (∀ p ∈ farthestP one v, height v p = topP one v) ∧ topP (mirrorP one) v = (0 - (bottomP one v).1, (bottomP one v).2) ∧ (farthestP (putP one other) v).length = max (farthestP one v).length (farthestP other v).length
theorem led_zero {r : Ru} (h : RuOk r) : ledPl r (0, 0, 1) = (0, 0, 1) := by
  have := h.pos
  have hn : 0 < r.n := this
  show mkPl (0 * 0 + r.b * 0 + 0 * 1) (1 * 0 + r.d * 0 + 0 * 1) (r.n * 1) = _
  simp only [Int.mul_zero, Int.zero_mul, Int.add_zero, Int.mul_one, Int.zero_add]
  have g : sg r.n (gcd3 0 0 r.n) = r.n := by
    unfold sg gcd3
    rw [if_pos hn]
    simp
    omega
  unfold mkPl
  rw [g, Int.fdiv_self (by omega)]
  simp
theorem led_e1 {r : Ru} : ledPl r (1, 0, 1) = mkPl 0 1 r.n := by
  show mkPl (0 * 1 + r.b * 0 + 0 * 1) (1 * 1 + r.d * 0 + 0 * 1) (r.n * 1) = _
  simp
theorem led_e2 {r : Ru} : ledPl r (0, 1, 1) = mkPl r.b r.d r.n := by
  show mkPl (0 * 0 + r.b * 1 + 0 * 1) (1 * 0 + r.d * 1 + 0 * 1) (r.n * 1) = _
  simp
theorem told_ok {n m : Nat} {ps : List Pl} (t : Told n ps) (h : n ≤ m) : AllOk m ps := t.ok.mono h
theorem ss_asg {S C : Addr} {X : Cx} {ρ : En} {e tg : Expr} {rest : List Stmt} {pos : Pos} {P Pe : PyData → Prop} {g : TG} {vs : List Nat} (he : ES S C X e ρ Pe) (hg : PG X tg g) (k : ∀ d, Pe d → ∃ ρ1, Bd g ρ d ρ1 vs ∧ SrS S C X rest ρ1 P) (hs : swapsWithSole [tg] e pos.line X.env = pure false := by rfl) (hw : swappedStores [tg] e X.env = pure none := by rfl) (hT : (assignEach [tg] X.env).map (·.2) = [assign tg X.env] := by rfl) : SrS S C X (.Assign [tg] e pos :: rest) ρ P := fun D σ Hc H s R a w pins sh I =>
  (pss_cons (ps_asg (pe_self X e) hg hs hw hT) (pss_self X rest)).run pins sh σ H D I (he σ Hc H s R a _ fun v d Hc1 H1 s1 a1 p1 d1 => by
    obtain ⟨ρ1, hb, t⟩ := k d p1
    exact hb v σ Hc1 H1 s1.sub (R.mono s1.cc) d1 _ fun σ' R' _ => t D σ' Hc1 H1 s1.sub R' a1 fun v d Hc2 H2 s2 a2 p2 d2 => w v d Hc2 H2 (s1.trans s2) a2 p2 d2)
theorem d_told {X : Cx} {ρ : En} {a b : Expr} {o : Option (List Pl)} {p p2 p3 p3' p4 : Pos} {k : Nat} (h1 : DE X a ρ (optD o)) (h2 : DE X b ρ (optD o)) (hs : starEach [b] X.env = (false, eval b X.env) :: starEach [] X.env := by rfl) : DE X (.IfExp (.Compare a [.IsNot] [.Constant .none k p] p2) (.List [b] p3) (.List [] p3') p4) ρ (.list (o.toList.map pgD)) :=
  d_if (k := o.isSome) ((t_notN h1).is (by rw [isNone_opt]; cases o <;> rfl)) (fun e => by
    cases o with
    | none => cases e
    | some q => exact d_lst (da_cons h2 da_nil hs)) (fun e => by
    cases o with
    | none => exact d_lst da_nil
    | some q => cases e)
theorem d_addT {X : Cx} {ρ : En} {a b : Expr} {pos : Pos} {M : List (List Pl)} {o : Option (List Pl)} (h1 : DE X a ρ (.list (M.map pgD))) (h2 : DE X b ρ (.list (o.toList.map pgD))) (hl : M.length ≤ 1000) : DE X (.BinOp a .Add b pos) ρ (.list ((M ++ o.toList).map pgD)) := by
  rw [List.map_append]
  refine d_cat h1 h2 ?_
  rw [List.length_map, List.length_map]
  cases o <;> simp <;> omega
theorem law_for {X : Cx} {body : List Stmt} {a0 a1 a2 a3 a4 a5 a6 a7 a8 a9 a10 : Option PyData} {fF fL : Pr → PyData} {Pv : Pr → Prop} (step : ∀ (v : Pr) (y z : Option PyData), Pv v → DS X body [a0, a1, a2, a3, a4, a5, a6, a7, a8, a9, a10, some (prD v), y, z, none, none] (.nx [a0, a1, a2, a3, a4, a5, a6, a7, a8, a9, a10, some (prD v), some (fF v), some (fL v), none, none])) :
    ∀ (vs : List Pr) (x y z : Option PyData), (∀ v ∈ vs, Pv v) → ForR (fun v ρ ρ1 => Bd (gName 11) ρ (prD v) ρ1 [11]) (DS X body) vs [a0, a1, a2, a3, a4, a5, a6, a7, a8, a9, a10, x, y, z, none, none] (.nx [a0, a1, a2, a3, a4, a5, a6, a7, a8, a9, a10, lzG prD x vs, lzG fF y vs, lzG fL z vs, none, none])
  | [], _, _, _, _ => .nil
  | v :: vs, _, y, z, h => .next (bd_name (by decide)) (step v y z (h v List.mem_cons_self)) (law_for step vs _ _ _ fun w hw => h w (List.mem_cons_of_mem _ hw))
theorem hullP_ne {ps : List Pl} (h : ps ≠ []) (h1 : hullP ps ≠ []) : hullP ps ≠ [] := h1
theorem far_sub {ps : List Pl} {u : Pr} {p : Pl} (h : p ∈ farthestP ps u) : p ∈ ps := by
  unfold farthestP at h
  split at h
  · next s hs =>
    have hm := List.mem_of_find?_eq_some hs
    obtain ⟨e, he, rfl⟩ := List.mem_map.mp hm
    rcases List.mem_cons.mp h with rfl | h
    · exact (nbrs_mem he).1
    · rw [List.mem_singleton.mp h]; exact (nbrs_mem he).2.1
  · exact (List.mem_filter.mp h).1
theorem rep_none {H : Hp} {σ : L2.St} {n : Nat} (h : σ.length = n) : Rep H σ (List.replicate n none) := ⟨by rw [List.length_replicate]; exact h, fun i d e => by
  rw [List.getElem?_replicate] at e
  split at e <;> cases e⟩
def keep : List (Option (List Pl)) → List (List Pl) := fun os => os.filterMap id
abbrev NL : List Str := ["_law_script", "_law_source", "_law_pool", "_law_one", "_law_other", "_law_u", "_law_half_here", "_law_some", "_law_told", "_law_turn_here", "_law_due", "_law_v", "_law_far", "_law_low", "_law_plate", "_law_p"]
section
variable {P : Program} {w : World} {K : PySem.W.Frag} {mg : Str → Option Value} {base : Heap}
structure LibS (P : Program) (w : World) (K : PySem.W.Frag) (mg : Str → Option Value) (base : Heap) : Prop where
  lib : Lib P w K mg base
  pick : KnS P w K mg base "_law_pick" 1 R_pick
  dpool : KnS P w K mg base "_law_draw_pool" 4 R_dpool
  dplate : KnS P w K mg base "_law_draw_plate" 5 R_dplate
  ldir : Kn P w K mg base "_law_direction" 2 R_direction
  great : Kn P w K mg base "_law_great" 5 R_great
  told : Kn P w K mg base "_law_told_right" 9 R_told
  lplace : Kn P w K mg base "_law_place" 2 R_place
def spLaw (K : PySem.W.Frag) : Sp := fun vs H Q _ => ∃ (a : Addr) (ns : List Int), vs = [.ref a] ∧ SqL K H a (ns.map V.int) ∧ ns.length ≤ 90000 ∧ ∀ H', Q (.bl true) H'
theorem sc_law : FnScope ["_law_script", "_law_source", "_law_pool", "_law_one", "_law_other", "_law_u", "_law_half_here", "_law_some", "_law_told", "_law_turn_here", "_law_due", "_law_v", "_law_far", "_law_low", "_law_plate", "_law_p"] ["_law_script"] (defScope (topS 79)) := ⟨rfl, rfl, rfl, by decide +kernel, rfl, by decide +kernel, by decide +kernel⟩
theorem law_end (L : LibS P w K mg base) {f : Addr} {cdv : Value} {A : Around} {outer : List Env} {s : Shared} {H : Hp} {E : XK} (hr : Room 9 (cxD P w K mg base NL "law" (topS 79) f cdv A outer s H E).A) {one other : List Pl} {u : Pr} {h : Pl} (fa : LawF one other u h) (hu : DirOk 2 u) {a0 a1 a2 a6 a7 a8 a9 a10 : Option PyData} :
    DS (cxD P w K mg base NL "law" (topS 79) f cdv A outer s H E) ((defBody (topS 79)).drop 15) [a0, a1, a2, some (pgD one), some (pgD other), some (prD u), a6, a7, a8, a9, a10, none, none, none, none, none] (.rt (.bool true)) := by
  have hu3 := units64 hr
  have o1 := fa.t1
  have o2 := fa.t2
  have T := L.lib.top'
  have ml : one.length * other.length ≤ 64 := Nat.le_trans (Nat.mul_le_mul fa.l1 fa.l2) (by decide)
  have rput : R_put [pgD one, pgD other] (pgD (putP one other)) := ⟨one, other, 4, rfl, o1.ne, o2.ne, ml, by decide, o1.ok, o2.ok, rfl⟩
  have hv : ∀ v ∈ [u, (0 - u.1, 0 - u.2), (1, 0)], DirOk 2 v := fun v hv => by
    simp only [List.mem_cons, List.not_mem_nil, or_false] at hv
    rcases hv with rfl | rfl | rfl
    · exact hu
    · have := back_ok hu
      unfold back at this
      rwa [← Int.zero_sub, ← Int.zero_sub] at this
    · exact ⟨by decide, by decide, by decide⟩
  have hv2 : ∀ v ∈ [u, (0 - u.1, 0 - u.2), (1, 0)], v = u ∨ v = (0 - u.1, 0 - u.2) ∨ v = (1, 0) := fun v hv => by
    simpa only [List.mem_cons, List.not_mem_nil, or_false] using hv
  refine ds_cons (s_for (xs := [u, (0 - u.1, 0 - u.2), (1, 0)]) (enc := prD) (vs := [11]) rfl (di_tup (d_tup (da_cons (d_v 5) (da_cons (d_tup (da_cons (d_sub d_int (d_ixT rfl (d_v 5) d_int)) (da_cons (d_sub d_int (d_ixT rfl (d_v 5) d_int)) da_nil))) (da_cons (d_tup (da_cons d_int (da_cons d_int da_nil))) da_nil))))) (pg_name (i := 11) sc_law.nd rfl (.inr rfl))
    (law_for (Pv := fun v => v ∈ [u, (0 - u.1, 0 - u.2), (1, 0)]) (fF := fun v => .list ((farthestP one v).map plD)) (fL := fun v => prD (bottomP one v)) (fun v y z hm => ?_) [u, (0 - u.1, 0 - u.2), (1, 0)] none none none (fun _ h => h))) (ds_rt (s_ret d_bl))
  have d := hv v hm
  obtain ⟨g1, g2, g3⟩ := fa.v v (hv2 v hm)
  have l1 := fa.l1
  have l2 := fa.l2
  have lp := fa.tp.len
  have rf : ∀ (ps : List Pl) (n : Nat), ps ≠ [] → ps.length ≤ 1000 → n ≤ 4400 → AllOk n ps → R_farthest [pgD ps, prD v] (.list ((farthestP ps v).map plD)) := fun ps n a b c e => ⟨ps, v, 2, n, rfl, a, b, by decide, c, e, d, rfl⟩
  have rt : ∀ (ps : List Pl) (n : Nat), ps ≠ [] → n ≤ 4400 → AllOk n ps → R_top topP [pgD ps, prD v] (prD (topP ps v)) := fun ps n a c e => ⟨ps, v, 2, n, rfl, a, by decide, by omega, e, d, rfl⟩
  have fl : (farthestP one v).length ≤ 90000 := by
    unfold farthestP
    split
    · simp
    · have := List.length_filter_le (fun p => decide (height v p = topP one v)) one
      omega
  have e0 : (farthestP one v).filter (fun p => !decide (height v p = topP one v)) = [] := List.filter_eq_nil_iff.mpr fun p hp => by rw [g1 p hp]; simp
  refine ds_cons (s_par rfl sc_law.nd (i := 12) (j := 13) rfl rfl (by decide) (d_call L.lib.farthest (hr.mono (by decide)) (da_cons (d_v 3) (da_cons (d_v 11) da_nil)) (rf one 4 o1.ne (by omega) (by decide) o1.ok)) (d_call L.lib.bottom (hr.mono (by decide)) (da_cons (d_v 3) (da_cons (d_v 11) da_nil)) ⟨one, v, 2, 4, rfl, o1.ne, by decide, by decide, o1.ok, d, rfl⟩)) ?_
  refine ds_cons (s_skip (DT.is (t_or (k := false) (l := false) (DT.is (t_neD hu3 (x := .list (((farthestP one v).filter (fun p => !decide (height v p = topP one v))).map plD)) (y := .list []) (sh_pls _) (sh_pls []) (d_lcf (own := [("_law_p", 15)]) (g := gName 15) (xs := farthestP one v) (enc := plD) (f := plD) (t := fun p => !decide (height v p = topP one v)) rfl sc_law.nd (bk (by decide +kernel)) (di_list (d_v 12)) (fun _ _ _ _ _ => pg_name (i := 15) sc_law.nd rfl (Or.inl rfl)) (fun _ _ => bd_name (by decide))
        (fun p hp _ _ _ _ _ => DT.is (t_neD hu3 (sh_pr (height v p)) (sh_pr (topP one v)) (d_call L.lib.lheight (hr.mono (by decide)) (da_cons (d_v 11) (da_cons (d_v 15) da_nil)) ⟨v, p, 2, 4, rfl, by decide, by decide, d, o1.ok p (far_sub hp), rfl⟩) (d_call L.lib.top (hr.mono (by decide)) (da_cons (d_v 3) (da_cons (d_v 11) da_nil)) (rt one 4 o1.ne (by decide) o1.ok))) (by rw [eqv_pr])) (fun p _ _ _ _ _ _ _ => d_v 15) (by omega)) (d_lst da_nil)) (by rw [e0]; rfl))
      fun _ => DT.is (t_neD hu3 (sh_pr (topP (mirrorP one) v)) (sh_pr (0 - (bottomP one v).1, (bottomP one v).2)) (d_call L.lib.top (hr.mono (by decide)) (da_cons (d_call L.lib.mirror (hr.mono (by decide)) (da_cons (d_v 3) da_nil) ⟨one, 4, rfl, o1.ne, by omega, by decide, o1.ok, rfl⟩) (da_cons (d_v 11) da_nil)) (rt _ 5 fa.tm.ne (by decide) fa.tm.ok)) (d_tup (da_cons (d_sub d_int (d_ixT (d := .int (bottomP one v).1) rfl (d_v 13) d_int)) (da_cons (d_ixT (d := .int (bottomP one v).2) rfl (d_v 13) d_int) da_nil)))) (by rw [eqv_pr, g2]; simp)) rfl)) ?_
  refine ds_cons (s_skip (DT.is (t_neI (d_lenL T (d_call L.lib.farthest (hr.mono (by decide)) (da_cons (d_call L.lib.put (hr.mono (by decide)) (da_cons (d_v 3) (da_cons (d_v 4) da_nil)) rput) (da_cons (d_v 11) da_nil)) (rf _ 9 fa.tp.ne (by omega) (by decide) fa.tp.ok))) (d_max T rfl (d_lenL T (d_v 12)) (d_lenL T (d_call L.lib.farthest (hr.mono (by decide)) (da_cons (d_v 4) (da_cons (d_v 11) da_nil)) (rf _ 4 o2.ne (by omega) (by decide) o2.ok))))) (by rw [List.length_map, List.length_map, List.length_map, g3]; simp; omega))) ds_nil
theorem law_tail (L : LibS P w K mg base) {f : Addr} {cdv : Value} {A : Around} {outer : List Env} {s : Shared} {H : Hp} {E : XK} (hr : Room 9 (cxD P w K mg base NL "law" (topS 79) f cdv A outer s H E).A) {one other : List Pl} {u : Pr} {h : Pl} (fa : LawF one other u h) (hu : DirOk 2 u) {r : Ru} (hru : RuOk r) {a0 a1 a2 a6 a7 a8 : Option PyData} :
    DS (cxD P w K mg base NL "law" (topS 79) f cdv A outer s H E) ((defBody (topS 79)).drop 10) [a0, a1, a2, some (pgD one), some (pgD other), some (prD u), a6, a7, a8, some (ruD r), none, none, none, none, none, none] (.rt (.bool true)) := by
  have hu3 := units64 hr
  have o1 := fa.t1
  have o2 := fa.t2
  have T := L.lib.top'
  have ml : one.length * other.length ≤ 64 := Nat.le_trans (Nat.mul_le_mul fa.l1 fa.l2) (by decide)
  have rput : R_put [pgD one, pgD other] (pgD (putP one other)) := ⟨one, other, 4, rfl, o1.ne, o2.ne, ml, by decide, o1.ok, o2.ok, rfl⟩
  have l1 := fa.l1
  have l2 := fa.l2
  have rled : ∀ (ps : List Pl) (n : Nat), ps ≠ [] → ps.length ≤ 64 → n ≤ 4000 → AllOk n ps → R_led [pgD ps, ruD r] (pgD (ledP r ps)) := fun ps n a b c d => ⟨ps, r, n, rfl, a, b, c, d, hru, rfl⟩
  have aled : ∀ (ps : List Pl) (n : Nat), AllOk n ps → AllOk (n + 8) (ledP r ps) := fun ps n h => hullP_ok fun x hx => by
    obtain ⟨p, hp, rfl⟩ := List.mem_map.mp hx
    exact ledPl_ok hru (h p hp)
  have rput2 : R_put [pgD (ledP r one), pgD (ledP r other)] (pgD (putP (ledP r one) (ledP r other))) := ⟨_, _, 12, rfl, fa.le1 r hru, fa.le2 r hru, Nat.le_trans (Nat.mul_le_mul (fa.led1 r hru) (fa.led2 r hru)) (by decide), by decide, aled _ _ o1.ok, aled _ _ o2.ok, rfl⟩
  refine ds_cons (s_skip (DT.is (t_neD hu3 (sh_pg (ledP r (putP one other))) (sh_pg (putP (ledP r one) (ledP r other))) (d_call L.lib.led (hr.mono (by decide)) (da_cons (d_call L.lib.put (hr.mono (by decide)) (da_cons (d_v 3) (da_cons (d_v 4) da_nil)) rput) (da_cons (d_v 9) da_nil)) (rled _ 9 fa.tp.ne fa.tp.len (by decide) fa.tp.ok))
      (d_call L.lib.put (hr.mono (by decide)) (da_cons (d_call L.lib.led (hr.mono (by decide)) (da_cons (d_v 3) (da_cons (d_v 9) da_nil)) (rled _ 4 o1.ne (by omega) (by decide) o1.ok)) (da_cons (d_call L.lib.led (hr.mono (by decide)) (da_cons (d_v 4) (da_cons (d_v 9) da_nil)) (rled _ 4 o2.ne (by omega) (by decide) o2.ok)) da_nil)) rput2)) (by rw [eqv_pg, fa.led r hru]; simp))) ?_
  refine ds_cons (s_skip (DT.is (t_neD hu3 (sh_pg (ledP r (mirrorP one))) (sh_pg (mirrorP (ledP r one))) (d_call L.lib.led (hr.mono (by decide)) (da_cons (d_call L.lib.mirror (hr.mono (by decide)) (da_cons (d_v 3) da_nil) ⟨one, 4, rfl, o1.ne, by omega, by decide, o1.ok, rfl⟩) (da_cons (d_v 9) da_nil)) (rled _ 5 fa.tm.ne fa.tm.len (by decide) fa.tm.ok))
      (d_call L.lib.mirror (hr.mono (by decide)) (da_cons (d_call L.lib.led (hr.mono (by decide)) (da_cons (d_v 3) (da_cons (d_v 9) da_nil)) (rled _ 4 o1.ne (by omega) (by decide) o1.ok)) da_nil) ⟨_, 12, rfl, fa.le1 r hru, Nat.le_trans (fa.led1 r hru) (by decide), by decide, aled _ _ o1.ok, rfl⟩)) (by rw [eqv_pg, fa.ledm r hru]; simp))) ?_
  have z0 : PlOk 1 (0, 0, 1) := ⟨by decide, by decide, by decide, by decide, by decide⟩
  refine ds_cons (s_skip (DT.is (t_or (k := false) (l := false) (DT.is (t_neD hu3 (sh_pl (ledPl r (0, 0, 1))) (sh_pl (0, 0, 1)) (d_call L.lib.ledPlace (hr.mono (by decide)) (da_cons (d_tup (da_cons d_int (da_cons d_int (da_cons d_int da_nil)))) (da_cons (d_v 9) da_nil)) ⟨(0, 0, 1), r, 1, rfl, by decide, z0, hru, rfl⟩) (d_tup (da_cons d_int (da_cons d_int (da_cons d_int da_nil))))) (by rw [eqv_pl, led_zero hru]; simp))
      fun _ => DT.is (t_neD hu3 (sh_pg (ledP r one)) (sh_pg (ledP r one)) (d_call L.lib.led (hr.mono (by decide)) (da_cons (DE.is (d_call L.lib.meet (hr.mono (by decide)) (da_cons (d_v 3) (da_cons (d_v 3) da_nil)) ⟨one, one, 4, 4, 4, rfl, o1.ne, by omega, by omega, by decide, by decide, o1.ne, o1.nd, o1.ok, o1.ok, by decide, o1.cut, rfl⟩) (show optD (meetP one one) = pgD one by rw [o1.meet]; rfl)) (da_cons (d_v 9) da_nil)) (rled _ 4 o1.ne (by omega) (by decide) o1.ok)) (d_call L.lib.led (hr.mono (by decide)) (da_cons (d_v 3) (da_cons (d_v 9) da_nil)) (rled _ 4 o1.ne (by omega) (by decide) o1.ok))) (by rw [eqv_pg]; simp)) rfl)) ?_
  have nn : r.n ≠ 0 := by have := hru.pos; omega
  refine ds_cons (s_set 10 sc_law.nd (d := .list ([mkPl 0 1 r.n, mkPl r.b r.d r.n].map plD)) (d_lst (da_cons (d_call L.lplace (hr.mono (by decide)) (da_cons d_int (da_cons d_int (da_cons (d_ixT (d := .int r.n) rfl (d_v 9) d_int) da_nil))) ⟨0, 1, r.n, rfl, nn, hru.n.mono (by decide), rfl⟩) (da_cons (d_call L.lplace (hr.mono (by decide)) (da_cons (d_ixT (d := .int r.b) rfl (d_v 9) d_int) (da_cons (d_ixT (d := .int r.d) rfl (d_v 9) d_int) (da_cons (d_ixT (d := .int r.n) rfl (d_v 9) d_int) da_nil))) ⟨r.b, r.d, r.n, rfl, nn, hru.n.mono (by decide), rfl⟩) da_nil)))) ?_
  have e1 : PlOk 1 (1, 0, 1) := ⟨by decide, by decide, by decide, by decide, by decide⟩
  have e2 : PlOk 1 (0, 1, 1) := ⟨by decide, by decide, by decide, by decide, by decide⟩
  have es : ∀ p ∈ [((1, 0, 1) : Pl), (0, 1, 1)], PlOk 1 p := fun p hp => by
    simp only [List.mem_cons, List.not_mem_nil, or_false] at hp
    rcases hp with rfl | rfl
    · exact e1
    · exact e2
  refine ds_cons (s_skip (DT.is (t_neD hu3 (x := .list ([((1, 0, 1) : Pl), (0, 1, 1)].map fun p => plD (ledPl r p))) (y := .list ([mkPl 0 1 r.n, mkPl r.b r.d r.n].map plD)) (sh_pls [ledPl r (1, 0, 1), ledPl r (0, 1, 1)]) (sh_pls [mkPl 0 1 r.n, mkPl r.b r.d r.n]) (d_lc (own := [("_law_p", 15)]) (g := gName 15) (xs := [((1, 0, 1) : Pl), (0, 1, 1)]) (enc := plD) (f := fun p => plD (ledPl r p)) rfl sc_law.nd (bk (by decide +kernel))
      (di_tup (d_tup (da_cons (d_tup (da_cons d_int (da_cons d_int (da_cons d_int da_nil)))) (da_cons (d_tup (da_cons d_int (da_cons d_int (da_cons d_int da_nil)))) da_nil)))) (fun _ _ _ _ _ => pg_name (i := 15) sc_law.nd rfl (Or.inl rfl)) (fun _ _ => bd_name (by decide)) (fun p hp _ _ _ _ _ => d_call L.lib.ledPlace (hr.mono (by decide)) (da_cons (d_v 15) (da_cons (d_v 9) da_nil)) ⟨p, r, 1, rfl, by decide, es p hp, hru, rfl⟩) (by decide)) (d_v 10))
      (by rw [show PyData.list ([((1, 0, 1) : Pl), (0, 1, 1)].map fun p => plD (ledPl r p)) = .list ([ledPl r (1, 0, 1), ledPl r (0, 1, 1)].map plD) from rfl, eqv_pls, led_e1, led_e2]; simp))) ?_
  exact law_end L hr fa hu
theorem fn_law (L : LibS P w K mg base) {fo : Addr} {fdo : FuncData} (Go : FnOk P w K mg base CX0 1 fo fdo ["_law_script"] (spOpen K)) (Gm : mg "_law_open_cells" = some (.ref fo)) (Gk : PySem.W.keepIn K (.ref fo) = true) (Gb : Binds K fdo ["_law_script"] [])
    (facts : ∀ (pool q1 q2 : List Pl) (a b : Int) (p : Pl), pool.length = 4 → (∀ p ∈ pool, Pool p) → q1 ≠ [] → q1.length ≤ 4 → (∀ q ∈ q1, q ∈ pool) → q2 ≠ [] → q2.length ≤ 4 → (∀ q ∈ q2, q ∈ pool) → -2 ≤ a → a ≤ 2 → 1 ≤ b → b ≤ 3 → p ∈ pool → LawF (hullL q1) (hullL q2) (mkDir a b) (halfL (mkDir a b) p))
    {f : Addr} {fd : FuncData} (F1 : Fun K "law" "law" (topS 79) f fd) : FnOk P w K mg base CX0 10 f fd ["_law_script"] (spLaw K) := by
  refine F1.ok sc_law (fun vs H Q E h => ?_) (fun cdv A outer s H vs Q E hr h => ⟨_, pss_cons (ps_set (i := 1) sc_law.nd rfl (.inl rfl) (pe_call Go (hr.mono (by decide)) rfl Gm Gk Gb .nil pass0 (pa_cons (pe_self _ _) pa_nil)) rfl (.inl rfl)) (pss_self _ _), ?_⟩)
  · obtain ⟨a, ns, rfl, _⟩ := h
    rfl
  obtain ⟨a, ns, rfl, hs, hz, q⟩ := h
  refine xgo (X := cxD P w K mg base NL "law" (topS 79) f cdv A outer s H E) (x_v 0) ⟨a, ns, rfl, hs, hz, fun S C z H' hz' => ?_⟩
  have at' : SrcAt S C (fun _ => none) H' := ⟨rfl, rfl, z, hz'⟩
  have rep : Rep (fun _ => none) ((L2.start NL [.ref a]).set 1 (some (.ref S))) [none, some (oq S), none, none, none, none, none, none, none, none, none, none, none, none, none, none] := (rep_none (n := 16) rfl).set (.opq S) 1
  refine (?_ : SrS S C (cxD P w K mg base NL "law" (topS 79) f cdv A outer s H E) _ [none, some (oq S), none, none, none, none, none, none, none, none, none, none, none, none, none, none] (· = .bool true)) _ _ _ _ (by intro _ _ e; cases e) rep at' (by
    rintro v d Hc1 H1 _ _ rfl d1
    cases d1
    exact q H1)
  have T := L.lib.top'
  refine ss_set 2 sc_law.nd (es_callSX (Pf := fun d => ∃ ps : List Pl, d = .list (ps.map plD) ∧ ps.length = 4 ∧ ∀ p ∈ ps, Pool p) L.dpool (hr.mono (by decide)) (eas_cons (P := (· = oq S)) (es_d (d_v 1) rfl) (eas_cons (P := (· = .int 4)) (es_d d_int rfl) (eas_cons (P := (· = .int 3)) (es_d d_int rfl) eas_nil))) (by
    rintro _ ⟨_, _, rfl, rfl, _, _, rfl, rfl, _, _, rfl, rfl, rfl⟩
    exact ⟨_, rfl, rfl, fun ps h1 h2 => ⟨ps, rfl, h1, h2⟩⟩)) ?_
  rintro _ ⟨pool, rfl, hpl, hpool⟩
  have plate : ∀ (ρ : En) (a b : Expr) (pos p1 : Pos), DE (cxD P w K mg base NL "law" (topS 79) f cdv A outer s H E) a ρ (oq S) → DE (cxD P w K mg base NL "law" (topS 79) f cdv A outer s H E) b ρ (.list (pool.map plD)) → starEach [a, b] (cxD P w K mg base NL "law" (topS 79) f cdv A outer s H E).env = (false, eval a (cxD P w K mg base NL "law" (topS 79) f cdv A outer s H E).env) :: starEach [b] (cxD P w K mg base NL "law" (topS 79) f cdv A outer s H E).env →
      starEach [b] (cxD P w K mg base NL "law" (topS 79) f cdv A outer s H E).env = (false, eval b (cxD P w K mg base NL "law" (topS 79) f cdv A outer s H E).env) :: starEach [] (cxD P w K mg base NL "law" (topS 79) f cdv A outer s H E).env → (backTo pos (starEach [b] (cxD P w K mg base NL "law" (topS 79) f cdv A outer s H E).env)).any (·.1) = false →
      ES S C (cxD P w K mg base NL "law" (topS 79) f cdv A outer s H E) (.Call (.Name "_law_draw_plate" p1) [a, b] [] pos) ρ (fun d => ∃ qs : List Pl, d = pgD (hullL qs) ∧ qs ≠ [] ∧ qs.length ≤ 4 ∧ ∀ q ∈ qs, q ∈ pool) := fun ρ a b pos p1 h1 h2 e1 e2 e3 =>
    es_callSX L.dplate (hr.mono (by decide)) (eas_cons (P := (· = oq S)) (es_d h1 rfl) (eas_cons (P := (· = .list (pool.map plD))) (es_d h2 rfl) eas_nil e2) e1) (by
      rintro _ ⟨_, _, rfl, rfl, _, _, rfl, rfl, rfl⟩
      exact ⟨_, rfl, pool, rfl, hpl, hpool, fun qs a b c => ⟨qs, rfl, a, b, c⟩⟩) rfl (by decide) e1 e3
  refine ss_asg (vs := [3, 4]) (es_tupX (P := fun d => ∃ q1 q2 : List Pl, d = .tuple [pgD (hullL q1), pgD (hullL q2)] ∧ (q1 ≠ [] ∧ q1.length ≤ 4 ∧ ∀ q ∈ q1, q ∈ pool) ∧ (q2 ≠ [] ∧ q2.length ≤ 4 ∧ ∀ q ∈ q2, q ∈ pool)) (eas_cons (plate _ _ _ _ _ (d_v 1) (d_v 2) rfl rfl rfl) (eas_cons (plate _ _ _ _ _ (d_v 1) (d_v 2) rfl rfl rfl) eas_nil)) (by
      rintro _ ⟨_, _, rfl, _, _, _, rfl, _, rfl⟩
      show 2 ≤ 100000
      decide) (by
      rintro _ ⟨_, _, rfl, ⟨q1, rfl, h1⟩, _, _, rfl, ⟨q2, rfl, h2⟩, rfl⟩
      exact ⟨q1, q2, rfl, h1, h2⟩)) (pg_tup (n := 2) rfl (pgs_cons (pg_name (i := 3) sc_law.nd rfl (.inr rfl)) (pgs_cons (pg_name (i := 4) sc_law.nd rfl (.inl rfl)) pgs_nil))) ?_
  rintro _ ⟨q1, q2, rfl, ⟨n1, m1, i1⟩, ⟨n2, m2, i2⟩⟩
  refine ⟨_, bd_tup (bds_cons (bd_name (by decide)) (bds_cons (bd_name (by decide)) bds_nil)) rfl, ?_⟩
  have pk : ∀ {ρ : En} {a b : Expr} {pos p1 : Pos} {k : Int}, True := fun {_ _ _ _ _ _} => trivial
  refine ss_set 5 sc_law.nd (es_callX (Pf := fun d => ∃ x y : Int, d = prD (mkDir x y) ∧ -2 ≤ x ∧ x ≤ 2 ∧ 1 ≤ y ∧ y ≤ 3) L.ldir (hr.mono (by decide)) (eas_cons (es_sub (P := IntP fun x => -2 ≤ x ∧ x ≤ 2) (es_pick L.pick (hr.mono (by decide)) (d_v 1) d_int (by decide) (by decide)) (es_i d_int) (by rintro i j ⟨h1, h2⟩ rfl; exact ⟨_, rfl, by omega, by omega⟩))
      (eas_cons (es_add (P := IntP fun y => 1 ≤ y ∧ y ≤ 3) (es_i d_int) (es_pick L.pick (hr.mono (by decide)) (d_v 1) d_int (by decide) (by decide)) (by rintro i j rfl ⟨h1, h2⟩; exact ⟨_, rfl, by omega, by omega⟩)) eas_nil)) (by
      rintro _ ⟨_, _, rfl, ⟨x, rfl, x1, x2⟩, _, _, rfl, ⟨y, rfl, y1, y2⟩, rfl⟩
      exact ⟨_, ⟨x, y, rfl, x1, x2, y1, y2⟩, x, y, rfl, fun e => by omega, Sm.mono (m := 2) (by show x.natAbs < 4; omega) (by decide), Sm.mono (m := 2) (by show y.natAbs < 4; omega) (by decide), rfl⟩)) ?_
  rintro _ ⟨x, y, rfl, x1, x2, y1, y2⟩
  have hu : DirOk 2 (mkDir x y) := mkDir_ok (fun e => by omega) (by show x.natAbs < 4; omega) (by show y.natAbs < 4; omega)
  refine ss_set 6 sc_law.nd (es_callX (Pf := fun d => ∃ p : Pl, d = plD (halfL (mkDir x y) p) ∧ p ∈ pool) L.lib.lhalf (hr.mono (by decide)) (eas_cons (P := (· = prD (mkDir x y))) (es_d (d_v 5) rfl) (eas_cons (es_ixL (P := fun d => ∃ p : Pl, d = plD p ∧ p ∈ pool) (ds := pool.map plD) (d_v 2) (es_pick L.pick (hr.mono (by decide)) (d_v 1) d_int (by decide) (by decide)) (by
      rintro j ⟨h1, h2⟩
      obtain ⟨i, rfl⟩ : ∃ i : Nat, j = i := ⟨j.toNat, by omega⟩
      have hi : i < pool.length := by omega
      exact ⟨_, at_cur hi, _, rfl, cur_mem hi⟩)) eas_nil)) (by
      rintro _ ⟨_, _, rfl, rfl, _, _, rfl, ⟨p, rfl, hp⟩, rfl⟩
      exact ⟨_, ⟨p, rfl, hp⟩, _, p, 2, 4, rfl, by decide, hu, (hpool p hp).ok, rfl⟩)) ?_
  rintro _ ⟨p, rfl, hp⟩
  have fa := facts pool q1 q2 x y p hpl hpool n1 m1 i1 n2 m2 i2 x1 x2 y1 y2 hp
  have hh : HfOk 7 (halfL (mkDir x y) p) := halfL_ok hu (hpool p hp).ok
  generalize hullL q1 = one at fa ⊢
  generalize hullL q2 = other at fa ⊢
  generalize mkDir x y = u at fa hh hu ⊢
  generalize halfL u p = h at fa hh ⊢
  clear plate facts
  have hu3 := units64 hr
  have o1 := fa.t1
  have o2 := fa.t2
  have ml : one.length * other.length ≤ 64 := Nat.le_trans (Nat.mul_le_mul fa.l1 fa.l2) (by decide)
  have rput : R_put [pgD one, pgD other] (pgD (putP one other)) := ⟨one, other, 4, rfl, o1.ne, o2.ne, ml, by decide, o1.ok, o2.ok, rfl⟩
  have rcut : R_cut [pgD one, plD h] (optD (cutP one h)) := ⟨one, h, 7, 4, rfl, by have := fa.l1; omega, fa.c1, by decide, hh, o1.ok, rfl⟩
  have rcut2 : R_cut [pgD (putP one other), plD h] (optD (cutP (putP one other) h)) := ⟨_, h, 7, 9, rfl, by have := fa.tp.len; omega, fa.c2, by decide, hh, fa.tp.ok, rfl⟩
  have rmeet : R_meet [pgD one, pgD other] (optD (meetP one other)) := ⟨one, other, 4, 4, 400, rfl, o1.ne, by have := fa.l1; omega, by have := fa.l2; omega, by decide, by decide, o2.ne, o2.nd, o1.ok, o2.ok, by decide, fa.cm, rfl⟩
  have rgreat : R_meet [pgD one, pgD (greatL h)] (optD (meetP one (greatL h))) := ⟨one, _, 40, 4, 400, rfl, o1.ne, by have := fa.l1; omega, fa.glen, by decide, by decide, fa.gne, fa.gnd, o1.ok, fa.gok, by decide, fa.gc, rfl⟩
  refine ss_d1 (s_set 7 sc_law.nd (d := .list ([one, other, putP one other, mirrorP one].map pgD)) (d_lst (da_cons (d_v 3) (da_cons (d_v 4) (da_cons (d_call L.lib.put (hr.mono (by decide)) (da_cons (d_v 3) (da_cons (d_v 4) da_nil)) rput) (da_cons (d_call L.lib.mirror (hr.mono (by decide)) (da_cons (d_v 3) da_nil) ⟨one, 4, rfl, o1.ne, by have := fa.l1; omega, by decide, o1.ok, rfl⟩) da_nil)))))) ?_
  generalize hM : [one, other, putP one other, mirrorP one] = M
  have hMl : M.length = 4 := by rw [← hM]; rfl
  refine ss_d1 (s_for (xs := [cutP one h, meetP one other, cutP (putP one other) h]) (enc := optD) (vs := [8]) rfl (di_tup (d_tup (da_cons (d_call L.lib.cut (hr.mono (by decide)) (da_cons (d_v 3) (da_cons (d_v 6) da_nil)) rcut) (da_cons (d_call L.lib.meet (hr.mono (by decide)) (da_cons (d_v 3) (da_cons (d_v 4) da_nil)) rmeet) (da_cons (d_call L.lib.cut (hr.mono (by decide)) (da_cons (d_call L.lib.put (hr.mono (by decide)) (da_cons (d_v 3) (da_cons (d_v 4) da_nil)) rput) (da_cons (d_v 6) da_nil)) rcut2) da_nil))))) (pg_name (i := 8) sc_law.nd rfl (.inl rfl))
    (.next (bd_name (by decide)) (ds_cons (s_set 7 sc_law.nd (d_addT (M := M) (o := cutP one h) (d_v 7) (d_told (d_v 8) (d_v 8)) (by omega))) ds_nil)
      (.next (bd_name (by decide)) (ds_cons (s_set 7 sc_law.nd (d_addT (M := M ++ (cutP one h).toList) (o := meetP one other) (d_v 7) (d_told (d_v 8) (d_v 8)) (by rw [List.length_append]; cases cutP one h <;> simp <;> omega))) ds_nil)
        (.next (bd_name (by decide)) (ds_cons (s_set 7 sc_law.nd (d_addT (M := M ++ (cutP one h).toList ++ (meetP one other).toList) (o := cutP (putP one other) h) (d_v 7) (d_told (d_v 8) (d_v 8)) (by rw [List.length_append, List.length_append]; cases cutP one h <;> cases meetP one other <;> simp <;> omega))) ds_nil) .nil)))) ?_
  generalize hM3 : M ++ (cutP one h).toList ++ (meetP one other).toList ++ (cutP (putP one other) h).toList = M3
  have hT : ∀ Q ∈ M3, ∃ n, Told n Q := by
    intro Q hQ
    rw [← hM3, ← hM] at hQ
    simp only [List.mem_append, List.mem_cons, List.not_mem_nil, or_false, Option.mem_toList, Option.mem_def] at hQ
    rcases hQ with (((rfl | rfl | rfl | rfl) | e) | e) | e
    · exact ⟨_, o1⟩
    · exact ⟨_, o2⟩
    · exact ⟨_, fa.tp⟩
    · exact ⟨_, fa.tm⟩
    · exact ⟨_, fa.tc Q e⟩
    · exact ⟨_, fa.tmt Q e⟩
    · exact ⟨_, fa.tc2 Q e⟩
  have hl3 : M3.length ≤ 90000 := by
    rw [← hM3, List.length_append, List.length_append, List.length_append]
    cases cutP one h <;> cases meetP one other <;> cases cutP (putP one other) h <;> simp <;> omega
  refine ss_d1 (s_skip (DT.is (t_or (k := false) (l := false) (DT.is (t_neD hu3 (sh_opt _) (sh_opt _) (d_call L.lib.cut (hr.mono (by decide)) (da_cons (d_v 3) (da_cons (d_v 6) da_nil)) rcut) (d_call L.lib.meet (hr.mono (by decide)) (da_cons (d_v 3) (da_cons (d_call L.great (hr.mono (by decide)) (da_cons (d_v 6) da_nil) ⟨h, 7, rfl, by decide, hh, rfl⟩) da_nil)) rgreat)) (by rw [eqv_oo, fa.great]; simp))
      fun _ => DT.is (t_neB (d_call L.lib.isMet (hr.mono (by decide)) (da_cons (d_v 3) (da_cons (d_v 6) da_nil)) ⟨one, h, 7, 4, rfl, by have := fa.l1; omega, by decide, hh, o1.ok, rfl⟩) (d_notN (d_call L.lib.cut (hr.mono (by decide)) (da_cons (d_v 3) (da_cons (d_v 6) da_nil)) rcut))) (by rw [fa.met, isNone_opt]; cases cutP one h <;> rfl)) rfl)) ?_
  refine ss_d1 (s_skip (DT.is (t_not (t_v (d_all T (bs := M3.map fun _ => true) rfl (DE.is (d_lc (own := [("_law_plate", 14)]) (g := gName 14) (xs := M3) (enc := pgD) (f := fun _ => .bool true) rfl sc_law.nd (bk (by decide +kernel)) (di_list (d_v 7)) (fun _ _ _ _ _ => pg_name (i := 14) sc_law.nd rfl (Or.inl rfl)) (fun _ _ => bd_name (by decide))
      (fun Q hQ _ _ _ _ _ => by obtain ⟨n, t⟩ := hT Q hQ; exact d_call L.told hr (da_cons (d_v 14) da_nil) ⟨Q, n, rfl, t, rfl⟩) (by omega)) (by rw [List.map_map] <;> rfl))))) (by simp))) ?_
  refine ss_set 9 sc_law.nd (es_tupX (P := fun d => ∃ r : Ru, d = ruD r ∧ RuOk r) (eas_cons (es_i d_int) (eas_cons (es_sub (P := IntP fun b => b = -1 ∨ b = -2) (es_sub (P := IntP (· = -1)) (es_i d_int) (es_i d_int) (by rintro i j rfl rfl; exact ⟨_, rfl, rfl⟩)) (es_pick L.pick (hr.mono (by decide)) (d_v 1) d_int (by decide) (by decide)) (by rintro i j rfl ⟨h1, h2⟩; exact ⟨_, rfl, by omega⟩)) (eas_cons (es_i d_int) (eas_cons (es_pick L.pick (hr.mono (by decide)) (d_v 1) d_int (by decide) (by decide))
      (eas_cons (es_i d_int) (eas_cons (es_i d_int) (eas_cons (es_add (P := IntP fun b => b = 1 ∨ b = 2) (es_i d_int) (es_pick L.pick (hr.mono (by decide)) (d_v 1) d_int (by decide) (by decide)) (by rintro i j rfl ⟨h1, h2⟩; exact ⟨_, rfl, by omega⟩)) eas_nil))))))) (by
      rintro _ ⟨_, _, rfl, _, _, _, rfl, _, _, _, rfl, _, _, _, rfl, _, _, _, rfl, _, _, _, rfl, _, _, _, rfl, _, rfl⟩
      show 7 ≤ 100000
      decide) (by
      rintro _ ⟨_, _, rfl, ⟨_, rfl, rfl⟩, _, _, rfl, ⟨b, rfl, hb⟩, _, _, rfl, ⟨_, rfl, rfl⟩, _, _, rfl, ⟨d, rfl, d1, d2⟩, _, _, rfl, ⟨_, rfl, rfl⟩, _, _, rfl, ⟨_, rfl, rfl⟩, _, _, rfl, ⟨n, rfl, hn⟩, rfl⟩
      exact ⟨⟨b, d, n⟩, rfl, by show b.natAbs < 16; omega, by show d.natAbs < 16; omega, by show n.natAbs < 16; omega, by show 0 < n; omega⟩)) ?_
  rintro _ ⟨r, rfl, hru⟩
  exact ss_ds (law_tail L hr fa hu hru) rfl
end
end PH

set_option Elab.async false
set_option linter.all false
set_option maxRecDepth 100000
set_option maxHeartbeats 1000000
namespace PH
open Geo (P2 cr dot)
open PySem PySem.Spec PyProof.Rows L2
/-! ### places as points of the plane -/
def pt (p : Pl) : P2 := ((p.1 : Rat) / (p.2.2 : Rat), (p.2.1 : Rat) / (p.2.2 : Rat))
theorem rpos {z : Int} (h : 0 < z) : (0 : Rat) < (z : Rat) := by exact_mod_cast h
theorem rne {z : Int} (h : 0 < z) : (z : Rat) ≠ 0 := by
  have := rpos h
  grind
theorem div_eq {a b c d : Int} (hb : 0 < b) (hd : 0 < d) : (a : Rat) / b = (c : Rat) / d ↔ a * d = c * b := by
  have h1 := rne hb
  have h2 := rne hd
  rw [Rat.div_def, Rat.div_def]
  constructor
  · intro h
    have : ((a * d : Int) : Rat) = ((c * b : Int) : Rat) := by
      rw [Rat.intCast_mul, Rat.intCast_mul]
      grind
    exact_mod_cast this
  · intro h
    have : ((a * d : Int) : Rat) = ((c * b : Int) : Rat) := by rw [h]
    rw [Rat.intCast_mul, Rat.intCast_mul] at this
    grind
theorem div_lt {a b c d : Int} (hb : 0 < b) (hd : 0 < d) : (a : Rat) / b < (c : Rat) / d ↔ a * d < c * b := by
  have h1 := rpos hb
  have h2 := rpos hd
  rw [Rat.div_lt_iff h1, Rat.div_def, show (c : Rat) * (d : Rat)⁻¹ * b = c * b / d by rw [Rat.div_def]; grind, Rat.lt_div_iff h2]
  constructor
  · intro h; have h' : ((a * d : Int) : Rat) < ((c * b : Int) : Rat) := by rw [Rat.intCast_mul, Rat.intCast_mul]; exact h
    exact_mod_cast h'
  · intro h; have h' : ((a * d : Int) : Rat) < ((c * b : Int) : Rat) := by exact_mod_cast h
    rw [Rat.intCast_mul, Rat.intCast_mul] at h'; exact h'
/-- a place in its lowest form -/
theorem pt_mk {x y z : Int} (h : z ≠ 0) : pt (mkPl x y z) = ((x : Rat) / z, (y : Rat) / z) ∧ 0 < (mkPl x y z).2.2 := by
  have hp : 0 < (mkPl x y z).2.2 := (mkPl_ok (n := x.natAbs + y.natAbs + z.natAbs) h (Nat.lt_of_le_of_lt (by omega) Nat.lt_two_pow_self) (Nat.lt_of_le_of_lt (by omega) Nat.lt_two_pow_self) (Nat.lt_of_le_of_lt (by omega) Nat.lt_two_pow_self) (x := x) (y := y)).pos
  refine ⟨?_, hp⟩
  obtain ⟨s1, s2⟩ := mkPl_spec (x := x) (y := y) h
  have hz : (z : Rat) ≠ 0 := by intro e; apply h; exact_mod_cast e
  have hd := rne hp
  have t1 : ((mkPl x y z).1 : Rat) * z = x * (mkPl x y z).2.2 := by exact_mod_cast s1
  have t2 : ((mkPl x y z).2.1 : Rat) * z = y * (mkPl x y z).2.2 := by exact_mod_cast s2
  unfold pt
  generalize ((mkPl x y z).1 : Rat) = a at *
  generalize ((mkPl x y z).2.1 : Rat) = b at *
  generalize ((mkPl x y z).2.2 : Rat) = c at *
  refine Prod.ext ?_ ?_
  · show a / c = x / z
    rw [Rat.div_def, Rat.div_def]; grind
  · show b / c = y / z
    rw [Rat.div_def, Rat.div_def]; grind
section
variable {p q r : Pl}
/-- the denominator is positive -/
def Dp (p : Pl) : Prop := 0 < p.2.2
theorem PlOk.dp {n : Nat} (h : PlOk n p) : Dp p := h.pos
theorem pt_apart (hp : Dp p) (hq : Dp q) : pt (apart q p) = ((pt q).1 - (pt p).1, (pt q).2 - (pt p).2) ∧ Dp (apart q p) := by
  have h := pt_mk (x := q.1 * p.2.2 - p.1 * q.2.2) (y := q.2.1 * p.2.2 - p.2.1 * q.2.2) (z := q.2.2 * p.2.2) (Int.mul_ne_zero (by unfold Dp at hq; omega) (by unfold Dp at hp; omega))
  refine ⟨?_, h.2⟩
  show pt (mkPl _ _ _) = _
  rw [h.1]
  have a := rne hp
  have b := rne hq
  unfold pt
  refine Prod.ext ?_ ?_ <;> simp only [Rat.intCast_sub, Rat.intCast_mul, Rat.div_def] <;> grind
theorem pt_moved (hp : Dp p) (hq : Dp q) : pt (moved p q) = ((pt p).1 + (pt q).1, (pt p).2 + (pt q).2) ∧ Dp (moved p q) := by
  have h := pt_mk (x := p.1 * q.2.2 + q.1 * p.2.2) (y := p.2.1 * q.2.2 + q.2.1 * p.2.2) (z := p.2.2 * q.2.2) (Int.mul_ne_zero (by unfold Dp at hp; omega) (by unfold Dp at hq; omega))
  refine ⟨?_, h.2⟩
  show pt (mkPl _ _ _) = _
  rw [h.1]
  have a := rne hp
  have b := rne hq
  unfold pt
  refine Prod.ext ?_ ?_ <;> simp only [Rat.intCast_add, Rat.intCast_mul, Rat.div_def] <;> grind
theorem pt_mid (hp : Dp p) (hq : Dp q) : pt (midP p q) = (((pt p).1 + (pt q).1) / 2, ((pt p).2 + (pt q).2) / 2) ∧ Dp (midP p q) := by
  have h := pt_mk (x := p.1 * q.2.2 + q.1 * p.2.2) (y := p.2.1 * q.2.2 + q.2.1 * p.2.2) (z := 2 * p.2.2 * q.2.2) (Int.mul_ne_zero (Int.mul_ne_zero (by decide) (by unfold Dp at hp; omega)) (by unfold Dp at hq; omega))
  refine ⟨?_, h.2⟩
  show pt (mkPl _ _ _) = _
  rw [h.1]
  have a := rne hp
  have b := rne hq
  have t : ((2 : Int) : Rat) = 2 := rfl
  unfold pt
  refine Prod.ext ?_ ?_ <;> simp only [Rat.intCast_add, Rat.intCast_mul, Rat.div_def, t] <;> grind
theorem pt_scaled (hp : Dp p) : pt (scaledN p) = (-(pt p).1, -(pt p).2) ∧ Dp (scaledN p) := by
  have h := pt_mk (x := p.1 * (-1)) (y := p.2.1 * (-1)) (z := p.2.2 * 1) (Int.mul_ne_zero (by unfold Dp at hp; omega) (by decide))
  refine ⟨?_, h.2⟩
  show pt (mkPl _ _ _) = _
  rw [h.1]
  have a := rne hp
  have t : ((-1 : Int) : Rat) = -1 := rfl
  have t1 : ((1 : Int) : Rat) = 1 := rfl
  unfold pt
  refine Prod.ext ?_ ?_ <;> simp only [Rat.intCast_mul, Rat.div_def, t, t1] <;> grind
theorem pt_led {s : Ru} (hs : 0 < s.n) (hp : Dp p) : pt (ledPl s p) = ((s.b : Rat) / s.n * (pt p).2, (1 : Rat) / s.n * (pt p).1 + (s.d : Rat) / s.n * (pt p).2) ∧ Dp (ledPl s p) := by
  have h := pt_mk (x := 0 * p.1 + s.b * p.2.1 + 0 * p.2.2) (y := 1 * p.1 + s.d * p.2.1 + 0 * p.2.2) (z := s.n * p.2.2) (Int.mul_ne_zero (by omega) (by unfold Dp at hp; omega))
  refine ⟨?_, h.2⟩
  show pt (mkPl _ _ _) = _
  rw [h.1]
  have a := rne hp
  have b := rne hs
  have t : ((0 : Int) : Rat) = 0 := rfl
  have t1 : ((1 : Int) : Rat) = 1 := rfl
  unfold pt
  refine Prod.ext ?_ ?_ <;> simp only [Rat.intCast_add, Rat.intCast_mul, Rat.div_def, t, t1] <;> grind
theorem first_lt (hp : Dp p) (hq : Dp q) : comesFirst p q = true ↔ Geo.lt (pt p) (pt q) := by
  unfold comesFirst Geo.lt pt
  rw [lex2, div_lt hp hq, div_lt hp hq, div_eq hp hq]
  split
  · next h => simp; omega
  · next h => simp; omega
/-- the turn of the program's places -/
def tn (p q r : Pl) : Int := (apart q p).1 * (apart r p).2.1 - (apart q p).2.1 * (apart r p).1
theorem tn_cr (hp : Dp p) (hq : Dp q) (hr : Dp r) : ∃ k : Rat, 0 < k ∧ (tn p q r : Rat) = k * cr (pt p) (pt q) (pt r) := by
  obtain ⟨e1, d1⟩ := pt_apart hp hq
  obtain ⟨e2, d2⟩ := pt_apart hp hr
  refine ⟨((apart q p).2.2 : Rat) * (apart r p).2.2, Geo.mul_ps (rpos d1) (rpos d2), ?_⟩
  have a := rne d1
  have b := rne d2
  have x1 : ((apart q p).1 : Rat) / (apart q p).2.2 = _ := congrArg Prod.fst e1
  have y1 : ((apart q p).2.1 : Rat) / (apart q p).2.2 = _ := congrArg Prod.snd e1
  have x2 : ((apart r p).1 : Rat) / (apart r p).2.2 = _ := congrArg Prod.fst e2
  have y2 : ((apart r p).2.1 : Rat) / (apart r p).2.2 = _ := congrArg Prod.snd e2
  unfold tn cr
  rw [Rat.intCast_sub, Rat.intCast_mul, Rat.intCast_mul]
  rw [Rat.div_def] at x1 y1 x2 y2
  dsimp only at x1 y1 x2 y2
  rw [← x1, ← y1, ← x2, ← y2]
  grind
theorem pos_mul {k x : Rat} (hk : 0 < k) : 0 < k * x ↔ 0 < x := by
  constructor
  · intro h
    by_cases c : 0 < x
    · exact c
    · have := Geo.mul_nn (show 0 ≤ k by grind) (show 0 ≤ -x by grind)
      grind
  · exact Geo.mul_ps hk
theorem left_cr (hp : Dp p) (hq : Dp q) (hr : Dp r) : leftP p q r = decide (0 < cr (pt p) (pt q) (pt r)) := by
  obtain ⟨k, hk, e⟩ := tn_cr hp hq hr
  have h1 : 0 < tn p q r ↔ 0 < cr (pt p) (pt q) (pt r) := by
    rw [← pos_mul hk, ← e]
    constructor
    · intro h; exact_mod_cast h
    · intro h; exact_mod_cast h
  have h2 : turn p q r ≤ 0 ↔ ¬ 0 < tn p q r := by
    unfold turn b2i tn
    split <;> split <;> simp at * <;> omega
  unfold leftP
  rw [Bool.eq_iff_iff, Bool.not_eq_true', decide_eq_false_iff_not, decide_eq_true_iff, ← h1, h2]
  exact Classical.not_not
theorem turn_nn (hp : Dp p) (hq : Dp q) (hr : Dp r) : 0 ≤ turn p q r ↔ 0 ≤ cr (pt p) (pt q) (pt r) := by
  obtain ⟨k, hk, e⟩ := tn_cr hp hq hr
  have h1 : tn p q r < 0 ↔ cr (pt p) (pt q) (pt r) < 0 := by
    have := pos_mul (x := -cr (pt p) (pt q) (pt r)) hk
    have e' : ((-tn p q r : Int) : Rat) = k * -cr (pt p) (pt q) (pt r) := by rw [Rat.intCast_neg, e]; grind
    have h2 : 0 < -tn p q r ↔ 0 < -cr (pt p) (pt q) (pt r) := by
      rw [← this, ← e']
      constructor
      · intro h; exact_mod_cast h
      · intro h; exact_mod_cast h
    constructor
    · intro h; have := h2.mp (by omega); grind
    · intro h; have := h2.mpr (by grind); omega
  have h3 : 0 ≤ turn p q r ↔ ¬ tn p q r < 0 := by
    unfold turn b2i tn
    split <;> split <;> simp at * <;> omega
  rw [h3, h1]
  grind
theorem leftL_cr (hp : Dp p) (hq : Dp q) (hr : Dp r) : leftL p q r = decide (0 < cr (pt p) (pt q) (pt r)) := by
  have hk : 0 < (p.2.2 : Rat) * p.2.2 * q.2.2 * r.2.2 := Geo.mul_ps (Geo.mul_ps (Geo.mul_ps (rpos hp) (rpos hp)) (rpos hq)) (rpos hr)
  have e : (detL p q r : Rat) = ((p.2.2 : Rat) * p.2.2 * q.2.2 * r.2.2) * cr (pt p) (pt q) (pt r) := by
    have a := rne hp
    have b := rne hq
    have c := rne hr
    unfold detL stepL cr pt
    simp only [Rat.intCast_sub, Rat.intCast_mul, Rat.div_def]
    grind
  have h1 : 0 < detL p q r ↔ 0 < cr (pt p) (pt q) (pt r) := by
    rw [← pos_mul hk, ← e]
    constructor
    · intro h; exact_mod_cast h
    · intro h; exact_mod_cast h
  have h2 : turnL p q r < 1 ↔ ¬ 0 < detL p q r := by
    unfold turnL
    split <;> split <;> simp at * <;> omega
  unfold leftL
  rw [Bool.eq_iff_iff, Bool.not_eq_true', decide_eq_false_iff_not, decide_eq_true_iff, ← h1, h2]
  exact Classical.not_not
theorem pt_inj {m n : Nat} (hp : PlOk m p) (hq : PlOk n q) (h : pt p = pt q) : p = q :=
  pl_inj hp hq ((div_eq hp.pos hq.pos).mp (congrArg Prod.fst h)) ((div_eq hp.pos hq.pos).mp (congrArg Prod.snd h))
end
end PH

set_option Elab.async false
set_option linter.all false
set_option maxRecDepth 100000
set_option maxHeartbeats 1000000
namespace PH
open Geo (P2 cr dot)
open PySem PySem.Spec PyProof.Rows L2
/-! ### the common denominator -/
theorem comStep_dvd {f n : Int} (hn : 0 < n) : f ∣ comStep f n ∧ n ∣ comStep f n := by
  unfold comStep
  obtain ⟨d1, d2⟩ := gcd2_dvd f n
  have g0 : ((f.natAbs.gcd n.natAbs : Nat) : Int) ≠ 0 := by have := Nat.gcd_pos_of_pos_right f.natAbs (show 0 < n.natAbs by omega); omega
  refine ⟨Int.dvd_mul_right _ _, ?_⟩
  have e := fdiv_mul d2 g0
  obtain ⟨k, hk⟩ := d1
  refine ⟨k, ?_⟩
  generalize ((f.natAbs.gcd n.natAbs : Nat) : Int) = g at *
  generalize n.fdiv g = m at *
  rw [hk, ← e]
  grind
theorem comStep_pos {f n : Int} (hf : 0 < f) (hn : 0 < n) : 0 < comStep f n := by
  unfold comStep
  have g0 : 0 < ((f.natAbs.gcd n.natAbs : Nat) : Int) := by have := Nat.gcd_pos_of_pos_right f.natAbs (show 0 < n.natAbs by omega); omega
  have e := fdiv_mul (gcd2_dvd f n).2 (by omega)
  refine Int.mul_pos hf (Int.pos_of_mul_pos_left (by rw [e]; exact hn) g0)
theorem common_fold : ∀ (ns : List Int) (f : Int), 0 < f → (∀ n ∈ ns, 0 < n) → 0 < ns.foldl comStep f ∧ f ∣ ns.foldl comStep f ∧ ∀ n ∈ ns, n ∣ ns.foldl comStep f
  | [], f, hf, _ => ⟨hf, Int.dvd_refl _, fun _ h => nomatch h⟩
  | n :: ns, f, hf, hn => by
    have h1 := hn n List.mem_cons_self
    obtain ⟨a, b, c⟩ := common_fold ns (comStep f n) (comStep_pos hf h1) fun m hm => hn m (List.mem_cons_of_mem _ hm)
    refine ⟨a, Int.dvd_trans (comStep_dvd h1).1 b, fun m hm => ?_⟩
    rcases List.mem_cons.mp hm with rfl | hm
    · exact Int.dvd_trans (comStep_dvd h1).2 b
    · exact c m hm
def DpA (ps : List Pl) : Prop := ∀ p ∈ ps, Dp p
theorem key_pt {ps : List Pl} (h : DpA ps) : 0 < comOf ps ∧ ∀ p ∈ ps, ((keyOf (comOf ps) p).1 : Rat) = comOf ps * (pt p).1 ∧ ((keyOf (comOf ps) p).2 : Rat) = comOf ps * (pt p).2 := by
  obtain ⟨a, _, c⟩ := common_fold ((once ps).map (·.2.2)) 1 (by decide) (by
    intro n hn
    obtain ⟨p, hp, rfl⟩ := List.mem_map.mp hn
    exact h p (once_mem.mp hp))
  refine ⟨a, fun p hp => ?_⟩
  have d := c p.2.2 (List.mem_map.mpr ⟨p, once_mem.mpr hp, rfl⟩)
  have hd := h p hp
  have e := fdiv_mul d (by unfold Dp at hd; omega)
  have e' : (((comOf ps).fdiv p.2.2 : Int) : Rat) * p.2.2 = comOf ps := by exact_mod_cast e
  have hn := rne hd
  unfold keyOf pt
  simp only [Rat.intCast_mul, Rat.div_def]
  rw [← e']
  constructor <;> grind
theorem toks (c : Int) (p : Pl) : PySem.W.keyToks (entD c p) = .inl 1 :: .inl 1 :: .inl (keyOf c p).1 :: .inl 1 :: .inl (keyOf c p).2 :: .inl 0 :: PySem.W.keyToksAll [plD p] := rfl
theorem ent_lt {c : Int} {p q : Pl} (h : (keyOf c p).1 < (keyOf c q).1 ∨ ((keyOf c p).1 = (keyOf c q).1 ∧ (keyOf c p).2 < (keyOf c q).2)) : PySem.W.dataLt (entD c p) (entD c q) = true := by
  unfold PySem.W.dataLt
  rw [toks, toks, PyProof.Rows.lex_self, PyProof.Rows.lex_self]
  rcases h with h | ⟨h, k⟩
  · rw [PyProof.Rows.lex_diff (fun e => by have := Sum.inl.inj e; omega)]
    exact decide_eq_true h
  · rw [h, PyProof.Rows.lex_self, PyProof.Rows.lex_self, PyProof.Rows.lex_diff (fun e => by have := Sum.inl.inj e; omega)]
    exact decide_eq_true k
theorem srt_asc {n : Nat} {ps : List Pl} (h : AllOk n ps) : ((srt ps).map pt).Pairwise Geo.lt := by
  have hd : DpA ps := fun p hp => (h p hp).dp
  obtain ⟨c0, ck⟩ := key_pt hd
  have tl := PySem.W.sortLe_total (PyProof.Rows.listOrd PyProof.Rows.itemOrd) false PySem.W.keyToks
  have s1 : (srt ps).Pairwise (fun a b => PySem.W.dataLe false id (entD (comOf ps) a) (entD (comOf ps) b) = true) := List.pairwise_mergeSort (le := fun a b => PySem.W.dataLe false id (entD (comOf ps) a) (entD (comOf ps) b)) (fun a b c => tl.trans (entD (comOf ps) a) (entD (comOf ps) b) (entD (comOf ps) c)) (fun a b => Bool.or_eq_true_iff.mpr (tl.total (entD (comOf ps) a) (entD (comOf ps) b))) (once ps)
  have s2 : (srt ps).Nodup := (List.mergeSort_perm _ _).nodup_iff.mpr (once_nodup ps)
  rw [List.pairwise_map]
  refine (List.Pairwise.and s1 s2).imp_of_mem ?_
  rintro a b ha hb ⟨h1, h2⟩
  have ma := srt_mem.mp ha
  have mb := srt_mem.mp hb
  rcases Geo.tri (pt a) (pt b) with e | e | e
  · exact e
  · exact absurd (pt_inj (h a ma) (h b mb) e) h2
  · exfalso
    have hl : PySem.W.dataLt (entD (comOf ps) b) (entD (comOf ps) a) = true := by
      refine ent_lt ?_
      obtain ⟨a1, a2⟩ := ck a ma
      obtain ⟨b1, b2⟩ := ck b mb
      have cp := rpos c0
      rcases e with e | ⟨e1, e2⟩
      · left
        have : ((keyOf (comOf ps) b).1 : Rat) < ((keyOf (comOf ps) a).1 : Rat) := by
          rw [a1, b1]
          have := Geo.mul_ps cp (show 0 < (pt a).1 - (pt b).1 by grind)
          grind
        exact_mod_cast this
      · right
        constructor
        · have : ((keyOf (comOf ps) b).1 : Rat) = ((keyOf (comOf ps) a).1 : Rat) := by rw [a1, b1, e1]
          exact_mod_cast this
        · have : ((keyOf (comOf ps) b).2 : Rat) < ((keyOf (comOf ps) a).2 : Rat) := by
            rw [a2, b2]
            have := Geo.mul_ps cp (show 0 < (pt a).2 - (pt b).2 by grind)
            grind
          exact_mod_cast this
    have h1 : (!PySem.W.dataLt (entD (comOf ps) b) (entD (comOf ps) a)) = true := h1
    rw [hl] at h1
    cases h1
theorem ins_asc {n : Nat} {p : Pl} (hp : PlOk n p) : ∀ L : List Pl, AllOk n L → (L.map pt).Pairwise Geo.lt → p ∉ L → L = L.filter (fun q => comesFirst q p) ++ L.drop (L.filter fun q => comesFirst q p).length ∧ ∀ q ∈ L.drop (L.filter fun q => comesFirst q p).length, Geo.lt (pt p) (pt q)
  | [], _, _, _ => ⟨rfl, fun _ h => nomatch h⟩
  | x :: L, hL, ha, hn => by
    have hx := hL x List.mem_cons_self
    rw [List.mem_cons, not_or] at hn
    rw [List.map_cons, List.pairwise_cons] at ha
    by_cases c : comesFirst x p = true
    · obtain ⟨i1, i2⟩ := ins_asc hp L (fun q hq => hL q (List.mem_cons_of_mem _ hq)) ha.2 hn.2
      rw [List.filter_cons_of_pos (p := fun q => comesFirst q p) c]
      exact ⟨by rw [List.length_cons, List.drop_succ_cons, List.cons_append, ← i1], fun q hq => i2 q (by rwa [List.length_cons, List.drop_succ_cons] at hq)⟩
    · have hlt : Geo.lt (pt p) (pt x) := by
        rcases Geo.tri (pt p) (pt x) with e | e | e
        · exact e
        · exact absurd (pt_inj hp hx e) hn.1
        · exact absurd ((first_lt hx.dp hp.dp).mpr e) c
      have all : ∀ q ∈ x :: L, Geo.lt (pt p) (pt q) := fun q hq => by
        rcases List.mem_cons.mp hq with rfl | hq
        · exact hlt
        · exact Geo.lt_trans hlt (ha.1 _ (List.mem_map_of_mem hq))
      have e : (x :: L).filter (fun q => comesFirst q p) = [] := List.filter_eq_nil_iff.mpr fun q hq h => Geo.lt_irrefl _ (Geo.lt_trans (all q hq) ((first_lt (hL q hq).dp hp.dp).mp h))
      rw [e]
      exact ⟨rfl, all⟩
theorem insL_asc {n : Nat} {p : Pl} {L : List Pl} (hp : PlOk n p) (hL : AllOk n L) (ha : (L.map pt).Pairwise Geo.lt) : ((insL L p).map pt).Pairwise Geo.lt ∧ ∀ x, x ∈ insL L p ↔ x ∈ L ∨ x = p := by
  unfold insL
  split
  · next h => exact ⟨ha, fun x => ⟨.inl, fun k => k.elim id fun e => e ▸ h⟩⟩
  · next h =>
    obtain ⟨e, k⟩ := ins_asc hp L hL ha h
    generalize hA : L.filter (fun q => comesFirst q p) = A at e k ⊢
    generalize hB : L.drop A.length = B at e k ⊢
    have kA : ∀ q ∈ A, Geo.lt (pt q) (pt p) := fun q hq => by
      rw [← hA] at hq
      obtain ⟨q1, q2⟩ := List.mem_filter.mp hq
      exact (first_lt (hL q q1).dp hp.dp).mp q2
    rw [e, List.map_append, List.pairwise_append] at ha
    obtain ⟨a1, a2, a3⟩ := ha
    refine ⟨?_, fun x => ?_⟩
    · rw [List.map_append, List.map_append, List.pairwise_append, List.pairwise_append]
      refine ⟨⟨a1, by simp, ?_⟩, a2, ?_⟩
      · intro x hx y hy
        obtain ⟨q, hq, rfl⟩ := List.mem_map.mp hx
        obtain rfl : y = pt p := by simpa using hy
        exact kA q hq
      · intro x hx y hy
        obtain ⟨q, hq, rfl⟩ := List.mem_map.mp hy
        rcases List.mem_append.mp hx with hx | hx
        · exact a3 x hx _ hy
        · obtain rfl : x = pt p := by simpa using hx
          exact k q hq
    · rw [e]
      simp only [List.mem_append, List.mem_singleton]
      grind
theorem places_asc {n : Nat} {ps : List Pl} (h : AllOk n ps) : ((placesL ps).map pt).Pairwise Geo.lt ∧ ∀ x, x ∈ placesL ps ↔ x ∈ ps := by
  have : ∀ (ps L : List Pl), AllOk n ps → AllOk n L → (L.map pt).Pairwise Geo.lt → ((ps.foldl insL L).map pt).Pairwise Geo.lt ∧ ∀ x, x ∈ ps.foldl insL L ↔ x ∈ L ∨ x ∈ ps := by
    intro ps
    induction ps with
    | nil => intro L _ _ ha; exact ⟨ha, fun x => by simp⟩
    | cons p ps ih =>
      intro L h1 h2 ha
      have hp := h1 p List.mem_cons_self
      obtain ⟨i1, i2⟩ := insL_asc hp h2 ha
      obtain ⟨j1, j2⟩ := ih (insL L p) (fun q hq => h1 q (List.mem_cons_of_mem _ hq)) (fun q hq => ((i2 q).mp hq).elim (h2 q) fun e => e ▸ hp) i1
      exact ⟨j1, fun x => by rw [List.foldl_cons, j2, i2, List.mem_cons]; grind⟩
  obtain ⟨a, b⟩ := this ps [] h (fun _ h => nomatch h) (by simp)
  exact ⟨a, fun x => by have := b x; simpa [placesL] using this⟩
theorem map_inj {n : Nat} : ∀ {A B : List Pl}, AllOk n A → AllOk n B → A.map pt = B.map pt → A = B
  | [], [], _, _, _ => rfl
  | [], _ :: _, _, _, h => by cases h
  | _ :: _, [], _, _, h => by cases h
  | a :: A, b :: B, ha, hb, h => by
    injection h with h1 h2
    rw [pt_inj (ha a List.mem_cons_self) (hb b List.mem_cons_self) h1, map_inj (fun p hp => ha p (List.mem_cons_of_mem _ hp)) (fun p hp => hb p (List.mem_cons_of_mem _ hp)) h2]
theorem places_srt {n : Nat} {ps : List Pl} (h : AllOk n ps) : placesL ps = srt ps := by
  obtain ⟨a, b⟩ := places_asc h
  refine map_inj (n := n) (fun p hp => h p ((b p).mp hp)) (fun p hp => h p (srt_mem.mp hp)) (Geo.asc_unique Geo.lt_irrefl (fun h k => Geo.lt_trans h k) a (srt_asc h) fun x => ?_)
  simp only [List.mem_map, b, srt_mem]
/-! ### hulls -/
theorem chain_pt {left : Pl → Pl → Pl → Bool} (hl : ∀ a b c, Dp a → Dp b → Dp c → left a b c = decide (0 < cr (pt a) (pt b) (pt c))) {ps : List Pl} (h : DpA ps) : (Geo.chain left ps).map pt = Geo.chain Geo.leftQ (ps.map pt) := by
  obtain ⟨L, rfl⟩ : ∃ L : List { p : Pl // Dp p }, ps = L.map Subtype.val := ⟨ps.attach.map fun x => ⟨x.1, h x.1 x.2⟩, by rw [List.map_map]; exact (List.attach_map_subtype_val ps).symm⟩
  rw [Geo.chain_map (left := fun a b c : { p : Pl // Dp p } => left a.1 b.1 c.1) (left' := left) Subtype.val (fun _ _ _ => rfl), List.map_map, List.map_map]
  exact (Geo.chain_map (left := fun a b c : { p : Pl // Dp p } => left a.1 b.1 c.1) (left' := Geo.leftQ) (pt ∘ Subtype.val) (fun a b c => (hl a.1 b.1 c.1 a.2 b.2 c.2).symm) L).symm
theorem hullP_pt {n : Nat} {ps : List Pl} (h : AllOk n ps) : (hullP ps).map pt = Geo.hullA ((srt ps).map pt) := by
  have hd : DpA (srt ps) := fun p hp => (h p (srt_mem.mp hp)).dp
  have hr : DpA (srt ps).reverse := fun p hp => hd p (List.mem_reverse.mp hp)
  unfold hullP Geo.hullA
  rw [List.length_map]
  split
  · rfl
  · rw [List.map_append, List.map_dropLast, List.map_dropLast, ← List.map_reverse]
    unfold chainP
    rw [chain_pt (fun a b c ha hb hc => left_cr ha hb hc) hd, chain_pt (fun a b c ha hb hc => left_cr ha hb hc) hr]
theorem hullL_eq {n : Nat} {ps : List Pl} (h : AllOk n ps) : hullL ps = hullP ps := by
  have hs : AllOk n (srt ps) := fun p hp => h p (srt_mem.mp hp)
  refine map_inj (n := n) (hullL_ok h) (hullP_ok h) ?_
  rw [hullP_pt h]
  unfold hullL Geo.hullA
  rw [places_srt h, List.length_map]
  have hd : DpA (srt ps) := fun p hp => (hs p hp).dp
  have hr : DpA (srt ps).reverse := fun p hp => hd p (List.mem_reverse.mp hp)
  by_cases h1 : (srt ps).length = 1
  · rw [if_pos (by omega), if_pos h1]
  · rw [if_neg h1]
    by_cases h0 : (srt ps).length < 2
    · have : srt ps = [] := List.eq_nil_of_length_eq_zero (by omega)
      rw [if_pos h0, this]
      rfl
    · rw [if_neg h0]
      unfold chainL
      rw [List.map_append, List.map_dropLast, List.map_dropLast, ← List.map_reverse, chain_pt (fun a b c ha hb hc => leftL_cr ha hb hc) hd, chain_pt (fun a b c ha hb hc => leftL_cr ha hb hc) hr]
/-- as far out as each other, in every direction -/
def FarP (S T : List Pl) : Prop := Geo.Far (S.map pt) (T.map pt)
theorem srt_far (ps : List Pl) : FarP (srt ps) ps := Geo.Far.of_mem fun x => by simp only [List.mem_map, srt_mem]
theorem hull_unique {m n : Nat} {S T : List Pl} (hS : AllOk m S) (hT : AllOk n T) (h : FarP S T) : hullP S = hullP T := by
  refine map_inj (n := max m n) ((hullP_ok hS).mono (by omega)) ((hullP_ok hT).mono (by omega)) ?_
  rw [hullP_pt hS, hullP_pt hT]
  exact Geo.hull_unique (srt_asc hS) (srt_asc hT) (((srt_far S).trans h).trans (srt_far T).symm)
theorem srt_ne {ps : List Pl} (h : ps ≠ []) : srt ps ≠ [] := by
  obtain ⟨p, hp⟩ := List.exists_mem_of_ne_nil ps h
  intro e
  have := srt_mem.mpr hp
  rw [e] at this
  cases this
theorem plate_of {n : Nat} {S : List Pl} (hS : AllOk n S) (h0 : S ≠ []) : Geo.Plate ((srt S).map pt) ((hullP S).map pt) := by
  rw [hullP_pt hS]
  exact Geo.plate_ok (srt_asc hS) (by simpa using srt_ne h0)
end PH

set_option Elab.async false
set_option linter.all false
set_option maxRecDepth 100000
set_option maxHeartbeats 1000000
namespace PH
open Geo (P2 cr dot)
open PySem PySem.Spec PyProof.Rows L2
/-! ### directions, heights, half planes -/
def rp (u : Pr) : P2 := ((u.1 : Rat), (u.2 : Rat))
def hv (s : Pr) : Rat := (s.1 : Rat) / s.2
theorem fdiv_rat {a g : Int} (h : g ∣ a) (g0 : g ≠ 0) : ((a.fdiv g : Int) : Rat) * g = a := by exact_mod_cast fdiv_mul h g0
theorem mkFr_hv {a b : Int} (h : 0 < b) : hv (mkFr a b) = (a : Rat) / b := by
  obtain ⟨d1, d2⟩ := gcd2_dvd a b
  have gp : 0 < a.natAbs.gcd b.natAbs := Nat.gcd_pos_of_pos_right _ (by omega)
  have g0 := sg_ne (z := b) gp
  have e1 := fdiv_rat (sg_dvd (z := b) d1) g0
  have e2 := fdiv_rat (sg_dvd (z := b) d2) g0
  have hb := rne h
  have hg : ((sg b (a.natAbs.gcd b.natAbs) : Int) : Rat) ≠ 0 := by intro e; apply g0; exact_mod_cast e
  show ((a.fdiv (sg b (a.natAbs.gcd b.natAbs)) : Int) : Rat) / ((b.fdiv (sg b (a.natAbs.gcd b.natAbs)) : Int) : Rat) = a / b
  generalize ((a.fdiv (sg b (a.natAbs.gcd b.natAbs)) : Int) : Rat) = x at *
  generalize ((b.fdiv (sg b (a.natAbs.gcd b.natAbs)) : Int) : Rat) = y at *
  generalize ((sg b (a.natAbs.gcd b.natAbs) : Int) : Rat) = g at *
  have hy : y ≠ 0 := fun e => hb (by rw [← e2, e]; grind)
  rw [Rat.div_def, Rat.div_def, ← e1, ← e2]
  grind
theorem height_hv {u : Pr} {p : Pl} (hp : Dp p) : hv (height u p) = dot (rp u) (pt p) := by
  show hv (mkFr _ _) = _
  rw [mkFr_hv hp]
  have := rne hp
  unfold dot rp pt
  simp only [Rat.intCast_add, Rat.intCast_mul, Rat.div_def]
  grind
theorem fr_eq {m n : Nat} {s t : Pr} (hs : FrOk m s) (ht : FrOk n t) (h : hv s = hv t) : s = t := by
  have e := (div_eq hs.pos ht.pos).mp h
  have key : ∀ {s t : Pr} {m n : Nat}, FrOk m s → FrOk n t → s.1 * t.2 = t.1 * s.2 → s.2.natAbs ∣ t.2.natAbs := by
    intro s t m n hs ht h
    have o := hs.one
    have a1 : s.2.natAbs ∣ s.1.natAbs * t.2.natAbs := ⟨t.1.natAbs, by rw [← Int.natAbs_mul, h, Int.natAbs_mul, Nat.mul_comm]⟩
    have a3 : s.2.natAbs ∣ s.2.natAbs * t.2.natAbs := ⟨t.2.natAbs, rfl⟩
    have g := Nat.dvd_gcd a1 a3
    rw [Nat.gcd_mul_right, o, Nat.one_mul] at g
    exact g
  have d := Nat.dvd_antisymm (key hs ht e) (key ht hs e.symm)
  have e' : s.2 = t.2 := by have := hs.pos; have := ht.pos; omega
  rw [← e'] at e
  exact Prod.ext (Int.eq_of_mul_eq_mul_right (by have := hs.pos; omega) e) e'
theorem less_hv {m n : Nat} {s t : Pr} (hs : FrOk m s) (ht : FrOk n t) : isLess s t = true ↔ hv s < hv t := by
  unfold isLess hv
  rw [div_lt hs.pos ht.pos, decide_eq_true_iff]
/-- farthest along u -/
def Mx (P : List Pl) (u : Pr) (x : Pl) : Prop := x ∈ P ∧ ∀ s ∈ P, dot (rp u) (pt s) ≤ dot (rp u) (pt x)
theorem top_fold {m n : Nat} {u : Pr} (hu : DirOk m u) : ∀ (ps : List Pl) (f : Pr), AllOk n ps → FrOk (m + n + 1) f → FrOk (m + n + 1) (ps.foldl (topStep u) f) ∧ hv f ≤ hv (ps.foldl (topStep u) f) ∧ (∀ p ∈ ps, dot (rp u) (pt p) ≤ hv (ps.foldl (topStep u) f)) ∧ (ps.foldl (topStep u) f = f ∨ ∃ p ∈ ps, ps.foldl (topStep u) f = height u p)
  | [], f, _, hf => ⟨hf, Rat.le_refl, (by intro p hp; cases hp), Or.inl rfl⟩
  | p :: ps, f, h, hf => by
    have hp := h p List.mem_cons_self
    have hh := height_sm hu hp
    obtain ⟨a, b, c, d⟩ := top_fold hu ps (topStep u f p) (fun q hq => h q (List.mem_cons_of_mem _ hq)) (topStep_sm hf hh)
    have e : hv f ≤ hv (topStep u f p) ∧ dot (rp u) (pt p) ≤ hv (topStep u f p) := by
      unfold topStep
      rw [← height_hv hp.dp]
      split
      · next k =>
        have := (less_hv hf hh).mp k
        grind
      · next k =>
        have := fun z => k ((less_hv hf hh).mpr z)
        grind
    refine ⟨a, ?_, fun q hq => ?_, ?_⟩
    · rw [List.foldl_cons]; have := e.1; grind
    · rw [List.foldl_cons]
      rcases List.mem_cons.mp hq with rfl | hq
      · have := e.2; grind
      · exact c q hq
    · rw [List.foldl_cons]
      rcases d with d | ⟨q, hq, d⟩
      · rw [d]
        unfold topStep
        split
        · exact .inr ⟨p, List.mem_cons_self, rfl⟩
        · exact .inl rfl
      · exact .inr ⟨q, List.mem_cons_of_mem _ hq, d⟩
theorem top_at {m n : Nat} {u : Pr} (hu : DirOk m u) {P : List Pl} (h0 : P ≠ []) (h : AllOk n P) : (∃ x, Mx P u x ∧ topP P u = height u x) ∧ (∀ p ∈ P, dot (rp u) (pt p) ≤ hv (topP P u)) := by
  match P, h0 with
  | p :: r, _ =>
    have hp := h p List.mem_cons_self
    obtain ⟨a, b, c, d⟩ := top_fold hu r (height u p) (fun q hq => h q (List.mem_cons_of_mem _ hq)) (height_sm hu hp)
    have all : ∀ q ∈ p :: r, dot (rp u) (pt q) ≤ hv (topP (p :: r) u) := fun q hq => by
      rcases List.mem_cons.mp hq with rfl | hq
      · rw [← height_hv hp.dp]; exact b
      · exact c q hq
    refine ⟨?_, all⟩
    rcases d with d | ⟨x, hx, d⟩
    · exact ⟨p, ⟨List.mem_cons_self, fun s hs => by
        have := all s hs
        rw [show topP (p :: r) u = height u p from d, height_hv hp.dp] at this
        exact this⟩, d⟩
    · have hx' := List.mem_cons_of_mem p hx
      exact ⟨x, ⟨hx', fun s hs => by
        have := all s hs
        rw [show topP (p :: r) u = height u x from d, height_hv (h x hx').dp] at this
        exact this⟩, d⟩
theorem top_mx {m n : Nat} {u : Pr} (hu : DirOk m u) {P : List Pl} (h0 : P ≠ []) (h : AllOk n P) {x : Pl} (hx : x ∈ P) : height u x = topP P u ↔ Mx P u x := by
  obtain ⟨⟨y, my, ey⟩, all⟩ := top_at hu h0 h
  constructor
  · intro e
    refine ⟨hx, fun s hs => ?_⟩
    have := all s hs
    rw [← e, height_hv (h x hx).dp] at this
    exact this
  · intro mx
    rw [ey]
    refine fr_eq (height_sm hu (h x hx)) (height_sm hu (h y my.1)) ?_
    rw [height_hv (h x hx).dp, height_hv (h y my.1).dp]
    have a := mx.2 y my.1
    have b := my.2 x hx
    grind
/-- how deep a place lies, in the half plane through a with the normal u -/
theorem mkHalf_depth {a b c : Int} (h : ¬ (a = 0 ∧ b = 0)) : ∃ k : Rat, 0 < k ∧ ∀ p, Dp p → (depth (mkHalf a b c) p : Rat) = k * p.2.2 * ((a : Rat) * (pt p).1 + (b : Rat) * (pt p).2 - c) := by
  obtain ⟨d1, d2, d3⟩ := gcd3_dvd a b c
  have gp := gcd3_half_pos (c := c) h
  have g0 : ((gcd3 a b c : Nat) : Int) ≠ 0 := by omega
  have gr : (0 : Rat) < ((gcd3 a b c : Nat) : Int) := rpos (by omega)
  have e1 := fdiv_rat d1 g0
  have e2 := fdiv_rat d2 g0
  have e3 := fdiv_rat d3 g0
  refine ⟨1 / ((gcd3 a b c : Nat) : Int), by rw [Rat.div_def, Rat.one_mul]; exact Rat.inv_pos.mpr gr, fun p hp => ?_⟩
  have hd := rne hp
  show ((a.fdiv (gcd3 a b c : Nat) * p.1 + b.fdiv (gcd3 a b c : Nat) * p.2.1 - c.fdiv (gcd3 a b c : Nat) * p.2.2 : Int) : Rat) = _
  unfold pt
  simp only [Rat.intCast_sub, Rat.intCast_add, Rat.intCast_mul, Rat.div_def]
  rw [← e1, ← e2, ← e3]
  grind
theorem halfAt_depth {m n : Nat} {u : Pr} {a : Pl} (hu : DirOk m u) (ha : PlOk n a) : ∃ k : Rat, 0 < k ∧ ∀ p, Dp p → (depth (halfAt u a) p : Rat) = k * p.2.2 * (dot (rp u) (pt p) - dot (rp u) (pt a)) := by
  have f := height_sm hu ha
  obtain ⟨k, hk, e⟩ := mkHalf_depth (a := u.1 * (height u a).2) (b := u.2 * (height u a).2) (c := (height u a).1) (fun ⟨x, y⟩ => hu.ne (by
    have := f.pos
    exact ⟨(Int.mul_eq_zero.mp x).resolve_right (by omega), (Int.mul_eq_zero.mp y).resolve_right (by omega)⟩))
  refine ⟨k * (height u a).2, Geo.mul_ps hk (rpos f.pos), fun p hp => ?_⟩
  rw [show halfAt u a = mkHalf (u.1 * (height u a).2) (u.2 * (height u a).2) (height u a).1 from rfl, e p hp, ← height_hv ha.dp]
  have h2 := rne f.pos
  unfold dot rp hv
  simp only [Rat.intCast_mul, Rat.div_def]
  grind
theorem halfL_depth {m n : Nat} {u : Pr} {a : Pl} (hu : DirOk m u) (ha : PlOk n a) : ∃ k : Rat, 0 < k ∧ ∀ p, Dp p → (depth (halfL u a) p : Rat) = k * p.2.2 * (dot (rp u) (pt p) - dot (rp u) (pt a)) := by
  obtain ⟨k, hk, e⟩ := mkHalf_depth (c := u.1 * a.1 + u.2 * a.2.1) (half_ne hu ha)
  refine ⟨k * a.2.2, Geo.mul_ps hk (rpos ha.pos), fun p hp => ?_⟩
  rw [show halfL u a = mkHalf (u.1 * a.2.2) (u.2 * a.2.2) (u.1 * a.1 + u.2 * a.2.1) from rfl, e p hp]
  have h2 := rne ha.pos
  unfold dot rp
  conv => rhs; unfold pt
  unfold pt
  simp only [Rat.intCast_mul, Rat.intCast_add, Rat.div_def]
  grind
theorem nn_depth {x : Int} {k d r : Rat} (e : (x : Rat) = k * d * r) (hk : 0 < k) (hd : 0 < d) : (0 ≤ x ↔ 0 ≤ r) ∧ (x < 0 ↔ r < 0) := by
  have p := Geo.mul_ps hk hd
  have a1 : x < 0 ↔ r < 0 := by
    have := pos_mul (x := -r) p
    have e' : ((-x : Int) : Rat) = k * d * -r := by rw [Rat.intCast_neg, e]; grind
    have h2 : 0 < -x ↔ 0 < -r := by
      rw [← this, ← e']
      exact ⟨fun h => by exact_mod_cast h, fun h => by exact_mod_cast h⟩
    exact ⟨fun h => by have := h2.mp (by omega); grind, fun h => by have := h2.mpr (by grind); omega⟩
  refine ⟨⟨fun h => Rat.not_lt.mp fun z => ?_, fun h => Int.not_lt.mp fun z => ?_⟩, a1⟩
  · have := a1.mpr z; omega
  · have := a1.mp z; grind
theorem facing_depth (h p : Pl) : depth (facing h) p = -depth h p := by
  unfold depth facing; dsimp only; grind
end PH

set_option Elab.async false
set_option linter.all false
set_option maxRecDepth 100000
set_option maxHeartbeats 1000000
namespace PH
open Geo (P2 cr dot prs outN)
open PySem PySem.Spec PyProof.Rows L2
/-- a hull -/
structure Hd (n : Nat) (P : List Pl) : Prop where
  ne : P ≠ []
  ok : AllOk n P
  fix : hullP P = P
theorem hullP_ne' {n : Nat} {S : List Pl} (hS : AllOk n S) (h0 : S ≠ []) : hullP S ≠ [] := fun e => (plate_of hS h0).ne (by rw [e]; rfl)
theorem hull_far {n : Nat} {S : List Pl} (hS : AllOk n S) (h0 : S ≠ []) : FarP (hullP S) S := ((plate_of hS h0).far).trans (srt_far S)
theorem hd_hull {n : Nat} {S : List Pl} (hS : AllOk n S) (h0 : S ≠ []) : Hd n (hullP S) := ⟨hullP_ne' hS h0, hullP_ok hS, hull_unique (hullP_ok hS) hS (hull_far hS h0)⟩
theorem zip_rot (P : List Pl) : P.zip (rot P) = prs (P ++ P.take 1) := by
  match P with
  | [] => rfl
  | p :: r => exact Geo.prs_zip p r p
section
variable {n : Nat} {P : List Pl} (h : Hd n P)
include h
theorem Hd.plate : Geo.Plate ((srt P).map pt) (P.map pt) := by
  have := plate_of h.ok h.ne
  rw [h.fix] at this
  exact this
theorem Hd.nd : P.Nodup := (List.pairwise_map.mp h.plate.nodup).imp fun hab e => hab (by rw [e])
theorem Hd.inj {p q : Pl} (hp : p ∈ P) (hq : q ∈ P) (e : pt p = pt q) : p = q := pt_inj (h.ok p hp) (h.ok q hq) e
theorem Hd.mem {p : Pl} (hp : p ∈ P) : pt p ∈ (srt P).map pt := List.mem_map_of_mem (srt_mem.mpr hp)
theorem Hd.edge {e : Pl × Pl} (he : e ∈ nbrs P) : 2 ≤ P.length ∧ (pt e.1, pt e.2) ∈ prs (P.map pt ++ (P.map pt).take 1) := by
  obtain ⟨h1, h2⟩ := List.mem_filter.mp he
  rw [zip_rot] at h1
  refine ⟨?_, ?_⟩
  · match P, h1 with
    | [p], h1 =>
      have : e = (p, p) := by simpa [prs] using h1
      rw [this] at h2
      simp at h2
    | _ :: _ :: _, _ => simp
  · rw [← List.map_take, ← List.map_append, Geo.prs_map]
    exact List.mem_map.mpr ⟨e, h1, rfl⟩
theorem Hd.edge' (h2 : 2 ≤ P.length) {d : P2 × P2} (hd : d ∈ prs (P.map pt ++ (P.map pt).take 1)) : ∃ e ∈ nbrs P, d = (pt e.1, pt e.2) := by
  have g := h.plate.edge (by rw [List.length_map]; exact h2) d hd
  rw [← List.map_take, ← List.map_append, Geo.prs_map] at hd
  obtain ⟨e, he, rfl⟩ := List.mem_map.mp hd
  refine ⟨e, List.mem_filter.mpr ⟨by rw [zip_rot]; exact he, ?_⟩, rfl⟩
  simp only [Bool.not_eq_true', decide_eq_false_iff_not]
  exact fun x => g.1 (by rw [x])
theorem Hd.left {e : Pl × Pl} (he : e ∈ nbrs P) {p : Pl} (hp : p ∈ P) : 0 ≤ cr (pt e.1) (pt e.2) (pt p) := by
  obtain ⟨a, b⟩ := h.edge he
  exact (h.plate.edge (by rw [List.length_map]; exact a) _ b).2.2.2 _ (h.mem hp)
theorem Hd.strict {e : Pl × Pl} (he : e ∈ nbrs P) {p : Pl} (hp : p ∈ P) (n1 : p ≠ e.1) (n2 : p ≠ e.2) : 0 < cr (pt e.1) (pt e.2) (pt p) := by
  obtain ⟨a, b⟩ := h.edge he
  obtain ⟨m1, m2, _⟩ := nbrs_mem he
  exact h.plate.strict (by rw [List.length_map]; exact a) b (List.mem_map_of_mem hp) (fun x => n1 (h.inj hp m1 x)) fun x => n2 (h.inj hp m2 x)
end
/-- the direction of a side is its outer normal -/
theorem towards_rp {m n : Nat} {p q : Pl} (hp : PlOk m p) (hq : PlOk n q) (hne : p ≠ q) : ∃ k : Rat, 0 < k ∧ rp (towards p q) = (k * ((pt q).1 - (pt p).1), k * ((pt q).2 - (pt p).2)) := by
  obtain ⟨e, d⟩ := pt_apart hp.dp hq.dp
  have ne := apart_ne hp hq hne
  obtain ⟨d1, d2⟩ := gcd2_dvd (apart q p).1 (apart q p).2.1
  have g0 := gcd2_ne ne
  have gr : (0 : Rat) < (((apart q p).1.natAbs.gcd (apart q p).2.1.natAbs : Nat) : Int) := rpos (by omega)
  have e1 := fdiv_rat d1 g0
  have e2 := fdiv_rat d2 g0
  have dr := rne d
  have x1 : ((apart q p).1 : Rat) / (apart q p).2.2 = _ := congrArg Prod.fst e
  have y1 : ((apart q p).2.1 : Rat) / (apart q p).2.2 = _ := congrArg Prod.snd e
  refine ⟨((apart q p).2.2 : Rat) / (((apart q p).1.natAbs.gcd (apart q p).2.1.natAbs : Nat) : Int), by rw [Rat.div_def]; exact Geo.mul_ps (rpos d) (Rat.inv_pos.mpr gr), ?_⟩
  dsimp only at x1 y1
  rw [← x1, ← y1]
  have hg : ((((apart q p).1.natAbs.gcd (apart q p).2.1.natAbs : Nat) : Int) : Rat) ≠ 0 := by grind
  refine Prod.ext ?_ ?_
  · show (((apart q p).1.fdiv _ : Int) : Rat) = _
    simp only [Rat.div_def]
    grind
  · show (((apart q p).2.1.fdiv _ : Int) : Rat) = _
    simp only [Rat.div_def]
    grind
theorem side_rp {m n : Nat} {e : Pl × Pl} (hp : PlOk m e.1) (hq : PlOk n e.2) (hne : e.1 ≠ e.2) : ∃ k : Rat, 0 < k ∧ rp (sideOf e).1 = (k * (outN (pt e.1, pt e.2)).1, k * (outN (pt e.1, pt e.2)).2) := by
  obtain ⟨k, hk, e'⟩ := towards_rp hp hq hne
  refine ⟨k, hk, ?_⟩
  have a := congrArg Prod.fst e'
  have b := congrArg Prod.snd e'
  dsimp only [rp] at a b
  unfold sideOf back quarter rp outN
  dsimp only
  rw [Int.neg_neg, Rat.intCast_neg, a, b]
  refine Prod.ext rfl ?_
  show -(k * _) = k * _
  grind
section
variable {n : Nat} {P : List Pl} (h : Hd n P)
include h
/-- both ends of a side are farthest along its normal -/
theorem Hd.side_mx {e : Pl × Pl} (he : e ∈ nbrs P) : Mx P (sideOf e).1 e.1 ∧ Mx P (sideOf e).1 e.2 := by
  obtain ⟨m1, m2, ne⟩ := nbrs_mem he
  obtain ⟨k, hk, ek⟩ := side_rp (h.ok _ m1) (h.ok _ m2) ne
  obtain ⟨a, b⟩ := h.edge he
  obtain ⟨t1, t2⟩ := h.plate.side_top (by rw [List.length_map]; exact a) b hk ek
  exact ⟨⟨m1, fun s hs => t1.2 _ (h.mem hs)⟩, ⟨m2, fun s hs => t2.2 _ (h.mem hs)⟩⟩
/-- nothing else is -/
theorem Hd.side_only {e : Pl × Pl} (he : e ∈ nbrs P) {x : Pl} (mx : Mx P (sideOf e).1 x) : x = e.1 ∨ x = e.2 := by
  obtain ⟨m1, m2, ne⟩ := nbrs_mem he
  obtain ⟨k, hk, ek⟩ := side_rp (h.ok _ m1) (h.ok _ m2) ne
  by_cases c1 : x = e.1
  · exact .inl c1
  · by_cases c2 : x = e.2
    · exact .inr c2
    · exfalso
      have s := h.strict he mx.1 c1 c2
      have t := mx.2 _ m1
      have du : ∀ s, dot (rp (sideOf e).1) s = k * dot (outN (pt e.1, pt e.2)) s := fun s => by rw [ek]; unfold dot; grind
      rw [du, du, Geo.outN_dot (pt e.1, pt e.2) (pt x)] at t
      have := Geo.mul_ps hk s
      grind
theorem Hd.side_eq {e e' : Pl × Pl} (he : e ∈ nbrs P) (he' : e' ∈ nbrs P) (eq : (sideOf e').1 = (sideOf e).1) : e' = e := by
  obtain ⟨t1, t2⟩ := h.side_mx he'
  rw [eq] at t1 t2
  have c1 := h.side_only he t1
  have c2 := h.side_only he t2
  obtain ⟨m1, m2, ne⟩ := nbrs_mem he
  obtain ⟨m1', m2', ne'⟩ := nbrs_mem he'
  obtain ⟨a, b⟩ := e
  obtain ⟨c, d⟩ := e'
  dsimp only at *
  rcases c1 with c1 | c1 <;> rcases c2 with c2 | c2
  · exact absurd (c1.trans c2.symm) ne'
  · rw [c1, c2]
  · exfalso
    rw [c1] at m1' ne' eq; rw [c2] at m2' ne' eq
    obtain ⟨k, hk, ek⟩ := side_rp (e := (a, b)) (h.ok _ m1) (h.ok _ m2) ne
    obtain ⟨l, hl, el⟩ := side_rp (e := (b, a)) (h.ok _ m1') (h.ok _ m2') ne'
    rw [eq, ek] at el
    unfold outN at el
    dsimp only at el
    have x := congrArg Prod.fst el
    have y := congrArg Prod.snd el
    dsimp only at x y
    have kl : 0 < k + l := by grind
    have x' : (k + l) * ((pt b).2 - (pt a).2) = 0 := by grind
    have y' : (k + l) * ((pt b).1 - (pt a).1) = 0 := by grind
    have x2 := (Rat.mul_eq_zero.mp x').resolve_left (by grind)
    have y2 := (Rat.mul_eq_zero.mp y').resolve_left (by grind)
    exact ne (h.inj m1 m2 (Prod.ext (by grind) (by grind)))
  · exact absurd (c1.trans c2.symm) ne'
theorem Hd.far {s : Pr × Pl × Pl} (hs : s ∈ sidesP P) : farthestP P s.1 = [s.2.1, s.2.2] := by
  obtain ⟨e, he, rfl⟩ := List.mem_map.mp hs
  unfold farthestP
  cases c : (sidesP P).find? fun s => decide (s.1 = (sideOf e).1) with
  | none =>
    have := List.find?_eq_none.mp c (sideOf e) hs
    simp at this
  | some t =>
    have h1 := List.mem_of_find?_eq_some c
    have h2 := List.find?_some c
    obtain ⟨e', he', rfl⟩ := List.mem_map.mp h1
    have := h.side_eq he he' (of_decide_eq_true h2)
    rw [this]
theorem Hd.met {s : Pr × Pl × Pl} (hs : s ∈ sidesP P) : isMet P (halfL s.1 s.2.1) = true := by
  obtain ⟨e, he, rfl⟩ := List.mem_map.mp hs
  obtain ⟨m1, m2, ne⟩ := nbrs_mem he
  have hu := side_ok h.ok he
  obtain ⟨k, hk, ek⟩ := halfL_depth hu (h.ok _ m1)
  refine List.any_eq_true.mpr ⟨e.1, m1, decide_eq_true ?_⟩
  exact (nn_depth (ek e.1 (h.ok _ m1).dp) hk (rpos (h.ok _ m1).pos)).1.mpr (by grind)
theorem Hd.top {s : Pr × Pl × Pl} (hs : s ∈ sidesP P) : topP P s.1 = height s.1 s.2.2 := by
  obtain ⟨e, he, rfl⟩ := List.mem_map.mp hs
  obtain ⟨m1, m2, ne⟩ := nbrs_mem he
  exact ((top_mx (side_ok h.ok he) h.ne h.ok m2).mpr (h.side_mx he).2).symm
end
end PH

set_option Elab.async false
set_option linter.all false
set_option maxRecDepth 100000
set_option maxHeartbeats 1000000
namespace PH
open Geo (P2 cr dot prs outN)
open PySem PySem.Spec PyProof.Rows L2
theorem HfOk.mono {m n : Nat} {h : Pl} (k : HfOk m h) (l : m ≤ n) : HfOk n h := ⟨k.a.mono l, k.b.mono l, k.c.mono l, k.ne⟩
theorem first_irr {n : Nat} {p : Pl} (h : PlOk n p) : comesFirst p p = false := by
  cases c : comesFirst p p with
  | false => rfl
  | true => exact absurd ((first_lt h.dp h.dp).mp c) (Geo.lt_irrefl _)
theorem once_perm {ps : List Pl} (h : ps.Nodup) : (srt ps).length = ps.length := by
  unfold srt
  rw [List.length_mergeSort, once_id h]
section
variable {n : Nat} {P : List Pl} (h : Hd n P)
include h
theorem Hd.two {a b : Pl} (e : P = [a, b]) : Geo.lt (pt a) (pt b) := by
  have hl := once_perm h.nd
  have hs := srt_asc h.ok
  have hf := hullP_pt h.ok
  rw [h.fix] at hf
  rw [e] at hl hs hf
  match hx : srt [a, b], hl with
  | [x, y], _ =>
    rw [hx] at hs hf
    have hxy : Geo.lt (pt x) (pt y) := by simpa using hs
    have e2 : Geo.hullA ([x, y].map pt) = [pt x, pt y] := rfl
    rw [e2] at hf
    injection hf with f1 f2
    injection f2 with f2 _
    rw [f1, f2]
    exact hxy
theorem Hd.mid {s : Pr × Pl × Pl} (hs : s ∈ sidesP P) : hasPlace P (midP s.2.1 s.2.2) = true := by
  obtain ⟨e, he, rfl⟩ := List.mem_map.mp hs
  obtain ⟨m1, m2, ne⟩ := nbrs_mem he
  obtain ⟨l2, _⟩ := h.edge he
  show hasPlace P (midP e.1 e.2) = true
  obtain ⟨em, dm⟩ := pt_mid (h.ok _ m1).dp (h.ok _ m2).dp
  unfold hasPlace
  rw [Bool.and_eq_true_iff]
  constructor
  · rw [List.all_eq_true]
    intro d hd
    obtain ⟨k1, k2, _⟩ := nbrs_mem hd
    refine decide_eq_true ((turn_nn (h.ok _ k1).dp (h.ok _ k2).dp dm).mpr ?_)
    have a := h.left hd m1
    have b := h.left hd m2
    rw [em]
    unfold cr at *
    dsimp only
    grind
  · rw [Bool.or_eq_true_iff]
    by_cases c : 2 < P.length
    · exact .inl (decide_eq_true c)
    · right
      obtain ⟨a, b, eP⟩ : ∃ a b, P = [a, b] := by
        match P, l2, c with
        | [a, b], _, _ => exact ⟨a, b, rfl⟩
        | a :: b :: c :: r, _, h => simp at h
      have lab := h.two eP
      have ha : a ∈ P := by rw [eP]; simp
      have hb : b ∈ P := by rw [eP]; simp
      have em' : pt (midP e.1 e.2) = (((pt a).1 + (pt b).1) / 2, ((pt a).2 + (pt b).2) / 2) := by
        rw [em]
        rw [eP] at m1 m2
        simp only [List.mem_cons, List.not_mem_nil, or_false] at m1 m2
        rcases m1 with x | x <;> rcases m2 with y | y
        · exact absurd (x.trans y.symm) ne
        · rw [x, y]
        · rw [x, y]
          refine Prod.ext ?_ ?_ <;> dsimp only <;> grind
        · exact absurd (x.trans y.symm) ne
      rw [Bool.and_eq_true_iff, Bool.not_eq_true', Bool.not_eq_true', eP]
      constructor
      · rw [Bool.eq_false_iff]
        intro z
        have z := (first_lt dm (h.ok a ha).dp).mp z
        rw [em'] at z
        unfold Geo.lt at *
        dsimp only at z
        grind
      · rw [Bool.eq_false_iff]
        intro z
        have z := (first_lt (h.ok b hb).dp dm).mp z
        rw [em'] at z
        unfold Geo.lt at *
        dsimp only at z
        grind
/-- the borders of a plate hold it -/
theorem Hd.border {b : Pl} (hb : b ∈ bordersP P) : HfOk (3 * n + 2) b ∧ ∀ p ∈ P, 0 ≤ depth b p := by
  rcases List.mem_append.mp hb with hb | hb
  · obtain ⟨s, hs, rfl⟩ := List.mem_map.mp hb
    obtain ⟨e, he, rfl⟩ := List.mem_map.mp hs
    obtain ⟨m1, m2, ne⟩ := nbrs_mem he
    have hu := side_ok h.ok he
    refine ⟨?_, fun p hp => ?_⟩
    · have := facing_ok (halfAt_ok hu (h.ok _ m1))
      rw [show 3 * n + 2 = n + n + 1 + n + 1 by omega]
      exact this
    · obtain ⟨k, hk, ek⟩ := halfAt_depth hu (h.ok _ m1)
      have mx := (h.side_mx he).1.2 p hp
      rw [facing_depth]
      have nd := nn_depth (ek p (h.ok p hp).dp) hk (rpos (h.ok p hp).pos)
      have : ¬ 0 < depth (halfAt (sideOf e).1 (sideOf e).2.1) p := fun z => by
        have e1 := ek p (h.ok p hp).dp
        have : 0 < ((depth (halfAt (sideOf e).1 e.1) p : Int) : Rat) := rpos z
        rw [e1] at this
        have q := (pos_mul (Geo.mul_ps hk (rpos (h.ok p hp).pos))).mp this
        grind
      omega
  · match P, hb, h with
    | [a, c], hb, h =>
      have hab : a ≠ c := by have := h.nd; simpa using this
      have ha := h.ok a (by simp)
      have hc := h.ok c (by simp)
      have tw := towards_ok ha hc hab
      obtain ⟨k, hk, ek⟩ := towards_rp ha hc hab
      have x := congrArg Prod.fst ek
      have y := congrArg Prod.snd ek
      dsimp only [rp] at x y
      have sq : 0 ≤ ((pt c).1 - (pt a).1) * ((pt c).1 - (pt a).1) + ((pt c).2 - (pt a).2) * ((pt c).2 - (pt a).2) := by
        have : ∀ z : Rat, 0 ≤ z * z := fun z => by
          by_cases c : 0 ≤ z
          · exact Geo.mul_nn c c
          · have := Geo.mul_nn (show 0 ≤ -z by grind) (show 0 ≤ -z by grind)
            grind
        have z1 := this ((pt c).1 - (pt a).1)
        have z2 := this ((pt c).2 - (pt a).2)
        grind
      have kq := Geo.mul_nn (Rat.le_of_lt hk) sq
      have hb : b = halfAt (towards a c) a ∨ b = halfAt (back (towards a c)) c := by simpa [endsB] using hb
      rcases hb with rfl | rfl
      · refine ⟨(halfAt_ok tw ha).mono (by omega), fun p hp => ?_⟩
        obtain ⟨l, hl, el⟩ := halfAt_depth tw ha
        have hp' := h.ok p hp
        refine (nn_depth (el p hp'.dp) hl (rpos hp'.pos)).1.mpr ?_
        unfold dot rp
        dsimp only
        rw [x, y]
        rcases List.mem_cons.mp hp with rfl | hp
        · grind
        · obtain rfl := List.mem_singleton.mp hp
          grind
      · refine ⟨(halfAt_ok (back_ok tw) hc).mono (by omega), fun p hp => ?_⟩
        obtain ⟨l, hl, el⟩ := halfAt_depth (back_ok tw) hc
        have hp' := h.ok p hp
        refine (nn_depth (el p hp'.dp) hl (rpos hp'.pos)).1.mpr ?_
        unfold dot rp back
        dsimp only
        rw [Rat.intCast_neg, Rat.intCast_neg, x, y]
        rcases List.mem_cons.mp hp with rfl | hp
        · grind
        · obtain rfl := List.mem_singleton.mp hp
          grind
/-- cuts that hold a plate leave it -/
theorem Hd.cut_id {m : Nat} (hl : P.length ≤ 64) {b : Pl} (hb : HfOk m b ∧ ∀ p ∈ P, 0 ≤ depth b p) : cutL P b = P ∧ cutP P b = some P := by
  have e1 : P.filter (fun p => decide (0 ≤ depth b p)) = P := List.filter_eq_self.mpr fun p hp => decide_eq_true (hb.2 p hp)
  have e2 : (nbrs P).filterMap (crossP b) = [] := List.filterMap_eq_nil_iff.mpr fun e he => by
    obtain ⟨m1, m2, _⟩ := nbrs_mem he
    unfold crossP
    rw [if_neg (by have := Int.mul_nonneg (hb.2 _ m1) (hb.2 _ m2); omega)]
  have e3 : cutL P b = P := by unfold cutL; rw [e1, e2, List.append_nil]
  refine ⟨e3, ?_⟩
  unfold cutP
  rw [e3, if_neg h.ne, h.fix]
theorem Hd.cuts {m : Nat} (hl : P.length ≤ 64) : ∀ hs : List Pl, (∀ b ∈ hs, HfOk m b ∧ ∀ p ∈ P, 0 ≤ depth b p) → cuts P hs = some P ∧ CutsOk m n P hs
  | [], _ => ⟨rfl, trivial⟩
  | b :: hs, hb => by
    obtain ⟨c1, c2⟩ := h.cut_id hl (hb b List.mem_cons_self)
    obtain ⟨i1, i2⟩ := Hd.cuts hl hs fun b' h' => hb b' (List.mem_cons_of_mem _ h')
    refine ⟨by unfold PH.cuts; rw [c2]; exact i1, by omega, by rw [c1]; exact hl, (hb b List.mem_cons_self).1, h.ok, fun f' e => ?_⟩
    rw [c2] at e
    obtain rfl := Option.some.inj e
    exact i2
theorem Hd.meet (hl : P.length ≤ 64) : meetP P P = some P := by
  unfold meetP
  split
  · next h1 =>
    obtain ⟨p, eP⟩ : ∃ p, P = [p] := by
      match P, h1 with
      | [p], _ => exact ⟨p, rfl⟩
    have hp := h.ok p (by rw [eP]; simp)
    rw [if_pos]
    subst eP
    have e : nbrs [p] = [] := by simp [nbrs, rot]
    unfold hasPlace
    rw [e]
    simp [first_irr hp]
  · exact (h.cuts hl (bordersP P) fun b hb => h.border hb).1
theorem Hd.sides_len (h2 : 2 ≤ P.length) : (sidesP P).length = P.length := by
  unfold sidesP
  rw [List.length_map]
  have : nbrs P = P.zip (rot P) := List.filter_eq_self.mpr fun e he => by
    simp only [Bool.not_eq_true', decide_eq_false_iff_not]
    have hp : (pt e.1, pt e.2) ∈ prs (P.map pt ++ (P.map pt).take 1) := by
      rw [zip_rot] at he
      rw [← List.map_take, ← List.map_append, Geo.prs_map]
      exact List.mem_map.mpr ⟨e, he, rfl⟩
    have g := (h.plate.edge (by rw [List.length_map]; exact h2) _ hp).1
    exact fun x => g (by rw [x])
  rw [this, List.length_zip, rot_len]
  omega
theorem Hd.sum : ((insideP P).map (·.2)).sum = if P.length = 1 then 1 else if P.length = 2 then -1 else 1 := by
  have h0 := List.length_pos_iff.mpr h.ne
  unfold insideP
  split
  · simp
  · next h1 =>
    have h2 : 2 ≤ P.length := by omega
    have sl := h.sides_len h2
    have rep : ∀ (L : List Pl) (c : Int), ((L.map fun p => ([p], c)).map (·.2)).sum = L.length * c := by
      intro L c
      induction L with
      | nil => simp
      | cons x L ih =>
        rw [List.map_cons, List.map_cons, List.sum_cons, ih, List.length_cons]
        have : (((L.length + 1 : Nat) : Int)) = (L.length : Int) + 1 := by omega
        rw [this, Int.add_mul]
        omega
    have rep2 : ∀ (L : List (Pr × Pl × Pl)), ((L.map fun s => (hullP [s.2.1, s.2.2], (-1 : Int))).map (·.2)).sum = -(L.length : Int) := by
      intro L
      induction L with
      | nil => simp
      | cons x L ih =>
        rw [List.map_cons, List.map_cons, List.sum_cons, ih, List.length_cons]
        omega
    by_cases h3 : 2 < P.length
    · rw [if_pos h3, if_pos h3, if_neg (by omega), List.map_append, List.map_append, List.sum_append, List.sum_append, rep, rep2, sl]
      simp
      omega
    · rw [if_neg h3, if_neg h3, if_pos (by omega), List.map_append, List.map_append, List.sum_append, List.sum_append, rep]
      simp
      omega
/-- a hull is told right -/
theorem Hd.told (hl : P.length ≤ 64) (hn : n ≤ 400) : Told n P :=
  ⟨h.ne, hl, hn, h.ok, h.nd, h.fix, (h.cuts hl (bordersP P) fun b hb => h.border hb).2, h.meet hl, fun _ hs => h.far hs, fun _ hs => h.met hs, fun _ hs => h.top hs, fun _ hs => h.mid hs, h.sum⟩
end
end PH

set_option Elab.async false
set_option linter.all false
set_option maxRecDepth 100000
set_option maxHeartbeats 1000000
namespace PH
open Geo (P2 cr dot prs outN)
open PySem PySem.Spec PyProof.Rows L2
/-! ### as far out, under maps and sums -/
theorem far_map {S T : List Pl} {f : Pl → Pl} (hf : ∀ u : P2, ∃ u' : P2, ∀ p, p ∈ S ∨ p ∈ T → dot u (pt (f p)) = dot u' (pt p)) (h : FarP S T) : FarP (S.map f) (T.map f) := by
  constructor
  · intro u s hs
    simp only [List.mem_map] at hs
    obtain ⟨_, ⟨p, hp, rfl⟩, rfl⟩ := hs
    obtain ⟨u', e⟩ := hf u
    obtain ⟨t, ht, l⟩ := h.1 u' (pt p) (List.mem_map_of_mem hp)
    obtain ⟨q, hq, rfl⟩ := List.mem_map.mp ht
    exact ⟨pt (f q), List.mem_map_of_mem (List.mem_map_of_mem hq), by rw [e p (.inl hp), e q (.inr hq)]; exact l⟩
  · intro u s hs
    simp only [List.mem_map] at hs
    obtain ⟨_, ⟨p, hp, rfl⟩, rfl⟩ := hs
    obtain ⟨u', e⟩ := hf u
    obtain ⟨t, ht, l⟩ := h.2 u' (pt p) (List.mem_map_of_mem hp)
    obtain ⟨q, hq, rfl⟩ := List.mem_map.mp ht
    exact ⟨pt (f q), List.mem_map_of_mem (List.mem_map_of_mem hq), by rw [e p (.inr hp), e q (.inl hq)]; exact l⟩
def sums (S T : List Pl) : List Pl := S.flatMap fun p => T.map fun q => moved p q
theorem mem_sums {S T : List Pl} {x : Pl} : x ∈ sums S T ↔ ∃ p ∈ S, ∃ q ∈ T, x = moved p q := by
  unfold sums
  simp only [List.mem_flatMap, List.mem_map]
  constructor
  · rintro ⟨p, hp, q, hq, rfl⟩; exact ⟨p, hp, q, hq, rfl⟩
  · rintro ⟨p, hp, q, hq, rfl⟩; exact ⟨p, hp, q, hq, rfl⟩
theorem dot_moved {u : P2} {p q : Pl} (hp : Dp p) (hq : Dp q) : dot u (pt (moved p q)) = dot u (pt p) + dot u (pt q) := by
  rw [(pt_moved hp hq).1]
  unfold dot
  dsimp only
  grind
theorem far_sums {m n : Nat} {S S' T T' : List Pl} (hS : AllOk m S) (hS' : AllOk m S') (hT : AllOk n T) (hT' : AllOk n T') (h : FarP S S') (k : FarP T T') : FarP (sums S T) (sums S' T') := by
  have one : ∀ {S S' T T' : List Pl}, AllOk m S → AllOk m S' → AllOk n T → AllOk n T' → FarP S S' → FarP T T' → ∀ u, ∀ s ∈ (sums S T).map pt, ∃ t ∈ (sums S' T').map pt, dot u s ≤ dot u t := by
    intro S S' T T' hS hS' hT hT' h k u s hs
    obtain ⟨x, hx, rfl⟩ := List.mem_map.mp hs
    obtain ⟨p, hp, q, hq, rfl⟩ := mem_sums.mp hx
    obtain ⟨a, ha, l1⟩ := h.1 u (pt p) (List.mem_map_of_mem hp)
    obtain ⟨b, hb, l2⟩ := k.1 u (pt q) (List.mem_map_of_mem hq)
    obtain ⟨p', hp', rfl⟩ := List.mem_map.mp ha
    obtain ⟨q', hq', rfl⟩ := List.mem_map.mp hb
    refine ⟨pt (moved p' q'), List.mem_map_of_mem (mem_sums.mpr ⟨p', hp', q', hq', rfl⟩), ?_⟩
    rw [dot_moved (hS p hp).dp (hT q hq).dp, dot_moved (hS' p' hp').dp (hT' q' hq').dp]
    grind
  exact ⟨one hS hS' hT hT' h k, one hS' hS hT' hT h.symm k.symm⟩
theorem sums_ok {n : Nat} {S T : List Pl} (h1 : AllOk n S) (h2 : AllOk n T) : AllOk (n + n + 1) (sums S T) := putL_ok h1 h2
theorem sums_ne {S T : List Pl} (h1 : S ≠ []) (h2 : T ≠ []) : sums S T ≠ [] := by
  obtain ⟨p, hp⟩ := List.exists_mem_of_ne_nil S h1
  obtain ⟨q, hq⟩ := List.exists_mem_of_ne_nil T h2
  intro e
  have := mem_sums.mpr ⟨p, hp, q, hq, rfl⟩
  rw [e] at this
  cases this
theorem led_adj {r : Ru} (hr : RuOk r) (u : P2) : ∃ u' : P2, ∀ p, Dp p → dot u (pt (ledPl r p)) = dot u' (pt p) := by
  refine ⟨(u.2 * (1 / r.n), u.1 * ((r.b : Rat) / r.n) + u.2 * ((r.d : Rat) / r.n)), fun p hp => ?_⟩
  rw [(pt_led hr.pos hp).1]
  unfold dot
  dsimp only
  grind
theorem scaled_adj (u : P2) : ∃ u' : P2, ∀ p, Dp p → dot u (pt (scaledN p)) = dot u' (pt p) := by
  refine ⟨(-u.1, -u.2), fun p hp => ?_⟩
  rw [(pt_scaled hp).1]
  unfold dot
  dsimp only
  grind
theorem led_all {n : Nat} {r : Ru} (hr : RuOk r) {S : List Pl} (h : AllOk n S) : AllOk (n + 8) (S.map (ledPl r)) := fun x hx => by
  obtain ⟨p, hp, rfl⟩ := List.mem_map.mp hx
  exact ledPl_ok hr (h p hp)
theorem scaled_all {n : Nat} {S : List Pl} (h : AllOk n S) : AllOk (n + 1) (S.map scaledN) := fun x hx => by
  obtain ⟨p, hp, rfl⟩ := List.mem_map.mp hx
  exact scaled_ok (h p hp)
theorem led_put {n : Nat} {r : Ru} (hr : RuOk r) {S T : List Pl} (hS : AllOk n S) (hT : AllOk n T) (s0 : S ≠ []) (t0 : T ≠ []) : ledP r (putP S T) = putP (ledP r S) (ledP r T) := by
  have a1 := sums_ok hS hT
  have n1 := sums_ne s0 t0
  have lS := led_all hr hS
  have lT := led_all hr hT
  have mS : S.map (ledPl r) ≠ [] := by simpa using s0
  have mT : T.map (ledPl r) ≠ [] := by simpa using t0
  have f1 : FarP ((hullP (sums S T)).map (ledPl r)) ((sums S T).map (ledPl r)) := far_map (fun u => by
    obtain ⟨u', e⟩ := led_adj hr u
    exact ⟨u', fun p hp => e p (hp.elim (fun h => (hullP_ok a1 p h).dp) fun h => (a1 p h).dp)⟩) (hull_far a1 n1)
  have f2 : FarP (sums (hullP (S.map (ledPl r))) (hullP (T.map (ledPl r)))) (sums (S.map (ledPl r)) (T.map (ledPl r))) := far_sums (hullP_ok lS) lS (hullP_ok lT) lT (hull_far lS mS) (hull_far lT mT)
  have f3 : FarP ((sums S T).map (ledPl r)) (sums (S.map (ledPl r)) (T.map (ledPl r))) := by
    have e : ∀ p ∈ S, ∀ q ∈ T, pt (ledPl r (moved p q)) = pt (moved (ledPl r p) (ledPl r q)) := fun p hp q hq => by
      obtain ⟨e1, d1⟩ := pt_moved (hS p hp).dp (hT q hq).dp
      obtain ⟨e2, d2⟩ := pt_led hr.pos (hS p hp).dp
      obtain ⟨e3, d3⟩ := pt_led hr.pos (hT q hq).dp
      rw [(pt_led hr.pos d1).1, (pt_moved d2 d3).1, e1, e2, e3]
      dsimp only
      refine Prod.ext ?_ ?_ <;> dsimp only <;> grind
    refine Geo.Far.of_mem fun x => ?_
    simp only [List.mem_map]
    constructor
    · rintro ⟨_, ⟨y, hy, rfl⟩, rfl⟩
      obtain ⟨p, hp, q, hq, rfl⟩ := mem_sums.mp hy
      exact ⟨_, mem_sums.mpr ⟨_, List.mem_map_of_mem hp, _, List.mem_map_of_mem hq, rfl⟩, (e p hp q hq).symm⟩
    · rintro ⟨y, hy, rfl⟩
      obtain ⟨_, hp, _, hq, rfl⟩ := mem_sums.mp hy
      obtain ⟨p, hp', rfl⟩ := List.mem_map.mp hp
      obtain ⟨q, hq', rfl⟩ := List.mem_map.mp hq
      exact ⟨_, ⟨_, mem_sums.mpr ⟨p, hp', q, hq', rfl⟩, rfl⟩, e p hp' q hq'⟩
  exact hull_unique (led_all hr (hullP_ok a1)) (sums_ok (hullP_ok lS) (hullP_ok lT)) ((f1.trans f3).trans f2.symm)
theorem led_mirror {n : Nat} {r : Ru} (hr : RuOk r) {S : List Pl} (hS : AllOk n S) (s0 : S ≠ []) : ledP r (mirrorP S) = mirrorP (ledP r S) := by
  have lS := led_all hr hS
  have cS := scaled_all hS
  have mS : S.map (ledPl r) ≠ [] := by simpa using s0
  have nS : S.map scaledN ≠ [] := by simpa using s0
  have f1 : FarP ((hullP (S.map scaledN)).map (ledPl r)) ((S.map scaledN).map (ledPl r)) := far_map (fun u => by
    obtain ⟨u', e⟩ := led_adj hr u
    exact ⟨u', fun p hp => e p (hp.elim (fun h => (hullP_ok cS p h).dp) fun h => (cS p h).dp)⟩) (hull_far cS nS)
  have f2 : FarP ((hullP (S.map (ledPl r))).map scaledN) ((S.map (ledPl r)).map scaledN) := far_map (fun u => by
    obtain ⟨u', e⟩ := scaled_adj u
    exact ⟨u', fun p hp => e p (hp.elim (fun h => (hullP_ok lS p h).dp) fun h => (lS p h).dp)⟩) (hull_far lS mS)
  have f3 : FarP ((S.map scaledN).map (ledPl r)) ((S.map (ledPl r)).map scaledN) := by
    have e : ∀ p ∈ S, pt (ledPl r (scaledN p)) = pt (scaledN (ledPl r p)) := fun p hp => by
      obtain ⟨e1, d1⟩ := pt_scaled (hS p hp).dp
      obtain ⟨e2, d2⟩ := pt_led hr.pos (hS p hp).dp
      rw [(pt_led hr.pos d1).1, (pt_scaled d2).1, e1, e2]
      dsimp only
      refine Prod.ext ?_ ?_ <;> dsimp only <;> grind
    unfold FarP
    have : ((S.map scaledN).map (ledPl r)).map pt = ((S.map (ledPl r)).map scaledN).map pt := by
      rw [List.map_map, List.map_map, List.map_map, List.map_map]
      exact List.map_congr_left fun p hp => e p hp
    rw [this]
    exact Geo.Far.of_mem fun _ => Iff.rfl
  exact hull_unique (led_all hr (hullP_ok cS)) (scaled_all (hullP_ok lS)) ((f1.trans f3).trans f2.symm)
/-! ### how many are farthest -/
def Two (S : List Pl) (v : Pr) : Prop := ∃ a b, Mx S v a ∧ Mx S v b ∧ pt a ≠ pt b
theorem mx_ex {m n : Nat} {v : Pr} (hv : DirOk m v) {S : List Pl} (h : AllOk n S) (h0 : S ≠ []) : ∃ x, Mx S v x := let ⟨⟨x, mx, _⟩, _⟩ := top_at hv h0 h; ⟨x, mx⟩
theorem rp_ne {m : Nat} {v : Pr} (h : DirOk m v) : rp v ≠ (0, 0) := fun e => h.ne (by
  have a : (v.1 : Rat) = 0 := congrArg Prod.fst e
  have b : (v.2 : Rat) = 0 := congrArg Prod.snd e
  exact ⟨by exact_mod_cast a, by exact_mod_cast b⟩)
/-- two directions in lowest form, one along the other -/
theorem dir_eq {m n : Nat} {u v : Pr} (hu : DirOk m u) (hv : DirOk n v) {k : Rat} (hk : 0 < k) (e : rp u = (k * (rp v).1, k * (rp v).2)) : u = v := by
  have e1 : (u.1 : Rat) = k * v.1 := congrArg Prod.fst e
  have e2 : (u.2 : Rat) = k * v.2 := congrArg Prod.snd e
  have c : u.1 * v.2 = v.1 * u.2 := by
    have : ((u.1 * v.2 : Int) : Rat) = ((v.1 * u.2 : Int) : Rat) := by
      rw [Rat.intCast_mul, Rat.intCast_mul, e1, e2]
      grind
    exact_mod_cast this
  have key : ∀ {u v : Pr} {m n : Nat}, DirOk m u → DirOk n v → u.1 * v.2 = v.1 * u.2 → u.1.natAbs ∣ v.1.natAbs ∧ u.2.natAbs ∣ v.2.natAbs := by
    intro u v m n hu hv c
    have o := hu.one
    have c' : u.1.natAbs * v.2.natAbs = v.1.natAbs * u.2.natAbs := by rw [← Int.natAbs_mul, c, Int.natAbs_mul]
    constructor
    · exact (Nat.Coprime.dvd_of_dvd_mul_right (show Nat.Coprime u.1.natAbs u.2.natAbs from o) ⟨v.2.natAbs, c'.symm⟩)
    · exact (Nat.Coprime.dvd_of_dvd_mul_left (show Nat.Coprime u.2.natAbs u.1.natAbs from (Nat.gcd_comm _ _).trans o) ⟨v.1.natAbs, by rw [c', Nat.mul_comm]⟩)
  obtain ⟨a1, a2⟩ := key hu hv c
  obtain ⟨b1, b2⟩ := key hv hu c.symm
  have d1 := Nat.dvd_antisymm a1 b1
  have d2 := Nat.dvd_antisymm a2 b2
  have sgn : ∀ {x y : Int}, (x : Rat) = k * y → x.natAbs = y.natAbs → x = y := by
    intro x y h1 h2
    have h3 : 0 < x ↔ 0 < y := by
      have := pos_mul (x := (y : Rat)) hk
      rw [← h1] at this
      exact ⟨fun h => by have := this.mp (rpos h); exact_mod_cast this, fun h => by have := this.mpr (rpos h); exact_mod_cast this⟩
    omega
  exact Prod.ext (sgn e1 d1) (sgn e2 d2)
theorem far_count {m n : Nat} {P : List Pl} (h : Hd n P) {v : Pr} (hv : DirOk m v) : (∀ x ∈ farthestP P v, height v x = topP P v) ∧ ((Two P v → (farthestP P v).length = 2) ∧ (¬ Two P v → (farthestP P v).length = 1)) := by
  cases c : (sidesP P).find? fun s => decide (s.1 = v) with
  | some t =>
    have h1 := List.mem_of_find?_eq_some c
    have h2' := List.find?_some c
    have h2 := of_decide_eq_true h2'
    obtain ⟨e, he, rfl⟩ := List.mem_map.mp h1
    have e0 : farthestP P v = [e.1, e.2] := by unfold farthestP; rw [c]; rfl
    obtain ⟨t1, t2⟩ := h.side_mx he
    rw [h2] at t1 t2
    obtain ⟨m1, m2, ne⟩ := nbrs_mem he
    rw [e0]
    refine ⟨fun x hx => ?_, fun _ => rfl, fun z => absurd ⟨e.1, e.2, t1, t2, fun x => ne (h.inj m1 m2 x)⟩ z⟩
    rcases List.mem_cons.mp hx with rfl | hx
    · exact (top_mx hv h.ne h.ok m1).mpr t1
    · rw [List.mem_singleton.mp hx]; exact (top_mx hv h.ne h.ok m2).mpr t2
  | none =>
    have e0 : farthestP P v = P.filter fun p => decide (height v p = topP P v) := by unfold farthestP; rw [c]
    have nt : ¬ Two P v := by
      rintro ⟨a, b, ma, mb, ne⟩
      have l2 : 2 ≤ P.length := by
        match P, ma.1, mb.1 with
        | [x], ha, hb => rw [List.mem_singleton.mp ha, List.mem_singleton.mp hb] at ne; exact absurd rfl ne
        | _ :: _ :: _, _, _ => simp
      obtain ⟨d, hd, k, hk, ek⟩ := h.plate.top_side (rp_ne hv) (List.mem_map_of_mem ma.1) (List.mem_map_of_mem mb.1) ne (by
        intro s hs; obtain ⟨p, hp, rfl⟩ := List.mem_map.mp hs; exact ma.2 p hp) (by
        intro s hs; obtain ⟨p, hp, rfl⟩ := List.mem_map.mp hs; exact mb.2 p hp)
      obtain ⟨e, he, rfl⟩ := h.edge' l2 hd
      obtain ⟨m1, m2, ne'⟩ := nbrs_mem he
      obtain ⟨l, hl, el⟩ := side_rp (h.ok _ m1) (h.ok _ m2) ne'
      rw [ek] at el
      have : (sideOf e).1 = v := dir_eq (side_ok h.ok he) hv (Geo.mul_ps hl hk) (by rw [el]; refine Prod.ext ?_ ?_ <;> dsimp only <;> grind)
      have z := List.find?_eq_none.mp c (sideOf e) (List.mem_map_of_mem he)
      simp [this] at z
    rw [e0]
    refine ⟨fun x hx => of_decide_eq_true (List.mem_filter.mp hx).2, fun z => absurd z nt, fun _ => ?_⟩
    obtain ⟨x, mx⟩ := mx_ex hv h.ok h.ne
    have e1 : P.filter (fun p => decide (height v p = topP P v)) = P.filter fun p => decide (p = x) := List.filter_congr fun p hp => by
      rw [decide_eq_decide, top_mx hv h.ne h.ok hp]
      constructor
      · intro mp
        by_cases e : p = x
        · exact e
        · exact absurd ⟨p, x, mp, mx, fun z => e (h.inj hp mx.1 z)⟩ nt
      · rintro rfl; exact mx
    rw [e1]
    have nd := h.nd
    have hx := mx.1
    clear e1 e0 c
    have : ∀ P : List Pl, P.Nodup → x ∈ P → (P.filter fun p => decide (p = x)).length = 1 := by
      intro P
      induction P with
      | nil => intro _ h; cases h
      | cons y P ih =>
        intro nd hx
        rw [List.nodup_cons] at nd
        by_cases e : y = x
        · subst e
          rw [List.filter_cons_of_pos (by simp), List.filter_eq_nil_iff.mpr fun z hz => by
            simp only [decide_eq_true_eq]
            intro e
            exact nd.1 (e ▸ hz)]
          rfl
        · rw [List.filter_cons_of_neg (by simpa using e)]
          exact ih nd.2 ((List.mem_cons.mp hx).resolve_left fun z => e z.symm)
    exact this P nd hx
end PH

set_option Elab.async false
set_option linter.all false
set_option maxRecDepth 100000
set_option maxHeartbeats 1000000
namespace PH
open Geo (P2 cr dot prs outN)
open PySem PySem.Spec PyProof.Rows L2
theorem Hd.mono {m n : Nat} {P : List Pl} (h : Hd m P) (l : m ≤ n) : Hd n P := ⟨h.ne, h.ok.mono l, h.fix⟩
theorem nd_len : ∀ (L M : List Pl), L.Nodup → (∀ x ∈ L, x ∈ M) → L.length ≤ M.length
  | [], M, _, _ => Nat.zero_le _
  | x :: L, M, nd, h => by
    rw [List.nodup_cons] at nd
    have hx := h x List.mem_cons_self
    have := nd_len L (M.erase x) nd.2 fun y hy => (List.mem_erase_of_ne (fun e : y = x => nd.1 (e ▸ hy))).mpr (h y (List.mem_cons_of_mem _ hy))
    rw [List.length_erase_of_mem hx] at this
    have := List.length_pos_of_mem hx
    rw [List.length_cons]
    omega
theorem hull_len {n : Nat} {S : List Pl} (hS : AllOk n S) (h0 : S ≠ []) : (hullP S).length ≤ S.length := nd_len _ _ (hd_hull hS h0).nd fun _ hx => hullP_sub hx
section
variable {m n : Nat} {v : Pr} (hv : DirOk m v)
include hv
theorem mx_hull {S : List Pl} (hS : AllOk n S) (h0 : S ≠ []) {a : Pl} (h : Mx (hullP S) v a) : Mx S v a := ⟨hullP_sub h.1, fun s hs => by
  obtain ⟨t, ht, l⟩ := (hull_far hS h0).2 (rp v) (pt s) (List.mem_map_of_mem hs)
  obtain ⟨q, hq, rfl⟩ := List.mem_map.mp ht
  have := h.2 q hq
  grind⟩
theorem two_hull {S : List Pl} (hS : AllOk n S) (h0 : S ≠ []) : Two (hullP S) v ↔ Two S v := by
  constructor
  · rintro ⟨a, b, ha, hb, ne⟩
    exact ⟨a, b, mx_hull hv hS h0 ha, mx_hull hv hS h0 hb, ne⟩
  · rintro ⟨a, b, ha, hb, ne⟩
    apply Classical.byContradiction
    intro nt
    have hd := hd_hull hS h0
    obtain ⟨x, mx⟩ := mx_ex hv hd.ok hd.ne
    have ex : Geo.Expo ((hullP S).map pt) (rp v) (pt x) := ⟨List.mem_map_of_mem mx.1, fun s hs nx => by
      obtain ⟨p, hp, rfl⟩ := List.mem_map.mp hs
      have l := mx.2 p hp
      by_cases c : dot (rp v) (pt p) < dot (rp v) (pt x)
      · exact c
      · exact absurd ⟨p, x, ⟨hp, fun s hs => by have := mx.2 s hs; grind⟩, mx, nx⟩ nt⟩
    have ex2 := (hull_far hS h0).expo ex
    have hx := (mx_hull hv hS h0 mx).1
    by_cases c : pt a = pt x
    · have := ex2.2 (pt b) (List.mem_map_of_mem hb.1) (fun e => ne (c.trans e.symm))
      have := hb.2 x hx
      grind
    · have := ex2.2 (pt a) (List.mem_map_of_mem ha.1) c
      have := ha.2 x hx
      grind
theorem mx_sums {k : Nat} {S T : List Pl} (hS : AllOk n S) (hT : AllOk k T) {p q : Pl} (hp : p ∈ S) (hq : q ∈ T) : Mx (sums S T) v (moved p q) ↔ Mx S v p ∧ Mx T v q := by
  constructor
  · intro h
    refine ⟨⟨hp, fun s hs => ?_⟩, ⟨hq, fun s hs => ?_⟩⟩
    · have := h.2 _ (mem_sums.mpr ⟨s, hs, q, hq, rfl⟩)
      rw [dot_moved (hS s hs).dp (hT q hq).dp, dot_moved (hS p hp).dp (hT q hq).dp] at this
      grind
    · have := h.2 _ (mem_sums.mpr ⟨p, hp, s, hs, rfl⟩)
      rw [dot_moved (hS p hp).dp (hT s hs).dp, dot_moved (hS p hp).dp (hT q hq).dp] at this
      grind
  · rintro ⟨h1, h2⟩
    refine ⟨mem_sums.mpr ⟨p, hp, q, hq, rfl⟩, fun s hs => ?_⟩
    obtain ⟨a, ha, b, hb, rfl⟩ := mem_sums.mp hs
    rw [dot_moved (hS a ha).dp (hT b hb).dp, dot_moved (hS p hp).dp (hT q hq).dp]
    have := h1.2 a ha
    have := h2.2 b hb
    grind
theorem two_sums {k : Nat} {S T : List Pl} (hS : AllOk n S) (hT : AllOk k T) (s0 : S ≠ []) (t0 : T ≠ []) : Two (sums S T) v ↔ Two S v ∨ Two T v := by
  constructor
  · rintro ⟨x, y, hx, hy, ne⟩
    obtain ⟨p, hp, q, hq, rfl⟩ := mem_sums.mp hx.1
    obtain ⟨a, ha, b, hb, rfl⟩ := mem_sums.mp hy.1
    obtain ⟨x1, x2⟩ := (mx_sums hv hS hT hp hq).mp hx
    obtain ⟨y1, y2⟩ := (mx_sums hv hS hT ha hb).mp hy
    by_cases c : pt p = pt a
    · right
      refine ⟨q, b, x2, y2, fun e => ne ?_⟩
      rw [(pt_moved (hS p hp).dp (hT q hq).dp).1, (pt_moved (hS a ha).dp (hT b hb).dp).1, c, e]
    · exact .inl ⟨p, a, x1, y1, c⟩
  · rintro (⟨a, b, ha, hb, ne⟩ | ⟨a, b, ha, hb, ne⟩)
    · obtain ⟨y, my⟩ := mx_ex hv hT t0
      refine ⟨_, _, (mx_sums hv hS hT ha.1 my.1).mpr ⟨ha, my⟩, (mx_sums hv hS hT hb.1 my.1).mpr ⟨hb, my⟩, fun e => ne ?_⟩
      rw [(pt_moved (hS a ha.1).dp (hT y my.1).dp).1, (pt_moved (hS b hb.1).dp (hT y my.1).dp).1] at e
      have e1 := congrArg Prod.fst e
      have e2 := congrArg Prod.snd e
      dsimp only at e1 e2
      exact Prod.ext (by grind) (by grind)
    · obtain ⟨y, my⟩ := mx_ex hv hS s0
      refine ⟨_, _, (mx_sums hv hS hT my.1 ha.1).mpr ⟨my, ha⟩, (mx_sums hv hS hT my.1 hb.1).mpr ⟨my, hb⟩, fun e => ne ?_⟩
      rw [(pt_moved (hS y my.1).dp (hT a ha.1).dp).1, (pt_moved (hS y my.1).dp (hT b hb.1).dp).1] at e
      have e1 := congrArg Prod.fst e
      have e2 := congrArg Prod.snd e
      dsimp only at e1 e2
      exact Prod.ext (by grind) (by grind)
theorem put_count {P Q : List Pl} (hP : Hd n P) (hQ : Hd n Q) : (farthestP (putP P Q) v).length = max (farthestP P v).length (farthestP Q v).length := by
  have s0 := sums_ne hP.ne hQ.ne
  have so := sums_ok hP.ok hQ.ok
  have hd : Hd (n + n + 1) (putP P Q) := hd_hull so s0
  have t : Two (putP P Q) v ↔ Two P v ∨ Two Q v := (two_hull hv so s0).trans (two_sums hv hP.ok hQ.ok hP.ne hQ.ne)
  obtain ⟨_, a1, a2⟩ := far_count hd hv
  obtain ⟨_, b1, b2⟩ := far_count hP hv
  obtain ⟨_, c1, c2⟩ := far_count hQ hv
  by_cases x : Two P v <;> by_cases y : Two Q v
  · rw [a1 (t.mpr (.inl x)), b1 x, c1 y] <;> rfl
  · rw [a1 (t.mpr (.inl x)), b1 x, c2 y] <;> rfl
  · rw [a1 (t.mpr (.inr y)), b2 x, c1 y] <;> rfl
  · rw [a2 (fun z => (t.mp z).elim x y), b2 x, c2 y] <;> rfl
theorem mirror_top {P : List Pl} (hP : Hd n P) : topP (mirrorP P) v = topP P (back v) := by
  have so := scaled_all hP.ok
  have s0 : P.map scaledN ≠ [] := by simpa using hP.ne
  have hd : Hd (n + 1) (mirrorP P) := hd_hull so s0
  obtain ⟨⟨x, mx, ex⟩, _⟩ := top_at hv hd.ne hd.ok
  obtain ⟨⟨y, my, ey⟩, _⟩ := top_at (back_ok hv) hP.ne hP.ok
  have mx' := mx_hull hv so s0 mx
  obtain ⟨z, hz, rfl⟩ := List.mem_map.mp mx'.1
  have neg : ∀ p, Dp p → dot (rp v) (pt (scaledN p)) = dot (rp (back v)) (pt p) := fun p hp => by
    rw [(pt_scaled hp).1]
    unfold dot rp back
    dsimp only
    rw [Rat.intCast_neg, Rat.intCast_neg]
    grind
  rw [ex, ey]
  refine fr_eq (height_sm hv (so _ mx'.1)) (height_sm (back_ok hv) (hP.ok y my.1)) ?_
  rw [height_hv (so _ mx'.1).dp, height_hv (hP.ok y my.1).dp]
  have a := mx'.2 _ (List.mem_map_of_mem my.1)
  have b := my.2 z hz
  rw [neg _ (hP.ok z hz).dp] at a ⊢
  rw [neg _ (hP.ok y my.1).dp] at a
  grind
end
/-! ### cuts -/
theorem cut_hd {m n : Nat} {h : Pl} {P Q : List Pl} (hh : HfOk m h) (hP : AllOk n P) (e : cutP P h = some Q) : Hd (m + n + n + 3) Q ∧ Q.length ≤ (cutL P h).length := by
  unfold cutP at e
  split at e
  · cases e
  · next h0 =>
    obtain rfl := Option.some.inj e
    exact ⟨hd_hull (cutL_ok hh hP) h0, hull_len (cutL_ok hh hP) h0⟩
theorem cutL_len (P : List Pl) (h : Pl) : (cutL P h).length ≤ 2 * P.length := by
  unfold cutL
  have h1 := List.length_filter_le (fun p => decide (0 ≤ depth h p)) P
  have h2 := List.length_filterMap_le (crossP h) (nbrs P)
  have h3 := nbrs_len P
  rw [List.length_append]
  omega
theorem cuts_seq {m N : Nat} : ∀ (hs : List Pl) (f : List Pl) (b l : Nat), Hd b f → f.length ≤ l → (∀ h ∈ hs, HfOk m h) → l * 2 ^ hs.length ≤ 64 → (b + m + 3) * 2 ^ hs.length ≤ N → CutsOk m N f hs ∧ ∀ Q, cuts f hs = some Q → Hd N Q ∧ Q.length ≤ 64
  | [], f, b, l, hf, hl, _, h1, h2 => by
    simp only [List.length_nil, Nat.pow_zero, Nat.mul_one] at h1 h2
    refine ⟨trivial, fun Q e => ?_⟩
    obtain rfl := Option.some.inj e
    exact ⟨hf.mono (by omega), by omega⟩
  | h :: hs, f, b, l, hf, hl, hh, h1, h2 => by
    have k := hh h List.mem_cons_self
    rw [List.length_cons, Nat.pow_succ] at h1 h2
    have p1 : 1 ≤ 2 ^ hs.length := Nat.one_le_two_pow
    have cl := cutL_len f h
    have q1 : l * (2 ^ hs.length * 2) = (2 * l) * 2 ^ hs.length := by grind
    have q2 : (b + m + 3) * (2 ^ hs.length * 2) = (m + b + b + 3 + m + 3) * 2 ^ hs.length := by grind
    rw [q1] at h1
    rw [q2] at h2
    have r1 : 2 * l ≤ 2 * l * 2 ^ hs.length := Nat.le_mul_of_pos_right _ (by omega)
    have r2 : (m + b + b + 3 + m + 3) ≤ (m + b + b + 3 + m + 3) * 2 ^ hs.length := Nat.le_mul_of_pos_right _ (by omega)
    have rc : ∀ f', cutP f h = some f' → CutsOk m N f' hs ∧ ∀ Q, cuts f' hs = some Q → Hd N Q ∧ Q.length ≤ 64 := fun f' e => by
      obtain ⟨a1, a2⟩ := cut_hd k hf.ok e
      exact cuts_seq hs f' (m + b + b + 3) (2 * l) a1 (by omega) (fun x hx => hh x (List.mem_cons_of_mem _ hx)) h1 h2
    refine ⟨⟨by omega, by omega, k, hf.ok.mono (by omega), fun f' e => (rc f' e).1⟩, fun Q e => ?_⟩
    unfold cuts at e
    cases c : cutP f h with
    | none => rw [c] at e; cases e
    | some f' =>
      rw [c] at e
      exact (rc f' c).2 Q e
theorem borders_len {n : Nat} {P : List Pl} (h : Hd n P) (hl : P.length ≤ 4) : (bordersP P).length ≤ 4 := by
  unfold bordersP
  rw [List.length_append, List.length_map]
  have h1 : (sidesP P).length ≤ P.length := by unfold sidesP; rw [List.length_map]; exact nbrs_len P
  by_cases c : P.length = 2
  · have : (endsB P).length = 2 := by
      match P, c with
      | [a, b], _ => rfl
    omega
  · have : endsB P = [] := by
      match P, c with
      | [], _ => rfl
      | [a], _ => rfl
      | [a, b], h => exact absurd rfl h
      | a :: b :: c :: r, _ => rfl
    rw [this]
    simp
    omega
theorem met_some (P : List Pl) {n : Nat} (hP : AllOk n P) (h : Pl) : isMet P h = (cutP P h).isSome := by
  unfold isMet cutP
  by_cases c : ∃ p ∈ P, 0 ≤ depth h p
  · obtain ⟨p, hp, k⟩ := c
    rw [List.any_eq_true.mpr ⟨p, hp, decide_eq_true k⟩, if_neg]
    · rfl
    · intro e
      have : p ∈ cutL P h := List.mem_append_left _ (List.mem_filter.mpr ⟨hp, decide_eq_true k⟩)
      rw [e] at this
      cases this
  · have neg : ∀ p ∈ P, depth h p < 0 := fun p hp => Int.not_le.mp fun k => c ⟨p, hp, k⟩
    have e1 : P.filter (fun p => decide (0 ≤ depth h p)) = [] := List.filter_eq_nil_iff.mpr fun p hp => by have := neg p hp; simp; omega
    have e2 : (nbrs P).filterMap (crossP h) = [] := List.filterMap_eq_nil_iff.mpr fun e he => by
      obtain ⟨m1, m2, _⟩ := nbrs_mem he
      unfold crossP
      rw [if_neg (by have := Int.mul_pos_of_neg_of_neg (neg _ m1) (neg _ m2); omega)]
    have e3 : cutL P h = [] := by unfold cutL; rw [e1, e2]; rfl
    rw [if_pos e3]
    rw [show (P.any fun p => decide (0 ≤ depth h p)) = false from List.any_eq_false.mpr fun p hp => by have := neg p hp; simp; omega]
    rfl
end PH

set_option Elab.async false
set_option linter.all false
set_option maxRecDepth 100000
set_option maxHeartbeats 4000000
namespace PH
open Geo (P2 cr dot prs outN)
open PySem PySem.Spec PyProof.Rows L2
def holds (b : Pl) : Bool := decide (0 ≤ depth b (0, 0, 1)) && decide (0 ≤ depth b (3, 0, 1)) && decide (0 ≤ depth b (3, 3, 1)) && decide (0 ≤ depth b (0, 3, 1))
def smB (n : Nat) (x : Int) : Bool := decide (x.natAbs < 2 ^ n)
def plB (p : Pl) : Bool := smB 40 p.1 && smB 40 p.2.1 && smB 40 p.2.2 && decide (0 < p.2.2) && decide (gcd3 p.1 p.2.1 p.2.2 = 1)
def hfB (h : Pl) : Bool := smB 122 h.1 && smB 122 h.2.1 && smB 122 h.2.2 && !(decide (h.1 = 0) && decide (h.2.1 = 0))
def nodB : List Pl → Bool
  | [] => true
  | p :: r => !r.any (fun q => decide (q = p)) && nodB r
def checkG (h : Pl) : Bool := decide (2 ≤ (greatL h).length) && decide ((greatL h).length ≤ 20) && nodB (greatL h) && (greatL h).all plB && (bordersP (greatL h)).all (fun b => hfB b && (decide (b = h) || holds b)) && ((bordersP (greatL h)).any (fun b => decide (b = h)) || holds h)
def allU : List Pr := [(-2, 1), (-2, 3), (-1, 1), (-1, 2), (-1, 3), (0, 1), (1, 1), (1, 2), (1, 3), (2, 1), (2, 3)]
def ptsE (e : Nat) : List Pl := (List.range (3 * e + 1)).flatMap fun x : Nat => (List.range (3 * e + 1)).map fun y : Nat => mkPl (x : Int) (y : Int) (e : Int)
def allP : List Pl := ptsE 1 ++ ptsE 2 ++ ptsE 3
def okU (u : Pr) (ps : List Pl) : Bool := ps.all fun p => checkG (halfL u p)
theorem ok0a : okU (-2, 1) (ptsE 1 ++ ptsE 2) = true := by decide +kernel
theorem ok0b : okU (-2, 1) ((ptsE 3).take 50) = true := by decide +kernel
theorem ok0c : okU (-2, 1) ((ptsE 3).drop 50) = true := by decide +kernel
theorem ok1a : okU (-2, 3) (ptsE 1 ++ ptsE 2) = true := by decide +kernel
theorem ok1b : okU (-2, 3) ((ptsE 3).take 50) = true := by decide +kernel
theorem ok1c : okU (-2, 3) ((ptsE 3).drop 50) = true := by decide +kernel
theorem ok2a : okU (-1, 1) (ptsE 1 ++ ptsE 2) = true := by decide +kernel
theorem ok2b : okU (-1, 1) ((ptsE 3).take 50) = true := by decide +kernel
theorem ok2c : okU (-1, 1) ((ptsE 3).drop 50) = true := by decide +kernel
theorem ok3a : okU (-1, 2) (ptsE 1 ++ ptsE 2) = true := by decide +kernel
theorem ok3b : okU (-1, 2) ((ptsE 3).take 50) = true := by decide +kernel
theorem ok3c : okU (-1, 2) ((ptsE 3).drop 50) = true := by decide +kernel
theorem ok4a : okU (-1, 3) (ptsE 1 ++ ptsE 2) = true := by decide +kernel
theorem ok4b : okU (-1, 3) ((ptsE 3).take 50) = true := by decide +kernel
theorem ok4c : okU (-1, 3) ((ptsE 3).drop 50) = true := by decide +kernel
theorem ok5a : okU (0, 1) (ptsE 1 ++ ptsE 2) = true := by decide +kernel
theorem ok5b : okU (0, 1) ((ptsE 3).take 50) = true := by decide +kernel
theorem ok5c : okU (0, 1) ((ptsE 3).drop 50) = true := by decide +kernel
theorem ok6a : okU (1, 1) (ptsE 1 ++ ptsE 2) = true := by decide +kernel
theorem ok6b : okU (1, 1) ((ptsE 3).take 50) = true := by decide +kernel
theorem ok6c : okU (1, 1) ((ptsE 3).drop 50) = true := by decide +kernel
theorem ok7a : okU (1, 2) (ptsE 1 ++ ptsE 2) = true := by decide +kernel
theorem ok7b : okU (1, 2) ((ptsE 3).take 50) = true := by decide +kernel
theorem ok7c : okU (1, 2) ((ptsE 3).drop 50) = true := by decide +kernel
theorem ok8a : okU (1, 3) (ptsE 1 ++ ptsE 2) = true := by decide +kernel
theorem ok8b : okU (1, 3) ((ptsE 3).take 50) = true := by decide +kernel
theorem ok8c : okU (1, 3) ((ptsE 3).drop 50) = true := by decide +kernel
theorem ok9a : okU (2, 1) (ptsE 1 ++ ptsE 2) = true := by decide +kernel
theorem ok9b : okU (2, 1) ((ptsE 3).take 50) = true := by decide +kernel
theorem ok9c : okU (2, 1) ((ptsE 3).drop 50) = true := by decide +kernel
theorem ok10a : okU (2, 3) (ptsE 1 ++ ptsE 2) = true := by decide +kernel
theorem ok10b : okU (2, 3) ((ptsE 3).take 50) = true := by decide +kernel
theorem ok10c : okU (2, 3) ((ptsE 3).drop 50) = true := by decide +kernel
theorem okP {u : Pr} (a : okU u (ptsE 1 ++ ptsE 2) = true) (b : okU u ((ptsE 3).take 50) = true) (c : okU u ((ptsE 3).drop 50) = true) : (allP.all fun p => checkG (halfL u p)) = true := by
  have e : ptsE 3 = (ptsE 3).take 50 ++ (ptsE 3).drop 50 := (List.take_append_drop 50 _).symm
  have d : (ptsE 3).all (fun p => checkG (halfL u p)) = true := by
    rw [e, List.all_append]
    exact Bool.and_eq_true_iff.mpr ⟨b, c⟩
  unfold allP
  rw [List.all_append]
  exact Bool.and_eq_true_iff.mpr ⟨a, d⟩
theorem all_ok : (allU.all fun u => allP.all fun p => checkG (halfL u p)) = true := by
  refine List.all_eq_true.mpr fun u hu => ?_
  unfold allU at hu
  simp only [List.mem_cons, List.not_mem_nil, or_false] at hu
  rcases hu with rfl | rfl | rfl | rfl | rfl | rfl | rfl | rfl | rfl | rfl | rfl
  · exact okP ok0a ok0b ok0c
  · exact okP ok1a ok1b ok1c
  · exact okP ok2a ok2b ok2c
  · exact okP ok3a ok3b ok3c
  · exact okP ok4a ok4b ok4c
  · exact okP ok5a ok5b ok5c
  · exact okP ok6a ok6b ok6c
  · exact okP ok7a ok7b ok7c
  · exact okP ok8a ok8b ok8c
  · exact okP ok9a ok9b ok9c
  · exact okP ok10a ok10b ok10c
theorem dir_mem : ∀ a ∈ [-2, -1, 0, 1, 2], ∀ b ∈ [1, 2, 3], mkDir a b ∈ allU := by decide +kernel
theorem pool_mem {p : Pl} (h : Pool p) : p ∈ allP := by
  obtain ⟨x, y, e, he, h1, h2, h3, h4, rfl⟩ := h
  have key : ∀ k : Nat, e = k → mkPl x y e ∈ ptsE k := fun k ek => List.mem_flatMap.mpr ⟨x.toNat, List.mem_range.mpr (by omega), List.mem_map.mpr ⟨y.toNat, List.mem_range.mpr (by omega), by
    rw [Int.toNat_of_nonneg h1, Int.toNat_of_nonneg h3, ek]⟩⟩
  unfold allP
  simp only [List.mem_append]
  rcases he with e1 | e1 | e1
  · exact .inl (.inl (key 1 e1))
  · exact .inl (.inr (key 2 e1))
  · exact .inr (key 3 e1)
structure GC (h : Pl) : Prop where
  l2 : 2 ≤ (greatL h).length
  l20 : (greatL h).length ≤ 20
  nd : (greatL h).Nodup
  ok : AllOk 40 (greatL h)
  b : ∀ b ∈ bordersP (greatL h), HfOk 122 b ∧ (b = h ∨ holds b = true)
  h : h ∈ bordersP (greatL h) ∨ holds h = true
theorem nodB_nd : ∀ {l : List Pl}, nodB l = true → l.Nodup
  | [], _ => List.nodup_nil
  | p :: r, h => by
    unfold nodB at h
    rw [Bool.and_eq_true_iff, Bool.not_eq_true', List.any_eq_false] at h
    exact List.nodup_cons.mpr ⟨fun hp => by have := h.1 p hp; simp at this, nodB_nd h.2⟩
theorem gc_of {h : Pl} (c : checkG h = true) : GC h := by
  unfold checkG at c
  simp only [Bool.and_eq_true_iff] at c
  obtain ⟨⟨⟨⟨⟨a1, a2⟩, a3⟩, a4⟩, a5⟩, a6⟩ := c
  refine ⟨of_decide_eq_true a1, of_decide_eq_true a2, nodB_nd a3, fun p hp => ?_, fun b hb => ?_, ?_⟩
  · have := List.all_eq_true.mp a4 p hp
    unfold plB smB at this
    simp only [Bool.and_eq_true_iff, decide_eq_true_eq] at this
    obtain ⟨⟨⟨⟨b1, b2⟩, b3⟩, b4⟩, b5⟩ := this
    exact ⟨b1, b2, b3, b4, b5⟩
  · have := List.all_eq_true.mp a5 b hb
    rw [Bool.and_eq_true_iff, Bool.or_eq_true_iff] at this
    obtain ⟨b1, b2⟩ := this
    unfold hfB smB at b1
    simp only [Bool.and_eq_true_iff, decide_eq_true_eq, Bool.not_eq_true', Bool.and_eq_false_iff, decide_eq_false_iff_not] at b1
    obtain ⟨⟨⟨c1, c2⟩, c3⟩, c4⟩ := b1
    exact ⟨⟨c1, c2, c3, fun ⟨x, y⟩ => c4.elim (fun z => z x) fun z => z y⟩, b2.elim (fun z => .inl (of_decide_eq_true z)) .inr⟩
  · rcases Bool.or_eq_true_iff.mp a6 with z | z
    · obtain ⟨b, hb, e⟩ := List.any_eq_true.mp z
      exact .inl (of_decide_eq_true e ▸ hb)
    · exact .inr z
/-- a place of the square [0, 3] x [0, 3] -/
def Sq (p : Pl) : Prop := (0 ≤ p.1 ∧ p.1 ≤ 3 * p.2.2) ∧ 0 ≤ p.2.1 ∧ p.2.1 ≤ 3 * p.2.2
theorem holds_sq {b p : Pl} (h : holds b = true) (hd : Dp p) (hp : Sq p) : 0 ≤ depth b p := by
  unfold holds at h
  simp only [Bool.and_eq_true_iff, decide_eq_true_eq] at h
  obtain ⟨⟨⟨h1, h2⟩, h3⟩, h4⟩ := h
  obtain ⟨⟨x1, x2⟩, y1, y2⟩ := hp
  unfold depth at *
  unfold Dp at hd
  obtain ⟨a, b, c⟩ := b
  obtain ⟨x, y, d⟩ := p
  dsimp only at *
  have e1 : 0 ≤ (a * 0 + b * 0 - c * 1) * d := Int.mul_nonneg h1 (by omega)
  have e2 : 0 ≤ (a * 3 + b * 0 - c * 1) * d := Int.mul_nonneg h2 (by omega)
  have e3 : 0 ≤ (a * 3 + b * 3 - c * 1) * d := Int.mul_nonneg h3 (by omega)
  have e4 : 0 ≤ (a * 0 + b * 3 - c * 1) * d := Int.mul_nonneg h4 (by omega)
  by_cases ca : 0 ≤ a <;> by_cases cb : 0 ≤ b
  · have p1 := Int.mul_nonneg ca x1
    have p2 := Int.mul_nonneg cb y1
    grind
  · have p1 := Int.mul_nonneg ca x1
    have p2 := Int.mul_nonneg (show 0 ≤ -b by omega) (show 0 ≤ 3 * d - y by omega)
    grind
  · have p1 := Int.mul_nonneg (show 0 ≤ -a by omega) (show 0 ≤ 3 * d - x by omega)
    have p2 := Int.mul_nonneg cb y1
    grind
  · have p1 := Int.mul_nonneg (show 0 ≤ -a by omega) (show 0 ≤ 3 * d - x by omega)
    have p2 := Int.mul_nonneg (show 0 ≤ -b by omega) (show 0 ≤ 3 * d - y by omega)
    grind
theorem sq_1 {x z m d : Int} (hz : z ≠ 0) (hd : 0 < d) (e : m * z = x * d) (h : (0 ≤ x ∧ x ≤ 3 * z) ∨ (3 * z ≤ x ∧ x ≤ 0)) : 0 ≤ m ∧ m ≤ 3 * d := by
  by_cases c : 0 < z
  · have h : 0 ≤ x ∧ x ≤ 3 * z := h.elim id fun h => by omega
    have a := Int.mul_nonneg h.1 (show 0 ≤ d by omega)
    have b := Int.mul_nonneg (show 0 ≤ 3 * z - x by omega) (show 0 ≤ d by omega)
    constructor
    · refine Int.not_lt.mp fun k => ?_
      have := Int.mul_pos (show 0 < -m by omega) c
      grind
    · refine Int.not_lt.mp fun k => ?_
      have := Int.mul_pos (show 0 < m - 3 * d by omega) c
      grind
  · have h : 3 * z ≤ x ∧ x ≤ 0 := h.elim (fun h => by omega) id
    have a := Int.mul_nonneg (show 0 ≤ -x by omega) (show 0 ≤ d by omega)
    have b := Int.mul_nonneg (show 0 ≤ x - 3 * z by omega) (show 0 ≤ d by omega)
    constructor
    · refine Int.not_lt.mp fun k => ?_
      have := Int.mul_pos (show 0 < -m by omega) (show 0 < -z by omega)
      grind
    · refine Int.not_lt.mp fun k => ?_
      have := Int.mul_pos (show 0 < m - 3 * d by omega) (show 0 < -z by omega)
      grind
theorem pool_sq {p : Pl} (h : Pool p) : Sq p := by
  obtain ⟨x, y, e, he, h1, h2, h3, h4, rfl⟩ := h
  have e0 : e ≠ 0 := by omega
  obtain ⟨s1, s2⟩ := mkPl_spec (x := x) (y := y) e0
  have d := (pt_mk (x := x) (y := y) e0).2
  exact ⟨sq_1 e0 d s1 (.inl ⟨h1, h2⟩), sq_1 e0 d s2 (.inl ⟨h3, h4⟩)⟩
theorem met_sq {p q h : Pl} (hp : Dp p) (hq : Dp q) (sp : Sq p) (sq : Sq q) (c : depth h p * depth h q < 0) : Sq (metAt p q (depth h p) (depth h q)) ∧ depth h (metAt p q (depth h p) (depth h q)) = 0 ∧ Dp (metAt p q (depth h p) (depth h q)) := by
  have z := met_z c hp hq
  generalize hs : depth h p = s at *
  generalize ht : depth h q = t at *
  obtain ⟨s1, s2⟩ := mkPl_spec (x := q.1 * s - p.1 * t) (y := q.2.1 * s - p.2.1 * t) z
  have d := (pt_mk (x := q.1 * s - p.1 * t) (y := q.2.1 * s - p.2.1 * t) z).2
  obtain ⟨⟨x1, x2⟩, y1, y2⟩ := sp
  obtain ⟨⟨u1, u2⟩, v1, v2⟩ := sq
  have sg : (0 < s ∧ t < 0) ∨ (s < 0 ∧ 0 < t) := by
    rcases Int.lt_trichotomy s 0 with a | a | a
    · right
      refine ⟨a, ?_⟩
      rcases Int.lt_trichotomy t 0 with b | b | b
      · have := Int.mul_pos_of_neg_of_neg a b; omega
      · rw [b] at c; omega
      · exact b
    · rw [a] at c; omega
    · left
      refine ⟨a, ?_⟩
      rcases Int.lt_trichotomy t 0 with b | b | b
      · exact b
      · rw [b] at c; omega
      · have := Int.mul_pos a b; omega
  have box : ∀ {x u : Int}, 0 ≤ x → x ≤ 3 * p.2.2 → 0 ≤ u → u ≤ 3 * q.2.2 → (0 ≤ u * s - x * t ∧ u * s - x * t ≤ 3 * (s * q.2.2 - t * p.2.2)) ∨ (3 * (s * q.2.2 - t * p.2.2) ≤ u * s - x * t ∧ u * s - x * t ≤ 0) := by
    intro x u a1 a2 b1 b2
    rcases sg with ⟨k1, k2⟩ | ⟨k1, k2⟩
    · left
      have e1 := Int.mul_nonneg b1 (show 0 ≤ s by omega)
      have e2 := Int.mul_nonneg a1 (show 0 ≤ -t by omega)
      have e3 := Int.mul_nonneg (show 0 ≤ 3 * q.2.2 - u by omega) (show 0 ≤ s by omega)
      have e4 := Int.mul_nonneg (show 0 ≤ 3 * p.2.2 - x by omega) (show 0 ≤ -t by omega)
      constructor <;> grind
    · right
      have e1 := Int.mul_nonneg b1 (show 0 ≤ -s by omega)
      have e2 := Int.mul_nonneg a1 (show 0 ≤ t by omega)
      have e3 := Int.mul_nonneg (show 0 ≤ 3 * q.2.2 - u by omega) (show 0 ≤ -s by omega)
      have e4 := Int.mul_nonneg (show 0 ≤ 3 * p.2.2 - x by omega) (show 0 ≤ t by omega)
      constructor <;> grind
  refine ⟨⟨sq_1 z d s1 (box x1 x2 u1 u2), sq_1 z d s2 (box y1 y2 v1 v2)⟩, ?_, d⟩
  unfold metAt
  generalize (mkPl (q.1 * s - p.1 * t) (q.2.1 * s - p.2.1 * t) (s * q.2.2 - t * p.2.2)) = m at *
  have e : depth h m * (s * q.2.2 - t * p.2.2) = 0 := by
    unfold depth at *
    have : (h.1 * m.1 + h.2.1 * m.2.1 - h.2.2 * m.2.2) * (s * q.2.2 - t * p.2.2) = h.1 * (m.1 * (s * q.2.2 - t * p.2.2)) + h.2.1 * (m.2.1 * (s * q.2.2 - t * p.2.2)) - h.2.2 * m.2.2 * (s * q.2.2 - t * p.2.2) := by grind
    rw [this, s1, s2, ← hs, ← ht]
    grind
  exact (Int.mul_eq_zero.mp e).resolve_right z
theorem cut_sq {n : Nat} {h : Pl} {P Q : List Pl} (hP : AllOk n P) (sP : ∀ p ∈ P, Sq p) (e : cutP P h = some Q) : ∀ p ∈ Q, Sq p ∧ 0 ≤ depth h p := by
  unfold cutP at e
  split at e
  · cases e
  · obtain rfl := Option.some.inj e
    intro p hp
    rcases List.mem_append.mp (hullP_sub hp) with c | c
    · obtain ⟨m, k⟩ := List.mem_filter.mp c
      exact ⟨sP p m, of_decide_eq_true k⟩
    · obtain ⟨d, hd, c⟩ := List.mem_filterMap.mp c
      obtain ⟨m1, m2, _⟩ := nbrs_mem hd
      unfold crossP at c
      split at c
      · next k =>
        obtain rfl := Option.some.inj c
        obtain ⟨a, b, _⟩ := met_sq (hP _ m1).dp (hP _ m2).dp (sP _ m1) (sP _ m2) k
        exact ⟨a, by omega⟩
      · cases c
/-- the cuts by the borders of the great plate are the cut by the half plane -/
theorem great_cuts {h : Pl} {P : List Pl} (hP : Hd 4 P) (hl : P.length ≤ 4) (sP : ∀ p ∈ P, Sq p) (hh : HfOk 7 h) : ∀ bs : List Pl, (∀ b ∈ bs, HfOk 122 b ∧ (b = h ∨ holds b = true)) → (cuts P bs = if h ∈ bs then cutP P h else some P) ∧ CutsOk 122 400 P bs
  | [], _ => ⟨by rw [if_neg (by simp)]; rfl, trivial⟩
  | b :: bs, hb => by
    obtain ⟨k1, k2⟩ := hb b List.mem_cons_self
    obtain ⟨i1, i2⟩ := great_cuts hP hl sP hh bs fun x hx => hb x (List.mem_cons_of_mem _ hx)
    have cl := cutL_len P b
    by_cases e : b = h
    · subst e
      have rest : ∀ Q, cutP P b = some Q → cuts Q bs = some Q ∧ CutsOk 122 400 Q bs := fun Q e => by
        obtain ⟨a1, a2⟩ := cut_hd hh hP.ok e
        have s := cut_sq hP.ok sP e
        exact Hd.cuts (a1.mono (show 7 + 4 + 4 + 3 ≤ 400 by decide)) (by omega) bs fun x hx => by
          obtain ⟨x1, x2⟩ := hb x (List.mem_cons_of_mem _ hx)
          refine ⟨x1, fun p hp => ?_⟩
          rcases x2 with rfl | x2
          · exact (s p hp).2
          · exact holds_sq x2 (a1.ok p hp).dp (s p hp).1
      refine ⟨?_, by omega, by omega, k1, hP.ok.mono (by omega), fun f' e => (rest f' e).2⟩
      rw [if_pos List.mem_cons_self]
      unfold cuts
      cases c : cutP P b with
      | none => rfl
      | some Q => exact (rest Q c).1
    · have hold := k2.resolve_left e
      obtain ⟨c1, c2⟩ := hP.cut_id (m := 122) (by omega) ⟨k1, fun p hp => holds_sq hold (hP.ok p hp).dp (sP p hp)⟩
      refine ⟨?_, by omega, by omega, k1, hP.ok.mono (by omega), fun f' x => ?_⟩
      · unfold cuts
        rw [c2]
        dsimp only
        rw [i1]
        have : h ∈ b :: bs ↔ h ∈ bs := ⟨fun z => (List.mem_cons.mp z).resolve_left fun y => e y.symm, List.mem_cons_of_mem _⟩
        by_cases c : h ∈ bs
        · rw [if_pos c, if_pos (this.mpr c)]
        · rw [if_neg c, if_neg fun z => c (this.mp z)]
      · rw [c2] at x
        obtain rfl := Option.some.inj x
        exact i2
end PH

set_option Elab.async false
set_option linter.all false
set_option maxRecDepth 100000
set_option maxHeartbeats 1000000
namespace PH
open PySem PySem.Spec PyProof.Rows L2
theorem law_facts (pool q1 q2 : List Pl) (a b : Int) (p : Pl) (_ : pool.length = 4) (hpool : ∀ p ∈ pool, Pool p) (n1 : q1 ≠ []) (m1 : q1.length ≤ 4) (i1 : ∀ q ∈ q1, q ∈ pool) (n2 : q2 ≠ []) (m2 : q2.length ≤ 4) (i2 : ∀ q ∈ q2, q ∈ pool)
    (a1 : -2 ≤ a) (a2 : a ≤ 2) (b1 : 1 ≤ b) (b2 : b ≤ 3) (hp : p ∈ pool) : LawF (hullL q1) (hullL q2) (mkDir a b) (halfL (mkDir a b) p) := by
  have o1 : AllOk 4 q1 := fun q hq => (hpool q (i1 q hq)).ok
  have o2 : AllOk 4 q2 := fun q hq => (hpool q (i2 q hq)).ok
  rw [hullL_eq o1, hullL_eq o2]
  have h1 : Hd 4 (hullP q1) := hd_hull o1 n1
  have h2 : Hd 4 (hullP q2) := hd_hull o2 n2
  have l1 : (hullP q1).length ≤ 4 := Nat.le_trans (hull_len o1 n1) m1
  have l2 : (hullP q2).length ≤ 4 := Nat.le_trans (hull_len o2 n2) m2
  have s1 : ∀ p ∈ hullP q1, Sq p := fun p hp => pool_sq (hpool p (i1 p (hullP_sub hp)))
  have hu : DirOk 2 (mkDir a b) := mkDir_ok (fun e => by omega) (by show a.natAbs < 4; omega) (by show b.natAbs < 4; omega)
  have um : mkDir a b ∈ allU := dir_mem a (by
    have : a = -2 ∨ a = -1 ∨ a = 0 ∨ a = 1 ∨ a = 2 := by omega
    simpa using this) b (by
    have : b = 1 ∨ b = 2 ∨ b = 3 := by omega
    simpa using this)
  have gc : GC (halfL (mkDir a b) p) := gc_of (List.all_eq_true.mp (List.all_eq_true.mp all_ok _ um) p (pool_mem (hpool p hp)))
  have hh : HfOk 7 (halfL (mkDir a b) p) := halfL_ok hu (hpool p hp).ok
  generalize halfL (mkDir a b) p = h at gc hh ⊢
  generalize mkDir a b = u at hu ⊢
  generalize hullP q1 = P at h1 l1 s1 ⊢
  generalize hullP q2 = Q at h2 l2 ⊢
  have so := sums_ok h1.ok h2.ok
  have s0 := sums_ne h1.ne h2.ne
  have hd : Hd 9 (putP P Q) := hd_hull so s0
  have sl : (putP P Q).length ≤ 16 := Nat.le_trans (hull_len so s0) (by
    show (P.flatMap fun p => Q.map fun q => moved p q).length ≤ 16
    rw [putL_len]
    exact Nat.le_trans (Nat.mul_le_mul l1 l2) (by decide))
  have ms := scaled_all h1.ok
  have m0 : P.map scaledN ≠ [] := by simpa using h1.ne
  have hm : Hd 5 (mirrorP P) := hd_hull ms m0
  have ml : (mirrorP P).length ≤ 4 := Nat.le_trans (hull_len ms m0) (by rw [List.length_map]; exact l1)
  have bl := borders_len h2 l2
  have pw : 2 ^ (bordersP Q).length ≤ 16 := Nat.pow_le_pow_right (by decide) bl
  have cs := cuts_seq (m := 3 * 4 + 2) (N := 400) (bordersP Q) P 4 4 h1 l1 (fun b hb => (h2.border hb).1) (by omega) (by omega)
  have gcut := great_cuts h1 l1 s1 hh (bordersP (greatL h)) gc.b
  have c1 := cutL_len P h
  have c2 := cutL_len (putP P Q) h
  have lall : ∀ r, RuOk r → ∀ S : List Pl, Hd 4 S → S.length ≤ 4 → ledP r S ≠ [] ∧ (ledP r S).length ≤ 8 := fun r hr S hS hl => by
    have a := led_all hr hS.ok
    have b : S.map (ledPl r) ≠ [] := by simpa using hS.ne
    exact ⟨hullP_ne' a b, Nat.le_trans (hull_len a b) (by rw [List.length_map]; omega)⟩
  exact {
    t1 := h1.told (by omega) (by decide)
    t2 := h2.told (by omega) (by decide)
    l1 := l1
    l2 := l2
    tp := hd.told (by omega) (by decide)
    tm := hm.told (by omega) (by decide)
    c1 := by omega
    tc := fun R e => by
      obtain ⟨x, y⟩ := cut_hd hh h1.ok e
      exact (x.mono (show 7 + 4 + 4 + 3 ≤ 400 by decide)).told (by omega) (by decide)
    cm := cs.1
    tmt := fun R e => by
      unfold meetP at e
      split at e
      · split at e
        · obtain rfl := Option.some.inj e
          exact (h2.mono (by decide)).told (by omega) (by decide)
        · cases e
      · obtain ⟨x, y⟩ := cs.2 R e
        exact x.told y (by decide)
    c2 := by omega
    tc2 := fun R e => by
      obtain ⟨x, y⟩ := cut_hd hh hd.ok e
      exact (x.mono (show 7 + 9 + 9 + 3 ≤ 400 by decide)).told (by omega) (by decide)
    gne := fun e => by have := gc.l2; rw [e] at this; simp at this
    gnd := gc.nd
    gok := gc.ok
    glen := by have := gc.l20; omega
    gc := gcut.2
    great := by
      unfold meetP
      rw [if_neg (by have := gc.l2; omega), gcut.1]
      split
      · rfl
      · next x =>
        have hold := gc.h.resolve_left x
        exact (h1.cut_id (m := 7) (by omega) ⟨hh, fun p hp => holds_sq hold (h1.ok p hp).dp (s1 p hp)⟩).2
    met := met_some P h1.ok h
    led := fun r hr => led_put hr h1.ok h2.ok h1.ne h2.ne
    ledm := fun r hr => led_mirror hr h1.ok h1.ne
    le1 := fun r hr => (lall r hr P h1 l1).1
    le2 := fun r hr => (lall r hr Q h2 l2).1
    led1 := fun r hr => (lall r hr P h1 l1).2
    led2 := fun r hr => (lall r hr Q h2 l2).2
    v := fun v hv => by
      have dv : DirOk 2 v := by
        rcases hv with rfl | rfl | rfl
        · exact hu
        · have := back_ok hu
          unfold back at this
          rwa [← Int.zero_sub, ← Int.zero_sub] at this
        · exact ⟨by decide, by decide, by decide⟩
      refine ⟨(far_count h1 dv).1, ?_, put_count dv h1 h2⟩
      rw [mirror_top dv h1]
      unfold bottomP
      refine Prod.ext ?_ rfl
      show _ = 0 - -(topP P (back v)).1
      omega }
end PH

set_option Elab.async false
set_option linter.all false
set_option maxRecDepth 100000
set_option maxHeartbeats 4000000
namespace PH
open PySem PySem.Spec PyProof.Rows L2
section
variable {P : Program} {w : World} {K : PySem.W.Frag} {h : Heap} {mg : Str → Option Value} {base : Heap}
theorem fd_of (X : K.In h) (G : h.Ns mainGlobals mg) (c : He.SaysD fa fn K) (i : Nat) {x : Str} {n : Nat} {ps : List Str} (e1 : fn[i]? = some (dd x n) := by rfl) (e2 : fa[i]? = some (.glo x) := by rfl)
    (hB : ∀ (kV doc pm : Value) (an : Option Addr) (cdv ct : Value) (us : List Value), us.length = ps.length → bindArgs (PySem.W.fnOf x x (defArgs (topS n)) (defBody (topS n)) (defScope (topS n)) .none kV doc pm an cdv ct) ⟨us, []⟩ = pure (ps.zip us)) : Fd K mg x (topS n) ps := by
  obtain ⟨fd, F⟩ := c.def_ i (d := dd x n) e1
  have hm := He.glo_ok X G (c.fact i (f := .glo x) e2)
  refine ⟨_, fd, ?_, hm, FunD.bindsN F hB⟩
  obtain ⟨⟨oc, od, dV, kV, doc, pm, an, cdv, ct, osl, e, lk, hcd, hD, hK⟩, kp⟩ := F
  rcases hD with ⟨_, rfl⟩ | ⟨z, _⟩
  · exact ⟨⟨oc, od, kV, doc, pm, an, cdv, ct, osl, e, lk, hcd⟩, kp⟩
  · exact absurd rfl z
theorem top_of (X : K.In h) (G : h.Ns mainGlobals mg) (c : He.SaysD fa fn K) (g : gcdB K = true) : Top mg where
  isinstance := He.free_ok X G (c.fact 66 (f := .free "isinstance") rfl)
  int := He.free_ok X G (c.fact 67 (f := .free "int") rfl)
  bool := He.free_ok X G (c.fact 68 (f := .free "bool") rfl)
  tuple := He.free_ok X G (c.fact 69 (f := .free "tuple") rfl)
  len := He.free_ok X G (c.fact 70 (f := .free "len") rfl)
  all := He.free_ok X G (c.fact 71 (f := .free "all") rfl)
  any := He.free_ok X G (c.fact 72 (f := .free "any") rfl)
  sorted := He.free_ok X G (c.fact 73 (f := .free "sorted") rfl)
  zip := He.free_ok X G (c.fact 74 (f := .free "zip") rfl)
  list := He.free_ok X G (c.fact 75 (f := .free "list") rfl)
  range := He.free_ok X G (c.fact 76 (f := .free "range") rfl)
  sum := He.free_ok X G (c.fact 77 (f := .free "sum") rfl)
  min := He.free_ok X G (c.fact 78 (f := .free "min") rfl)
  max := He.free_ok X G (c.fact 79 (f := .free "max") rfl)
  abs := He.free_ok X G (c.fact 80 (f := .free "abs") rfl)
  gcd := by
    unfold gcdB at g
    split at g
    · next x e =>
      have e2 := of_decide_eq_true g
      subst e2
      exact PySem.W.mg_of X G e
    · cases g
theorem libs_of (X : K.In h) (G : h.Ns mainGlobals mg) (c : He.SaysD fa fn K) (T : Top mg) : LibS P w K mg base := by
  have k_is_number := kn_is_number (P := P) (w := w) (base := base) T (fd_of X G c 0 (x := "is_number") (n := 8) (ps := ["value"]) rfl rfl (fun _ _ _ _ _ _ us hl => match us, hl with | [_], _ => rfl))
  have k_place := kn_place (P := P) (w := w) (base := base) T (fd_of X G c 5 (x := "place") (n := 14) (ps := ["x", "y", "d"]) rfl rfl (fun _ _ _ _ _ _ us hl => match us, hl with | [_, _, _], _ => rfl)) k_is_number
  have k_is_row_of_numbers := kn_row (P := P) (w := w) (base := base) T (fd_of X G c 1 (x := "is_row_of_numbers") (n := 9) (ps := ["value", "many"]) rfl rfl (fun _ _ _ _ _ _ us hl => match us, hl with | [_, _], _ => rfl)) k_is_number
  have k_fraction := kn_fraction (P := P) (w := w) (base := base) T (fd_of X G c 2 (x := "fraction") (n := 10) (ps := ["p", "q"]) rfl rfl (fun _ _ _ _ _ _ us hl => match us, hl with | [_, _], _ => rfl))
  have k_is_less := kn_isLess (P := P) (w := w) (base := base) (fd_of X G c 4 (x := "is_less") (n := 12) (ps := ["s", "t"]) rfl rfl (fun _ _ _ _ _ _ us hl => match us, hl with | [_, _], _ => rfl))
  have k_is_place := kn_isPlace (P := P) (w := w) (base := base) T (fd_of X G c 6 (x := "is_place") (n := 15) (ps := ["value"]) rfl rfl (fun _ _ _ _ _ _ us hl => match us, hl with | [_], _ => rfl)) k_is_row_of_numbers
  have k_comes_first := kn_first (P := P) (w := w) (base := base) (fd_of X G c 9 (x := "comes_first") (n := 18) (ps := ["p", "q"]) rfl rfl (fun _ _ _ _ _ _ us hl => match us, hl with | [_, _], _ => rfl))
  have k_moved := kn_moved (P := P) (w := w) (base := base) (fd_of X G c 10 (x := "moved") (n := 19) (ps := ["p", "q"]) rfl rfl (fun _ _ _ _ _ _ us hl => match us, hl with | [_, _], _ => rfl)) k_place
  have k_apart := kn_apart (P := P) (w := w) (base := base) (fd_of X G c 11 (x := "apart") (n := 20) (ps := ["p", "q"]) rfl rfl (fun _ _ _ _ _ _ us hl => match us, hl with | [_, _], _ => rfl)) k_place
  have k_scaled := kn_scaled (P := P) (w := w) (base := base) (fd_of X G c 12 (x := "scaled") (n := 21) (ps := ["p", "m", "n"]) rfl rfl (fun _ _ _ _ _ _ us hl => match us, hl with | [_, _, _], _ => rfl)) k_place
  have k_turn := kn_turn (P := P) (w := w) (base := base) (fd_of X G c 13 (x := "turn") (n := 22) (ps := ["p", "q", "r"]) rfl rfl (fun _ _ _ _ _ _ us hl => match us, hl with | [_, _, _], _ => rfl)) k_apart
  have k_direction := kn_direction (P := P) (w := w) (base := base) T (fd_of X G c 14 (x := "direction") (n := 24) (ps := ["a", "b"]) rfl rfl (fun _ _ _ _ _ _ us hl => match us, hl with | [_, _], _ => rfl)) k_is_number
  have k_back := kn_back (P := P) (w := w) (base := base) (fd_of X G c 15 (x := "back") (n := 25) (ps := ["u"]) rfl rfl (fun _ _ _ _ _ _ us hl => match us, hl with | [_], _ => rfl))
  have k_quarter := kn_quarter (P := P) (w := w) (base := base) (fd_of X G c 16 (x := "quarter") (n := 26) (ps := ["u"]) rfl rfl (fun _ _ _ _ _ _ us hl => match us, hl with | [_], _ => rfl))
  have k_towards := kn_towards (P := P) (w := w) (base := base) (fd_of X G c 17 (x := "towards") (n := 27) (ps := ["p", "q"]) rfl rfl (fun _ _ _ _ _ _ us hl => match us, hl with | [_, _], _ => rfl)) k_apart k_direction
  have k_half := kn_half (P := P) (w := w) (base := base) T (fd_of X G c 18 (x := "half") (n := 29) (ps := ["a", "b", "c"]) rfl rfl (fun _ _ _ _ _ _ us hl => match us, hl with | [_, _, _], _ => rfl)) k_is_number
  have k_depth := kn_depth (P := P) (w := w) (base := base) (fd_of X G c 19 (x := "depth") (n := 30) (ps := ["half_plane", "p"]) rfl rfl (fun _ _ _ _ _ _ us hl => match us, hl with | [_, _], _ => rfl))
  have k_has := kn_has (P := P) (w := w) (base := base) (fd_of X G c 20 (x := "has") (n := 31) (ps := ["half_plane", "p"]) rfl rfl (fun _ _ _ _ _ _ us hl => match us, hl with | [_, _], _ => rfl)) k_depth
  have k_facing := kn_facing (P := P) (w := w) (base := base) (fd_of X G c 21 (x := "facing") (n := 32) (ps := ["half_plane"]) rfl rfl (fun _ _ _ _ _ _ us hl => match us, hl with | [_], _ => rfl))
  have k_height := kn_height (P := P) (w := w) (base := base) (fd_of X G c 22 (x := "height") (n := 33) (ps := ["u", "p"]) rfl rfl (fun _ _ _ _ _ _ us hl => match us, hl with | [_, _], _ => rfl)) k_fraction
  have k_half_from := kn_halfFrom (P := P) (w := w) (base := base) (fd_of X G c 23 (x := "half_from") (n := 34) (ps := ["u", "h"]) rfl rfl (fun _ _ _ _ _ _ us hl => match us, hl with | [_, _], _ => rfl)) k_half
  have k_half_at := kn_halfAt (P := P) (w := w) (base := base) (fd_of X G c 24 (x := "half_at") (n := 35) (ps := ["u", "p"]) rfl rfl (fun _ _ _ _ _ _ us hl => match us, hl with | [_, _], _ => rfl)) k_half_from k_height
  have k_common_of := kn_common (P := P) (w := w) (base := base) T (fd_of X G c 3 (x := "common_of") (n := 11) (ps := ["numbers"]) rfl rfl (fun _ _ _ _ _ _ us hl => match us, hl with | [_], _ => rfl))
  have k_grid := kn_grid (P := P) (w := w) (base := base) T (fd_of X G c 7 (x := "grid") (n := 16) (ps := ["places"]) rfl rfl (fun _ _ _ _ _ _ us hl => match us, hl with | [_], _ => rfl)) k_common_of
  have k_in_order := kn_inOrder (P := P) (w := w) (base := base) T (fd_of X G c 8 (x := "in_order") (n := 17) (ps := ["places"]) rfl rfl (fun _ _ _ _ _ _ us hl => match us, hl with | [_], _ => rfl)) k_grid
  have k_chain := kn_chain (P := P) (w := w) (base := base) T (fd_of X G c 25 (x := "chain") (n := 37) (ps := ["places"]) rfl rfl (fun _ _ _ _ _ _ us hl => match us, hl with | [_], _ => rfl)) k_turn
  have k_hull := kn_hull (P := P) (w := w) (base := base) T (fd_of X G c 26 (x := "hull") (n := 38) (ps := ["places"]) rfl rfl (fun _ _ _ _ _ _ us hl => match us, hl with | [_], _ => rfl)) k_in_order k_chain
  have k_is_plate := kn_isPlate (P := P) (w := w) (base := base) T (fd_of X G c 27 (x := "is_plate") (n := 39) (ps := ["value"]) rfl rfl (fun _ _ _ _ _ _ us hl => match us, hl with | [_], _ => rfl)) k_hull k_is_place
  have k_neighbours := kn_neighbours (P := P) (w := w) (base := base) T (fd_of X G c 28 (x := "neighbours") (n := 40) (ps := ["plate"]) rfl rfl (fun _ _ _ _ _ _ us hl => match us, hl with | [_], _ => rfl))
  have k_has_place := kn_hasPlace (P := P) (w := w) (base := base) T (fd_of X G c 29 (x := "has_place") (n := 41) (ps := ["plate", "p"]) rfl rfl (fun _ _ _ _ _ _ us hl => match us, hl with | [_, _], _ => rfl)) k_neighbours k_turn k_comes_first
  have k_sides := kn_sides (P := P) (w := w) (base := base) (fd_of X G c 30 (x := "sides") (n := 42) (ps := ["plate"]) rfl rfl (fun _ _ _ _ _ _ us hl => match us, hl with | [_], _ => rfl)) k_neighbours k_towards k_quarter k_back
  have k_top := kn_top (P := P) (w := w) (base := base) (fd_of X G c 31 (x := "top") (n := 43) (ps := ["plate", "u"]) rfl rfl (fun _ _ _ _ _ _ us hl => match us, hl with | [_, _], _ => rfl)) k_height k_is_less
  have k_bottom := kn_bottom (P := P) (w := w) (base := base) (fd_of X G c 32 (x := "bottom") (n := 44) (ps := ["plate", "u"]) rfl rfl (fun _ _ _ _ _ _ us hl => match us, hl with | [_, _], _ => rfl)) k_top k_back
  have k_is_met := kn_isMet (P := P) (w := w) (base := base) T (fd_of X G c 34 (x := "is_met") (n := 46) (ps := ["plate", "half_plane"]) rfl rfl (fun _ _ _ _ _ _ us hl => match us, hl with | [_, _], _ => rfl)) k_has
  have k_met_at := kn_metAt (P := P) (w := w) (base := base) (fd_of X G c 35 (x := "met_at") (n := 48) (ps := ["p", "q", "one", "other"]) rfl rfl (fun _ _ _ _ _ _ us hl => match us, hl with | [_, _, _, _], _ => rfl)) k_place
  have k_farthest := kn_farthest (P := P) (w := w) (base := base) (fd_of X G c 33 (x := "farthest") (n := 45) (ps := ["plate", "u"]) rfl rfl (fun _ _ _ _ _ _ us hl => match us, hl with | [_, _], _ => rfl)) k_sides k_top k_height
  have k_cut_plate := kn_cut (P := P) (w := w) (base := base) T (fd_of X G c 36 (x := "cut_plate") (n := 49) (ps := ["plate", "half_plane"]) rfl rfl (fun _ _ _ _ _ _ us hl => match us, hl with | [_, _], _ => rfl)) k_depth k_neighbours k_met_at k_hull
  have k_borders := kn_borders (P := P) (w := w) (base := base) T (fd_of X G c 37 (x := "borders") (n := 50) (ps := ["plate"]) rfl rfl (fun _ _ _ _ _ _ us hl => match us, hl with | [_], _ => rfl)) k_sides k_half_at k_facing k_towards k_back
  have k_meet := kn_meet (P := P) (w := w) (base := base) T (fd_of X G c 38 (x := "meet") (n := 51) (ps := ["one", "other"]) rfl rfl (fun _ _ _ _ _ _ us hl => match us, hl with | [_, _], _ => rfl)) k_borders k_cut_plate k_has_place
  have k_put := kn_put (P := P) (w := w) (base := base) (fd_of X G c 39 (x := "put") (n := 52) (ps := ["one", "other"]) rfl rfl (fun _ _ _ _ _ _ us hl => match us, hl with | [_, _], _ => rfl)) k_hull k_moved
  have k_mirror := kn_mirror (P := P) (w := w) (base := base) (fd_of X G c 40 (x := "mirror") (n := 53) (ps := ["plate"]) rfl rfl (fun _ _ _ _ _ _ us hl => match us, hl with | [_], _ => rfl)) k_hull k_scaled
  have k_led_place := kn_ledPlace (P := P) (w := w) (base := base) (fd_of X G c 41 (x := "led_place") (n := 54) (ps := ["p", "rule"]) rfl rfl (fun _ _ _ _ _ _ us hl => match us, hl with | [_, _], _ => rfl)) k_place
  have k_led := kn_led (P := P) (w := w) (base := base) (fd_of X G c 42 (x := "led") (n := 55) (ps := ["plate", "rule"]) rfl rfl (fun _ _ _ _ _ _ us hl => match us, hl with | [_, _], _ => rfl)) k_hull k_led_place
  have k_inside := kn_inside (P := P) (w := w) (base := base) T (fd_of X G c 43 (x := "inside") (n := 56) (ps := ["plate"]) rfl rfl (fun _ _ _ _ _ _ us hl => match us, hl with | [_], _ => rfl)) k_hull k_sides
  have k__law_common := kn_lcommon (P := P) (w := w) (base := base) T (fd_of X G c 46 (x := "_law_common") (n := 60) (ps := ["_law_a", "_law_b"]) rfl rfl (fun _ _ _ _ _ _ us hl => match us, hl with | [_, _], _ => rfl))
  have k__law_place := kn_lplace (P := P) (w := w) (base := base) (fd_of X G c 47 (x := "_law_place") (n := 61) (ps := ["_law_x", "_law_y", "_law_d"]) rfl rfl (fun _ _ _ _ _ _ us hl => match us, hl with | [_, _, _], _ => rfl)) k__law_common
  have k__law_fraction := kn_lfraction (P := P) (w := w) (base := base) (fd_of X G c 48 (x := "_law_fraction") (n := 62) (ps := ["_law_p", "_law_q"]) rfl rfl (fun _ _ _ _ _ _ us hl => match us, hl with | [_, _], _ => rfl)) k__law_common
  have k__law_direction := kn_ldirection (P := P) (w := w) (base := base) (fd_of X G c 49 (x := "_law_direction") (n := 63) (ps := ["_law_a", "_law_b"]) rfl rfl (fun _ _ _ _ _ _ us hl => match us, hl with | [_, _], _ => rfl)) k__law_common
  have k__law_half := kn_lhalf (P := P) (w := w) (base := base) (fd_of X G c 57 (x := "_law_half") (n := 71) (ps := ["_law_u", "_law_p"]) rfl rfl (fun _ _ _ _ _ _ us hl => match us, hl with | [_, _], _ => rfl)) k__law_common
  have k__law_middle := kn_lmiddle (P := P) (w := w) (base := base) (fd_of X G c 58 (x := "_law_middle") (n := 72) (ps := ["_law_p", "_law_q"]) rfl rfl (fun _ _ _ _ _ _ us hl => match us, hl with | [_, _], _ => rfl)) k__law_place
  have k__law_height := kn_lheight (P := P) (w := w) (base := base) (fd_of X G c 56 (x := "_law_height") (n := 70) (ps := ["_law_u", "_law_p"]) rfl rfl (fun _ _ _ _ _ _ us hl => match us, hl with | [_, _], _ => rfl)) k__law_fraction
  have k__law_first := kn_lfirst (P := P) (w := w) (base := base) (fd_of X G c 50 (x := "_law_first") (n := 64) (ps := ["_law_p", "_law_q"]) rfl rfl (fun _ _ _ _ _ _ us hl => match us, hl with | [_, _], _ => rfl))
  have k__law_places := kn_lplaces (P := P) (w := w) (base := base) T (fd_of X G c 51 (x := "_law_places") (n := 65) (ps := ["_law_places_here"]) rfl rfl (fun _ _ _ _ _ _ us hl => match us, hl with | [_], _ => rfl)) k__law_first
  have k__law_step := kn_lstep (P := P) (w := w) (base := base) (fd_of X G c 52 (x := "_law_step") (n := 66) (ps := ["_law_p", "_law_q"]) rfl rfl (fun _ _ _ _ _ _ us hl => match us, hl with | [_, _], _ => rfl))
  have k__law_turn := kn_lturn (P := P) (w := w) (base := base) T (fd_of X G c 53 (x := "_law_turn") (n := 67) (ps := ["_law_p", "_law_q", "_law_r"]) rfl rfl (fun _ _ _ _ _ _ us hl => match us, hl with | [_, _, _], _ => rfl)) k__law_step
  have k__law_chain := kn_lchain (P := P) (w := w) (base := base) T (fd_of X G c 54 (x := "_law_chain") (n := 68) (ps := ["_law_places_here"]) rfl rfl (fun _ _ _ _ _ _ us hl => match us, hl with | [_], _ => rfl)) k__law_turn
  have k__law_hull := kn_lhull (P := P) (w := w) (base := base) T (fd_of X G c 55 (x := "_law_hull") (n := 69) (ps := ["_law_places_here"]) rfl rfl (fun _ _ _ _ _ _ us hl => match us, hl with | [_], _ => rfl)) k__law_places k__law_chain
  have k__law_cut_corners := kn_corners (P := P) (w := w) (base := base) T (fd_of X G c 62 (x := "_law_cut_corners") (n := 76) (ps := ["_law_plate", "_law_edge"]) rfl rfl (fun _ _ _ _ _ _ us hl => match us, hl with | [_, _], _ => rfl)) k__law_place
  have k__law_great := kn_great (P := P) (w := w) (base := base) (fd_of X G c 63 (x := "_law_great") (n := 77) (ps := ["_law_half_here"]) rfl rfl (fun _ _ _ _ _ _ us hl => match us, hl with | [_], _ => rfl)) k__law_hull k__law_cut_corners
  have lib : Lib P w K mg base := ⟨T, k_is_plate, k_hull, k_meet, k_sides, k_farthest, k_is_met, k_top, k_bottom, k_has_place, k_inside, k_cut_plate, k_put, k_mirror, k_led, k_led_place, k__law_half, k__law_height, k__law_middle⟩
  have k__law_told_right := kn_told (P := P) (w := w) (base := base) lib (fd_of X G c 64 (x := "_law_told_right") (n := 78) (ps := ["_law_plate"]) rfl rfl (fun _ _ _ _ _ _ us hl => match us, hl with | [_], _ => rfl))
  have k__law_pick := kn_pick (P := P) (w := w) (base := base) T (fd_of X G c 45 (x := "_law_pick") (n := 59) (ps := ["_law_source", "_law_most"]) rfl rfl (fun _ _ _ _ _ _ us hl => match us, hl with | [_, _], _ => rfl))
  have k__law_draw_place := kn_dplace (P := P) (w := w) (base := base) (fd_of X G c 59 (x := "_law_draw_place") (n := 73) (ps := ["_law_source", "_law_wide"]) rfl rfl (fun _ _ _ _ _ _ us hl => match us, hl with | [_, _], _ => rfl)) k__law_pick k__law_place
  have k__law_draw_pool := kn_dpool (P := P) (w := w) (base := base) T (fd_of X G c 60 (x := "_law_draw_pool") (n := 74) (ps := ["_law_source", "_law_many", "_law_wide"]) rfl rfl (fun _ _ _ _ _ _ us hl => match us, hl with | [_, _, _], _ => rfl)) k__law_draw_place
  have k__law_draw_plate := kn_dplate (P := P) (w := w) (base := base) T (fd_of X G c 61 (x := "_law_draw_plate") (n := 75) (ps := ["_law_source", "_law_pool"]) rfl rfl (fun _ _ _ _ _ _ us hl => match us, hl with | [_, _], _ => rfl)) k__law_pick k__law_hull
  exact ⟨lib, k__law_pick, k__law_draw_pool, k__law_draw_plate, k__law_direction, k__law_great, k__law_told_right, k__law_place⟩
end
end PH

set_option Elab.async false
set_option linter.all false
set_option maxRecDepth 100000
set_option maxHeartbeats 0
namespace PH
open PySem PySem.Spec PyProof.Rows L2
theorem facts {P : Program} {w : World} {K : PySem.W.Frag} {h : Heap} {mg : Str → Option Value} {f : Addr} (X : K.In h) (G : h.Ns mainGlobals mg) (hfa : mg ("law" : Str) = some (.ref f)) (c : He.SaysD fa fn K) (g : gcdB K = true) :
    ∃ fd : FuncData, (∀ (s : Shared) (v : Value), BindsTo s fd ⟨[v], []⟩ [("_law_script", v)]) ∧ ∀ base : Heap, K.In base → base.Ns mainGlobals mg → FnOk P w K mg base CX0 10 f fd ["_law_script"] (spLaw K) := by
  have T := top_of X G c g
  obtain ⟨fd, F⟩ := c.def_ 65 (d := dd "law" 79) rfl
  have e := hfa.symm.trans (He.glo_ok X G (c.fact 65 (f := .glo "law") rfl))
  cases e
  have b := FunD.bindsA (ps := ["_law_script"]) F fun _ _ _ _ _ _ us hl => match us, hl with | [_], _ => rfl
  have F1 : Fun K "law" "law" (topS 79) (He.ga K "law") fd := by
    obtain ⟨⟨oc, od, dV, kV, doc, pm, an, cdv, ct, osl, e, lk, hcd, hD, hK⟩, kp⟩ := F
    rcases hD with ⟨_, rfl⟩ | ⟨z, _⟩
    · exact ⟨⟨oc, od, kV, doc, pm, an, cdv, ct, osl, e, lk, hcd⟩, kp⟩
    · exact absurd rfl z
  refine ⟨fd, fun s v => b s [v] rfl, fun base _ _ => ?_⟩
  have L : LibS P w K mg base := libs_of X G c T
  obtain ⟨fo, fdo, Go, Gm, Gk, Gb⟩ := fn_open (P := P) (w := w) (base := base) T (fd_of X G c 44 (x := "_law_open_cells") (n := 58) (ps := ["_law_script"]) rfl rfl (fun _ _ _ _ _ _ us hl => match us, hl with | [_], _ => rfl))
  exact fn_law L Go Gm Gk Gb law_facts F1
end PH
open PySem PySem.W PySem.Calls PyProof.Rows
theorem PySem.Challenge.cw_plateheaps_k19_whole_plates_holds : PySem.Challenge.rw_plateheaps_k19_whole_plates.Holds := by
  w_on; o_law
  refine HandSHeadRun.head_imp (r := OpenLaw.row PySem.Challenge.rw_plateheaps_k19_whole_plates) (q := view (OpenLaw.row PySem.Challenge.rw_plateheaps_k19_whole_plates).prog [0, 79]) (H := PH.hk) (ob := PH.ob) (M := 20000) (loose := PH.loose) (d := HandSHeadRun.topDef (OpenLaw.row PySem.Challenge.rw_plateheaps_k19_whole_plates).prog 79) (kwd := []) PH.ob_eq
    PH.run (by kernel_rfl) (by kernel_rfl) (by kernel_rfl) (by rfl) (by first | assumption | decide +kernel) (by decide +kernel) ⟨rfl, rfl, rfl, rfl, rfl, by decide +kernel⟩ ?hw ?hc
  case hw => w_witness2
  case hc =>
    refine L2.walk_ofE (l := PySem.Challenge.rw_plateheaps_k19_whole_plates) (n := 63) (k := 10) (x := "_law_script") (CX := L2.CX0) rfl (by decide) (by kernel_rfl) ⟨rfl, by decide, by decide⟩ ?F (fun _ _ _ _ z => z)
    intro w mg fa h Y G hmg0
    obtain ⟨K, KX, c, g⟩ := Y
    have hmg : mg ("law" : PySem.Str) = some (.ref fa) := by
      have e : (HandSHeadRun.topDef (OpenLaw.row PySem.Challenge.rw_plateheaps_k19_whole_plates).prog 79).name = ("law" : PySem.Str) := by kernel_rfl
      rw [← e]
      exact hmg0
    obtain ⟨fd, hb, hF⟩ := PH.facts (P := (PySem.Challenge.rw_plateheaps_k19_whole_plates).prog) (w := w) KX G hmg c g
    exact ⟨K, fd, PH.spLaw K, KX, hb, fun H a ns hl _ hS => ⟨a, ns, rfl, hS, Nat.le_trans hl (by decide), fun _ => rfl⟩, hF⟩

