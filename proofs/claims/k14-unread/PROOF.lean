import PyProof.Rows.All
import Wide.All
import OpenK.AllK
import Wide.FinOn
import HandS.ForMost
import HandS.TupSets
import HandS.Deep
import HandS.IsInst
import HandS.Evl
import HandS.SortRule
import KE.KDictList
import HandS.Rev
import HandS.Text
import HandS.Iter
import HandS.Exc
import HandS.ExcOwn
import HandS.ExcCtx
import HandS.ExcIs
import HandS.HotCalls
import HandS.WordsExc
import PyProof.Rows.CountFlat
import HandS.SuiteRaise
import PySem.Challenge.RW_hullpart_k14_unread
set_option Elab.async false
set_option linter.all false
set_option maxRecDepth 100000
set_option maxHeartbeats 4000000
/-! Points of the plane: turns, order, the monotone chain. -/
namespace HP
abbrev Pt := Int × Int
def turn (a b c : Pt) : Int := (b.1 - a.1) * (c.2 - a.2) - (b.2 - a.2) * (c.1 - a.1)
theorem turn_rot (a b c : Pt) : turn a b c = turn b c a := by unfold turn; grind
theorem turn_swap (a b c : Pt) : turn a b c = - turn b a c := by unfold turn; grind
theorem turn_self1 (a c : Pt) : turn a a c = 0 := by unfold turn; grind
theorem turn_self2 (a b : Pt) : turn a b b = 0 := by unfold turn; grind
theorem turn_self3 (a b : Pt) : turn a b a = 0 := by unfold turn; grind

theorem nonneg_of_mul {u z : Int} (hu : 0 < u) (h : 0 ≤ u * z) : 0 ≤ z := by
  rcases Int.lt_or_le z 0 with h1 | h1
  · have := Int.mul_neg_of_pos_of_neg hu h1
    omega
  · exact h1
theorem pos_of_mul {u z : Int} (hu : 0 < u) (h : 0 < u * z) : 0 < z := by
  rcases Int.lt_or_le 0 z with h1 | h1
  · exact h1
  · have := Int.mul_nonneg (Int.le_of_lt hu) (show 0 ≤ -z by omega)
    have e : u * -z = -(u * z) := Int.mul_neg u z
    omega

/-- lexicographic order -/
def lt (a b : Pt) : Prop := a.1 < b.1 ∨ (a.1 = b.1 ∧ a.2 < b.2)
def gt (a b : Pt) : Prop := lt b a
instance (a b : Pt) : Decidable (lt a b) := by unfold lt; infer_instance
theorem lt_trans {a b c : Pt} (h : lt a b) (k : lt b c) : lt a c := by unfold lt at *; omega
theorem lt_irrefl (a : Pt) : ¬ lt a a := by unfold lt; omega
theorem lt_tot (a b : Pt) : lt a b ∨ a = b ∨ lt b a := by
  obtain ⟨x, y⟩ := a
  obtain ⟨u, v⟩ := b
  unfold lt
  by_cases h : x = u
  · by_cases k : y = v
    · right; left; rw [h, k]
    · simp only; omega
  · simp only; omega

/-- what the chain wants of an order -/
structure Ord (r : Pt → Pt → Prop) : Prop where
  trans : ∀ {a b c : Pt}, r a b → r b c → r a c
  irr : ∀ a : Pt, ¬ r a a
  k1 : ∀ {a b c d : Pt}, r a b → r b c → r c d → 0 < turn a b c → 0 < turn b c d → 0 < turn a b d ∧ 0 < turn a c d
  k2 : ∀ {s t p q : Pt}, r s t → r q t → r t p → 0 ≤ turn s t q → 0 < turn s t p → 0 ≤ turn t p q
  k3 : ∀ {b c q p : Pt}, r b c → r b q → r b p → 0 ≤ turn b c q → turn b c p ≤ 0 → 0 ≤ turn b p q

/-- vectors that point up in the order -/
def up (x y : Int) : Prop := 0 < x ∨ (x = 0 ∧ 0 < y)
theorem lt_up {a b : Pt} (h : lt a b) : up (b.1 - a.1) (b.2 - a.2) := by unfold lt at h; unfold up; omega
/-- u, v, w up: turning from u to v, and from v to w, is turning from u to w -/
theorem up_trans {ux uy vx vy wx wy : Int} (hu : up ux uy) (hv : up vx vy) (hw : up wx wy) (h1 : 0 ≤ ux * vy - uy * vx) (h2 : 0 < vx * wy - vy * wx) : 0 ≤ ux * wy - uy * wx := by
  have e : vx * (ux * wy - uy * wx) = wx * (ux * vy - uy * vx) + ux * (vx * wy - vy * wx) := by grind
  have hux : 0 ≤ ux := by unfold up at hu; omega
  have hwx : 0 ≤ wx := by unfold up at hw; omega
  rcases hv with hv | ⟨hv, hv2⟩
  · refine nonneg_of_mul hv ?_
    rw [e]
    have := Int.mul_nonneg hwx h1
    have := Int.mul_nonneg hux (Int.le_of_lt h2)
    omega
  · subst hv
    have : 0 ≤ vy * wx := Int.mul_nonneg (Int.le_of_lt hv2) hwx
    omega
theorem up_trans' {ux uy vx vy wx wy : Int} (hu : up ux uy) (hv : up vx vy) (hw : up wx wy) (h1 : 0 < ux * vy - uy * vx) (h2 : 0 ≤ vx * wy - vy * wx) : 0 ≤ ux * wy - uy * wx := by
  have e : vx * (ux * wy - uy * wx) = wx * (ux * vy - uy * vx) + ux * (vx * wy - vy * wx) := by grind
  have hux : 0 ≤ ux := by unfold up at hu; omega
  have hwx : 0 ≤ wx := by unfold up at hw; omega
  rcases hv with hv | ⟨hv, hv2⟩
  · refine nonneg_of_mul hv ?_
    rw [e]
    have := Int.mul_nonneg hwx (Int.le_of_lt h1)
    have := Int.mul_nonneg hux h2
    omega
  · subst hv
    have h3 : 0 ≤ vy * wx := Int.mul_nonneg (Int.le_of_lt hv2) hwx
    have h4 : vy * wx = 0 := by omega
    have h5 : wx = 0 := by
      rcases Int.mul_eq_zero.mp h4 with h | h <;> omega
    subst h5
    have h6 : 0 < wy := by unfold up at hw; omega
    have := Int.mul_nonneg hux (Int.le_of_lt h6)
    omega
theorem ord_lt : Ord lt where
  trans := lt_trans
  irr := lt_irrefl
  k1 := by
    intro a b c d h1 h2 h3 t1 t2
    have h := up_trans (lt_up h1) (lt_up h2) (lt_up h3) (by unfold turn at t1; grind) (by unfold turn at t2; grind)
    unfold turn at *
    constructor <;> grind
  k2 := by
    intro s t p q h1 h2 h3 t1 t2
    have h := up_trans (lt_up h2) (lt_up h1) (lt_up h3) (by unfold turn at t1; grind) (by unfold turn at t2; grind)
    unfold turn at *
    grind
  k3 := by
    intro b c q p h1 h2 h3 t1 t2
    -- p, c, q round b
    rcases Int.lt_or_le (turn b c p) 0 with h | h
    · have h := up_trans' (lt_up h3) (lt_up h1) (lt_up h2) (by unfold turn at h; grind) (by unfold turn at t1; grind)
      unfold turn at *
      grind
    · rcases Int.lt_or_le 0 (turn b c q) with h' | h'
      · have h := up_trans (lt_up h3) (lt_up h1) (lt_up h2) (by unfold turn at t2; grind) (by unfold turn at h'; grind)
        unfold turn at *
        grind
      · -- all three on one way
        have e1 : turn b c p = 0 := by omega
        have e2 : turn b c q = 0 := by omega
        have u := lt_up h1
        unfold turn at *
        rcases u with u | ⟨u, u2⟩
        · have e : (c.1 - b.1) * ((p.1 - b.1) * (q.2 - b.2) - (p.2 - b.2) * (q.1 - b.1)) = 0 := by grind
          rcases Int.mul_eq_zero.mp e with z | z <;> omega
        · have e : (c.2 - b.2) * ((p.1 - b.1) * (q.2 - b.2) - (p.2 - b.2) * (q.1 - b.1)) = 0 := by grind
          rcases Int.mul_eq_zero.mp e with z | z <;> omega
def neg (a : Pt) : Pt := (-a.1, -a.2)
theorem turn_neg (a b c : Pt) : turn (neg a) (neg b) (neg c) = turn a b c := by unfold turn neg; grind
theorem lt_neg {a b : Pt} (h : gt a b) : lt (neg a) (neg b) := by unfold gt lt at h; unfold lt neg; simp only; omega
theorem ord_gt : Ord gt where
  trans h k := lt_trans k h
  irr := lt_irrefl
  k1 := by
    intro a b c d h1 h2 h3 t1 t2
    have := ord_lt.k1 (lt_neg h1) (lt_neg h2) (lt_neg h3) (by rw [turn_neg]; exact t1) (by rw [turn_neg]; exact t2)
    rwa [turn_neg, turn_neg] at this
  k2 := by
    intro s t p q h1 h2 h3 t1 t2
    have := ord_lt.k2 (lt_neg h1) (lt_neg h2) (lt_neg h3) (by rw [turn_neg]; exact t1) (by rw [turn_neg]; exact t2)
    rwa [turn_neg] at this
  k3 := by
    intro b c q p h1 h2 h3 t1 t2
    have := ord_lt.k3 (lt_neg h1) (lt_neg h2) (lt_neg h3) (by rw [turn_neg]; exact t1) (by rw [turn_neg]; exact t2)
    rwa [turn_neg] at this
end HP
/-! The chain of one side. -/
namespace HP
/-- neighbours in a list -/
def Adj (R : Pt → Pt → Prop) : List Pt → Prop
  | a :: b :: r => R a b ∧ Adj R (b :: r)
  | _ => True
theorem Adj.tail {R : Pt → Pt → Prop} {a : Pt} {l : List Pt} (h : Adj R (a :: l)) : Adj R l := by
  cases l with
  | nil => trivial
  | cons b r => exact h.2
theorem Adj.imp {R S : Pt → Pt → Prop} : ∀ {l : List Pt}, (∀ a b, a ∈ l → b ∈ l → R a b → S a b) → Adj R l → Adj S l
  | [], _, _ => trivial
  | [_], _, _ => trivial
  | a :: b :: r, f, h => ⟨f a b (by simp) (by simp) h.1, Adj.imp (l := b :: r) (fun x y hx hy => f x y (List.mem_cons_of_mem _ hx) (List.mem_cons_of_mem _ hy)) h.2⟩
theorem Adj.and {R S : Pt → Pt → Prop} : ∀ {l : List Pt}, Adj R l → Adj S l → Adj (fun a b => R a b ∧ S a b) l
  | [], _, _ => trivial
  | [_], _, _ => trivial
  | _ :: b :: r, h, k => ⟨⟨h.1, k.1⟩, Adj.and (l := b :: r) h.2 k.2⟩
theorem Adj.glue {R : Pt → Pt → Prop} {x : Pt} : ∀ {l m : List Pt}, Adj R (l ++ [x]) → Adj R (x :: m) → Adj R (l ++ x :: m)
  | [], _, _, k => k
  | [a], _, h, k => ⟨h.1, k⟩
  | a :: b :: r, m, h, k => ⟨h.1, Adj.glue (l := b :: r) h.2 k⟩
theorem Adj.left {R : Pt → Pt → Prop} : ∀ {l m : List Pt}, Adj R (l ++ m) → Adj R l
  | [], _, _ => trivial
  | [_], _, _ => trivial
  | a :: b :: r, m, h => ⟨h.1, Adj.left (l := b :: r) (m := m) h.2⟩
theorem Adj.right {R : Pt → Pt → Prop} : ∀ {l m : List Pt}, Adj R (l ++ m) → Adj R m
  | [], _, h => h
  | a :: r, m, h => Adj.right (l := r) (m := m) (Adj.tail h)
theorem Adj.rev {R : Pt → Pt → Prop} : ∀ {l : List Pt}, Adj R l → Adj (fun a b => R b a) l.reverse
  | [], _ => trivial
  | [_], _ => trivial
  | a :: b :: r, h => by
    have ih := Adj.rev (l := b :: r) h.2
    rw [List.reverse_cons, List.reverse_cons, List.append_assoc]
    rw [List.reverse_cons] at ih
    exact Adj.glue ih ⟨h.1, trivial⟩
theorem Adj.get {R : Pt → Pt → Prop} : ∀ {l : List Pt} {i : Nat} {a b : Pt}, Adj R l → l[i]? = some a → l[i + 1]? = some b → R a b
  | [], _, _, _, _, h, _ => by simp at h
  | [_], 0, _, _, _, _, h => by simp at h
  | [_], i + 1, _, _, _, h, _ => by simp at h
  | x :: y :: r, 0, a, b, h, h1, h2 => by
    simp at h1 h2
    subst h1 h2
    exact h.1
  | x :: y :: r, i + 1, a, b, h, h1, h2 => Adj.get (l := y :: r) h.2 (by simpa using h1) (by simpa using h2)
theorem Adj.of_pairwise {R : Pt → Pt → Prop} : ∀ {l : List Pt}, l.Pairwise R → Adj R l
  | [], _ => trivial
  | [_], _ => trivial
  | a :: b :: r, h => by
    rw [List.pairwise_cons] at h
    exact ⟨h.1 b (by simp), Adj.of_pairwise (l := b :: r) h.2⟩

/-! stacks: the last point stands first -/
def popW : List Pt → Pt → List Pt
  | c :: b :: r, p => if turn b c p ≤ 0 then popW (b :: r) p else c :: b :: r
  | s, _ => s
def hrS (rows : List Pt) : List Pt := rows.foldl (fun s p => p :: popW s p) []
def halfRound (rows : List Pt) : List Pt := (hrS rows).reverse

def Conv : List Pt → Prop
  | c :: b :: a :: r => 0 < turn a b c ∧ Conv (b :: a :: r)
  | _ => True
theorem Conv.tail {c : Pt} {l : List Pt} (h : Conv (c :: l)) : Conv l := by
  match l, h with
  | [], _ => trivial
  | [_], _ => trivial
  | b :: a :: r, h => exact h.2
/-- all of ps to the left of each edge (b below c on the stack) -/
def Edges (ps : List Pt) : List Pt → Prop := Adj fun c b => ∀ q ∈ ps, 0 ≤ turn b c q

structure StkOk (r : Pt → Pt → Prop) (ps S : List Pt) : Prop where
  desc : S.Pairwise fun x y => r y x
  conv : Conv S
  edges : Edges ps S
  sub : ∀ x ∈ S, x ∈ ps
  bot : ∀ x, S.getLast? = some x → ∀ q ∈ ps, q = x ∨ r x q

section
variable {r : Pt → Pt → Prop} {ps : List Pt} {p : Pt}

/-- popping keeps the stack well, and what is above the new top lies to the left of the way from the top to p -/
theorem pop_ok (O : Ord r) (hp : ∀ q ∈ ps, r q p) (tot : ∀ x ∈ ps, ∀ y ∈ ps, r x y ∨ x = y ∨ r y x) :
    ∀ (S : List Pt) (t : Pt), StkOk r ps (t :: S) → (∀ q ∈ ps, r t q → 0 ≤ turn t p q) →
      ∃ t' S', popW (t :: S) p = t' :: S' ∧ StkOk r ps (t' :: S') ∧ (t' :: S').getLast? = (t :: S).getLast? ∧ (∀ q ∈ ps, r t' q → 0 ≤ turn t' p q) ∧ (∀ b S'', S' = b :: S'' → 0 < turn b t' p)
  | [], t, ok, g => ⟨t, [], rfl, ok, rfl, g, fun b S'' e => by cases e⟩
  | b :: S, t, ok, g => by
    by_cases h : turn b t p ≤ 0
    · have e : popW (t :: b :: S) p = popW (b :: S) p := by rw [popW, if_pos h]
      have hbt : r b t := (List.pairwise_cons.mp ok.desc).1 b (by simp)
      have ok' : StkOk r ps (b :: S) := ⟨(List.pairwise_cons.mp ok.desc).2, ok.conv.tail, Adj.tail ok.edges, fun x hx => ok.sub x (List.mem_cons_of_mem _ hx), fun x hx => ok.bot x (by rw [List.getLast?_cons_cons]; exact hx)⟩
      have g' : ∀ q ∈ ps, r b q → 0 ≤ turn b p q := fun q hq hbq => O.k3 hbt hbq (hp b (ok.sub b (by simp))) (ok.edges.1 q hq) h
      obtain ⟨t', S', e1, e2, e3, e4, e5⟩ := pop_ok O hp tot S b ok' g'
      exact ⟨t', S', e.trans e1, e2, e3.trans (by rw [List.getLast?_cons_cons]), e4, e5⟩
    · refine ⟨t, b :: S, by rw [popW, if_neg h], ok, rfl, g, fun b' S'' e => ?_⟩
      cases e
      omega
/-- p beyond all: it lies to the left of all edges of the stack -/
theorem edges_new (O : Ord r) : ∀ (S : List Pt) (t : Pt), (t :: S).Pairwise (fun x y => r y x) → Conv (t :: S) → r t p → (∀ b S'', S = b :: S'' → 0 < turn b t p) → Adj (fun c b => 0 < turn b c p) (t :: S)
  | [], t, _, _, _, _ => trivial
  | [b], t, _, _, _, h => ⟨h b [] rfl, trivial⟩
  | b :: a :: S, t, hd, hc, ht, h => by
    have hbt : 0 < turn b t p := h b _ rfl
    have d := List.pairwise_cons.mp hd
    have d2 := List.pairwise_cons.mp d.2
    have rbt : r b t := d.1 b (by simp)
    have rab : r a b := d2.1 a (by simp)
    refine ⟨hbt, edges_new O (a :: S) b d.2 hc.tail (O.trans rbt ht) fun a' S'' e => ?_⟩
    cases e
    exact (O.k1 rab rbt ht hc.1 hbt).1
theorem step_ok (O : Ord r) (hp : ∀ q ∈ ps, r q p) (tot : ∀ x ∈ ps, ∀ y ∈ ps, r x y ∨ x = y ∨ r y x) {t : Pt} {S : List Pt} (ok : StkOk r ps (t :: S)) (top : ∀ q ∈ ps, q = t ∨ r q t) :
    StkOk r (ps ++ [p]) (p :: popW (t :: S) p) ∧ (p :: popW (t :: S) p).getLast? = (t :: S).getLast? := by
  obtain ⟨t', S', e1, ok', e3, g, h5⟩ := pop_ok O hp tot S t ok fun q hq hr => by
    rcases top q hq with e | e
    · subst e; exact absurd hr (O.irr _)
    · exact absurd (O.trans hr e) (O.irr _)
  rw [e1]
  have ht' : t' ∈ ps := ok'.sub t' (by simp)
  have en := edges_new O S' t' ok'.desc ok'.conv (hp t' ht') h5
  refine ⟨⟨?_, ?_, ?_, ?_, ?_⟩, ?_⟩
  · exact List.pairwise_cons.mpr ⟨fun x hx => hp x (ok'.sub x hx), ok'.desc⟩
  · cases S' with
    | nil => trivial
    | cons b S'' => exact ⟨h5 b S'' rfl, ok'.conv⟩
  · refine ⟨fun q hq => ?_, ?_⟩
    · rcases List.mem_append.mp hq with hq | hq
      · rcases tot t' ht' q hq with h | h | h
        · exact g q hq h
        · subst h; rw [turn_self3]; omega
        · cases S' with
          | nil =>
            rcases ok'.bot t' rfl q hq with h' | h'
            · subst h'; exact absurd h (O.irr _)
            · exact absurd (O.trans h h') (O.irr _)
          | cons b S'' =>
            have rbt : r b t' := (List.pairwise_cons.mp ok'.desc).1 b (by simp)
            exact O.k2 rbt h (hp t' ht') (ok'.edges.1 q hq) (h5 b S'' rfl)
      · rw [List.mem_singleton.mp hq, turn_self2]; omega
    · refine Adj.imp (fun a b _ _ hab => ?_) (Adj.and ok'.edges en)
      intro q hq
      rcases List.mem_append.mp hq with hq | hq
      · exact hab.1 q hq
      · rw [List.mem_singleton.mp hq]; exact Int.le_of_lt hab.2
  · intro x hx
    rcases List.mem_cons.mp hx with e | hx
    · rw [e]; simp
    · exact List.mem_append_left _ (ok'.sub x hx)
  · intro x hx q hq
    rw [List.getLast?_cons_cons] at hx
    rcases List.mem_append.mp hq with hq | hq
    · exact ok'.bot x hx q hq
    · rw [List.mem_singleton.mp hq]
      exact .inr (hp x (ok'.sub x (List.mem_of_getLast? hx)))
  · rw [List.getLast?_cons_cons, e3]
end
/-- the whole chain -/
theorem chain_ok {r : Pt → Pt → Prop} (O : Ord r) : ∀ (rows done S : List Pt) (t : Pt), (done ++ rows).Pairwise r → (∀ x ∈ done ++ rows, ∀ y ∈ done ++ rows, r x y ∨ x = y ∨ r y x) → StkOk r done (t :: S) → (∀ q ∈ done, q = t ∨ r q t) →
    ∃ t' S', rows.foldl (fun s p => p :: popW s p) (t :: S) = t' :: S' ∧ StkOk r (done ++ rows) (t' :: S') ∧ (t' :: S').getLast? = (t :: S).getLast? ∧ (∀ q ∈ done ++ rows, q = t' ∨ r q t')
  | [], done, S, t, _, _, ok, top => ⟨t, S, rfl, by rw [List.append_nil]; exact ok, rfl, by rw [List.append_nil]; exact top⟩
  | p :: rows, done, S, t, hs, tot, ok, top => by
    have hp : ∀ q ∈ done, r q p := fun q hq => (List.pairwise_append.mp hs).2.2 q hq p (by simp)
    obtain ⟨ok1, e1⟩ := step_ok O hp (fun x hx y hy => tot x (List.mem_append_left _ hx) y (List.mem_append_left _ hy)) ok top
    have e : done ++ p :: rows = (done ++ [p]) ++ rows := by simp
    rw [e] at hs tot ⊢
    obtain ⟨t', S', f1, f2, f3, f4⟩ := chain_ok O rows (done ++ [p]) _ p hs tot ok1 fun q hq => by
      rcases List.mem_append.mp hq with hq | hq
      · exact .inr (hp q hq)
      · exact .inl (List.mem_singleton.mp hq)
    exact ⟨t', S', f1, f2, f3.trans e1, f4⟩
theorem hrS_ok {r : Pt → Pt → Prop} (O : Ord r) (a : Pt) (rows : List Pt) (hs : (a :: rows).Pairwise r) (tot : ∀ x ∈ a :: rows, ∀ y ∈ a :: rows, r x y ∨ x = y ∨ r y x) :
    ∃ t S, hrS (a :: rows) = t :: S ∧ StkOk r (a :: rows) (t :: S) ∧ (t :: S).getLast? = some a ∧ (∀ q ∈ a :: rows, q = t ∨ r q t) := by
  have ok : StkOk r [a] (a :: []) := ⟨by simp, trivial, trivial, by simp, fun x hx q hq => by
    simp at hx hq
    exact .inl (hq.trans hx)⟩
  obtain ⟨t', S', f1, f2, f3, f4⟩ := chain_ok O rows [a] [] a (by simpa using hs) (by simpa using tot) ok (by simp)
  exact ⟨t', S', f1, by simpa using f2, f3, by simpa using f4⟩
/-- from the lowest point all edges but the first are seen turning left -/
theorem fan_bot {r : Pt → Pt → Prop} (O : Ord r) : ∀ (S : List Pt) (b c z : Pt), (c :: b :: S).Pairwise (fun x y => r y x) → Conv (c :: b :: S) → (b :: S).getLast? = some z → z ≠ b → 0 < turn z b c
  | [], b, c, z, _, _, hz, hn => by
    simp at hz
    exact absurd hz.symm hn
  | [a], b, c, z, _, hc, hz, _ => by
    simp at hz
    subst hz
    exact hc.1
  | a :: a' :: S, b, c, z, hd, hc, hz, _ => by
    have d := List.pairwise_cons.mp hd
    have d2 := List.pairwise_cons.mp d.2
    have d3 := List.pairwise_cons.mp d2.2
    have hz' : (a :: a' :: S).getLast? = some z := by
      rw [List.getLast?_cons_cons] at hz
      exact hz
    have hzm : z ∈ a' :: S := by
      rw [List.getLast?_cons_cons] at hz'
      exact List.mem_of_getLast? hz'
    have rza : r z a := d3.1 z hzm
    have ih := fan_bot O (a' :: S) a b z d.2 hc.tail hz' (fun e => by subst e; exact O.irr _ rza)
    exact (O.k1 rza (d2.1 a (by simp)) (d.1 b (by simp)) ih hc.1).2
end HP
/-! The corners. -/
namespace HP
/-! sorted, each once -/
def insP (p : Pt) : List Pt → List Pt
  | [] => [p]
  | q :: r => if p = q then q :: r else if lt p q then p :: q :: r else q :: insP p r
def srt : List Pt → List Pt
  | [] => []
  | p :: r => insP p (srt r)
theorem mem_insP {p x : Pt} : ∀ {l : List Pt}, x ∈ insP p l ↔ x = p ∨ x ∈ l
  | [] => by simp [insP]
  | q :: r => by
    unfold insP
    split
    · rename_i h; subst h; simp
    · split
      · simp
      · simp only [List.mem_cons, mem_insP (l := r)]
        constructor
        · rintro (h | h | h) <;> simp [h]
        · rintro (h | h | h) <;> simp [h]
theorem mem_srt {x : Pt} : ∀ {l : List Pt}, x ∈ srt l ↔ x ∈ l
  | [] => by simp [srt]
  | p :: r => by rw [srt, mem_insP, mem_srt (l := r)]; simp
theorem insP_sorted {p : Pt} : ∀ {l : List Pt}, l.Pairwise lt → (insP p l).Pairwise lt
  | [], _ => by simp [insP]
  | q :: r, h => by
    have d := List.pairwise_cons.mp h
    unfold insP
    split
    · exact h
    · rename_i hne
      split
      · rename_i hl
        refine List.pairwise_cons.mpr ⟨fun x hx => ?_, h⟩
        rcases List.mem_cons.mp hx with e | hx
        · rw [e]; exact hl
        · exact lt_trans hl (d.1 x hx)
      · rename_i hl
        refine List.pairwise_cons.mpr ⟨fun x hx => ?_, insP_sorted d.2⟩
        rcases mem_insP.mp hx with e | hx
        · rw [e]
          rcases lt_tot p q with h' | h' | h'
          · exact absurd h' hl
          · exact absurd h' hne
          · exact h'
        · exact d.1 x hx
theorem srt_sorted : ∀ (l : List Pt), (srt l).Pairwise lt
  | [] => List.Pairwise.nil
  | _ :: r => insP_sorted (srt_sorted r)
/-- two rising lists of the same points are one -/
theorem sorted_unique : ∀ {l m : List Pt}, l.Pairwise lt → m.Pairwise lt → (∀ x, x ∈ l ↔ x ∈ m) → l = m
  | [], [], _, _, _ => rfl
  | [], b :: m, _, _, h => by have := (h b).mpr (by simp); simp at this
  | a :: l, [], _, _, h => by have := (h a).mp (by simp); simp at this
  | a :: l, b :: m, hl, hm, h => by
    have dl := List.pairwise_cons.mp hl
    have dm := List.pairwise_cons.mp hm
    have e : a = b := by
      have h1 := (h a).mp (by simp)
      have h2 := (h b).mpr (by simp)
      rcases List.mem_cons.mp h1 with e | h1
      · exact e
      · rcases List.mem_cons.mp h2 with e | h2
        · exact e.symm
        · exact absurd (lt_trans (dl.1 b h2) (dm.1 a h1)) (lt_irrefl _)
    subst e
    have t : l = m := sorted_unique dl.2 dm.2 fun x => by
      have k := h x
      simp only [List.mem_cons] at k
      constructor
      · intro hx
        rcases k.mp (.inr hx) with e | e
        · subst e; exact absurd (dl.1 _ hx) (lt_irrefl _)
        · exact e
      · intro hx
        rcases k.mpr (.inr hx) with e | e
        · subst e; exact absurd (dm.1 _ hx) (lt_irrefl _)
        · exact e
    rw [t]

def cornersOf (ps : List Pt) : List Pt :=
  if (srt ps).length < 3 then srt ps else (halfRound (srt ps)).dropLast ++ (halfRound (srt ps).reverse).dropLast

/-- a line at a point -/
def at3 (a b c : Int) (p : Pt) : Int := a * p.1 + b * p.2 + c
/-- p is shut out of ps -/
def Sep (ps : List Pt) (p : Pt) : Prop := ∃ a b c : Int, (∀ q ∈ ps, 0 ≤ at3 a b c q) ∧ at3 a b c p < 0
theorem Sep.sub {ps qs : List Pt} {p : Pt} (h : Sep ps p) (k : ∀ q ∈ qs, q ∈ ps) : Sep qs p := by
  obtain ⟨a, b, c, h1, h2⟩ := h
  exact ⟨a, b, c, fun q hq => h1 q (k q hq), h2⟩

structure Rim (ps rim : List Pt) : Prop where
  sub : ∀ x ∈ rim, x ∈ ps
  nil : ps ≠ [] → rim ≠ []
  nodup : rim.Nodup
  least : ∀ z r, rim = z :: r → ∀ q ∈ ps, q = z ∨ lt z q
  edge : ∀ z w r, rim = z :: w :: r → Adj (fun a b => ∀ q ∈ ps, 0 ≤ turn a b q) (rim ++ [z])
  fan : ∀ z r, rim = z :: r → Adj (fun a b => 0 < turn z a b) r
  one : ∀ z, rim = [z] → ∀ q ∈ ps, q = z
  two : ∀ z w, rim = [z, w] → lt z w ∧ ∀ q ∈ ps, q = w ∨ lt q w
  ext : ∀ x ∈ rim, Sep (ps.filter (· ≠ x)) x

/-- a bound of all places -/
theorem bound_of : ∀ (ps : List Pt), ∃ N : Int, 0 < N ∧ ∀ q ∈ ps, -N < q.1 ∧ q.1 < N ∧ -N < q.2 ∧ q.2 < N
  | [] => ⟨1, by omega, by simp⟩
  | p :: r => by
    obtain ⟨N, h0, h⟩ := bound_of r
    refine ⟨N + p.1.natAbs + p.2.natAbs + 1, by omega, fun q hq => ?_⟩
    rcases List.mem_cons.mp hq with e | hq
    · subst e; omega
    · have := h q hq; omega
/-- the least point is apart from the others -/
theorem sep_least {ps : List Pt} {z : Pt} (hz : z ∈ ps) (h : ∀ q ∈ ps, q = z ∨ lt z q) : Sep (ps.filter (· ≠ z)) z := by
  obtain ⟨N, h0, hN⟩ := bound_of ps
  refine ⟨2 * N, 1, -(2 * N * z.1) - z.2 - 1, fun q hq => ?_, ?_⟩
  · obtain ⟨hq, hne⟩ := List.mem_filter.mp hq
    have hl : lt z q := by
      rcases h q hq with e | e
      · simp [e] at hne
      · exact e
    have b1 := hN q hq
    have b2 := hN z hz
    unfold at3
    rcases hl with hl | ⟨h1, h2⟩
    · have : 2 * N * 1 ≤ 2 * N * (q.1 - z.1) := Int.mul_le_mul_of_nonneg_left (by omega) (by omega)
      grind
    · grind
  · unfold at3; grind
theorem at3_neg (a b c : Int) (p : Pt) : at3 (-a) (-b) c (neg p) = at3 a b c p := by unfold at3 neg; grind
theorem sep_greatest {ps : List Pt} {z : Pt} (hz : z ∈ ps) (h : ∀ q ∈ ps, q = z ∨ lt q z) : Sep (ps.filter (· ≠ z)) z := by
  obtain ⟨N, h0, hN⟩ := bound_of ps
  refine ⟨-(2 * N), -1, 2 * N * z.1 + z.2 - 1, fun q hq => ?_, ?_⟩
  · obtain ⟨hq, hne⟩ := List.mem_filter.mp hq
    have hl : lt q z := by
      rcases h q hq with e | e
      · simp [e] at hne
      · exact e
    have b1 := hN q hq
    have b2 := hN z hz
    unfold at3
    rcases hl with hl | ⟨h1, h2⟩
    · have : 2 * N * 1 ≤ 2 * N * (z.1 - q.1) := Int.mul_le_mul_of_nonneg_left (by omega) (by omega)
      grind
    · grind
  · unfold at3; grind
/-- a point between two edges that turn is apart from the others -/
theorem sep_turn {ps : List Pt} {a b c : Pt} (h1 : ∀ q ∈ ps, 0 ≤ turn a b q) (h2 : ∀ q ∈ ps, 0 ≤ turn b c q) (h : 0 < turn a b c) : Sep (ps.filter (· ≠ b)) b := by
  refine ⟨-(b.2 - a.2) - (c.2 - b.2), (b.1 - a.1) + (c.1 - b.1), -(b.1 - a.1) * a.2 + (b.2 - a.2) * a.1 - (c.1 - b.1) * b.2 + (c.2 - b.2) * b.1 - 1, fun q hq => ?_, ?_⟩
  · obtain ⟨hq, hne⟩ := List.mem_filter.mp hq
    have e1 := h1 q hq
    have e2 := h2 q hq
    have key : turn a b q + turn b c q ≠ 0 := by
      intro e
      have z1 : turn a b q = 0 := by omega
      have z2 : turn b c q = 0 := by omega
      have x : turn a b c * (q.1 - b.1) = 0 := by unfold turn at *; grind
      have y : turn a b c * (q.2 - b.2) = 0 := by unfold turn at *; grind
      have x' : q.1 - b.1 = 0 := by rcases Int.mul_eq_zero.mp x with z | z <;> omega
      have y' : q.2 - b.2 = 0 := by rcases Int.mul_eq_zero.mp y with z | z <;> omega
      have : q = b := by
        obtain ⟨qx, qy⟩ := q
        obtain ⟨bx, b_y⟩ := b
        simp only at x' y'
        rw [show qx = bx by omega, show qy = b_y by omega]
      simp [this] at hne
    have k : 0 < turn a b q + turn b c q := by omega
    unfold at3
    unfold turn at k
    grind
  · unfold at3; grind
end HP
/-! The corners keep Rim. -/
namespace HP
theorem conv_ext {ps : List Pt} : ∀ (S : List Pt) (c b a : Pt) (pre : List Pt), Conv (pre ++ c :: b :: a :: S) → Edges ps (pre ++ c :: b :: a :: S) → Sep (ps.filter (· ≠ b)) b
  | S, c, b, a, [], hc, he => sep_turn he.2.1 he.1 hc.1
  | S, c, b, a, x :: pre, hc, he => conv_ext S c b a pre hc.tail (Adj.tail he)
/-- each point of a stack is apart from the others: the top and the bottom as greatest and least -/
theorem stack_ext {r : Pt → Pt → Prop} {ps S : List Pt} {t z : Pt} (ok : StkOk r ps (t :: S)) (hz : (t :: S).getLast? = some z) (ht : Sep (ps.filter (· ≠ t)) t) (hb : Sep (ps.filter (· ≠ z)) z) : ∀ x ∈ t :: S, Sep (ps.filter (· ≠ x)) x := by
  intro x hx
  obtain ⟨pre, post, e⟩ := List.append_of_mem hx
  cases hpre : pre.reverse with
  | nil =>
    have : pre = [] := by simpa using hpre
    subst this
    simp at e
    rw [← e.1]; exact ht
  | cons c pre' =>
    have hp : pre = pre'.reverse ++ [c] := by
      have := congrArg List.reverse hpre
      simpa using this
    cases post with
    | nil =>
      rw [e] at hz
      simp at hz
      subst hz
      exact hb
    | cons a post' =>
      have e2 : t :: S = pre'.reverse ++ c :: x :: a :: post' := by rw [e, hp]; simp
      have hc := ok.conv
      have he := ok.edges
      rw [e2] at hc he
      exact conv_ext post' c x a _ hc he
/-- turning round the least point is an order -/
theorem fan_trans {z a b c : Pt} (ha : lt z a) (hb : lt z b) (hc : lt z c) (h1 : 0 < turn z a b) (h2 : 0 < turn z b c) : 0 < turn z a c := by
  have ua := lt_up ha
  have ub := lt_up hb
  have uc := lt_up hc
  have h := up_trans ua ub uc (by unfold turn at h1; grind) (by unfold turn at h2; grind)
  rcases Int.lt_or_le 0 (turn z a c) with k | k
  · exact k
  · exfalso
    have e : turn z a c = 0 := by unfold turn at k ⊢; omega
    -- (b-z) * turn z a c = (c-z) * turn z a b + (a-z) * turn z b c
    have ex : (c.1 - z.1) * turn z a b + (a.1 - z.1) * turn z b c = 0 := by unfold turn at *; grind
    have ey : (c.2 - z.2) * turn z a b + (a.2 - z.2) * turn z b c = 0 := by unfold turn at *; grind
    have hax : 0 ≤ a.1 - z.1 := by unfold up at ua; omega
    have hcx : 0 ≤ c.1 - z.1 := by unfold up at uc; omega
    have p1 := Int.mul_nonneg hcx (Int.le_of_lt h1)
    have p2 := Int.mul_nonneg hax (Int.le_of_lt h2)
    have q1 : (c.1 - z.1) * turn z a b = 0 := by omega
    have q2 : (a.1 - z.1) * turn z b c = 0 := by omega
    have c0 : c.1 - z.1 = 0 := by rcases Int.mul_eq_zero.mp q1 with z | z <;> omega
    have a0 : a.1 - z.1 = 0 := by rcases Int.mul_eq_zero.mp q2 with z | z <;> omega
    have cy : 0 < c.2 - z.2 := by unfold up at uc; omega
    have ay : 0 < a.2 - z.2 := by unfold up at ua; omega
    have := Int.mul_pos cy h1
    have := Int.mul_pos ay h2
    omega
theorem fan_pairwise {z : Pt} : ∀ {r : List Pt}, (∀ x ∈ r, lt z x) → Adj (fun a b => 0 < turn z a b) r → r.Pairwise fun a b => 0 < turn z a b
  | [], _, _ => List.Pairwise.nil
  | [_], _, _ => by simp
  | a :: b :: r, hl, h => by
    have ih := fan_pairwise (r := b :: r) (fun x hx => hl x (List.mem_cons_of_mem _ hx)) h.2
    refine List.pairwise_cons.mpr ⟨fun x hx => ?_, ih⟩
    rcases List.mem_cons.mp hx with e | hx
    · rw [e]; exact h.1
    · exact fan_trans (hl a (by simp)) (hl b (by simp)) (hl x (by simp [hx])) h.1 ((List.pairwise_cons.mp ih).1 x hx)
theorem edges_rev {ps S : List Pt} (h : Edges ps S) : Adj (fun a b => ∀ q ∈ ps, 0 ≤ turn a b q) S.reverse := Adj.rev h

theorem rim_few {ps : List Pt} (h : (srt ps).length < 3) : Rim ps (srt ps) := by
  have hs := srt_sorted ps
  have hm : ∀ x, x ∈ srt ps ↔ x ∈ ps := fun x => mem_srt
  have hn : ps ≠ [] → srt ps ≠ [] := fun h1 h2 => by
    cases ps with
    | nil => exact h1 rfl
    | cons a r => have := (hm a).mpr (by simp); rw [h2] at this; simp at this
  match hr : srt ps, h with
  | [], _ =>
    exact ⟨fun x hx => by simp at hx, fun h1 _ => hn h1 hr, by simp, fun z r e => (by cases e), fun z w r e => (by cases e), fun z r e => (by cases e), fun z e => (by cases e), fun z w e => (by cases e), fun x hx => by simp at hx⟩
  | [z], _ =>
    rw [hr] at hm
    have hall : ∀ q ∈ ps, q = z := fun q hq => by simpa using (hm q).mpr hq
    refine ⟨fun x hx => (hm x).mp hx, fun _ => by simp, by simp, fun z' r e q hq => ?_, fun z w r e => (by cases e), fun z' r e => ?_, fun z' e q hq => ?_, fun z w e => (by cases e), fun x hx => ?_⟩
    · cases e; exact .inl (hall q hq)
    · cases e; trivial
    · cases e; exact hall q hq
    · simp at hx
      subst hx
      exact sep_least ((hm x).mp (by simp)) fun q hq => .inl (hall q hq)
  | [z, w], _ =>
    rw [hr] at hm hs
    have hzw : lt z w := (List.pairwise_cons.mp hs).1 w (by simp)
    have hall : ∀ q ∈ ps, q = z ∨ q = w := fun q hq => by simpa using (hm q).mpr hq
    have hmin : ∀ q ∈ ps, q = z ∨ lt z q := fun q hq => (hall q hq).imp id fun e => by rw [e]; exact hzw
    have hmax : ∀ q ∈ ps, q = w ∨ lt q w := fun q hq => (hall q hq).symm.imp id fun e => by rw [e]; exact hzw
    have hne : z ≠ w := fun e => by subst e; exact lt_irrefl _ hzw
    refine ⟨fun x hx => (hm x).mp hx, fun _ => by simp, by simp [hne], fun z' r e q hq => ?_, fun z' w' r e => ?_, fun z' r e => ?_, fun z' e q hq => (by cases e), fun z' w' e => ?_, fun x hx => ?_⟩
    · cases e; exact hmin q hq
    · cases e
      refine ⟨fun q hq => ?_, fun q hq => ?_, trivial⟩
      · rcases hall q hq with e | e
        · rw [e, turn_self3]; omega
        · rw [e, turn_self2]; omega
      · rcases hall q hq with e | e
        · rw [e, turn_self2]; omega
        · rw [e, turn_self3]; omega
    · cases e; trivial
    · cases e; exact ⟨hzw, hmax⟩
    · simp at hx
      rcases hx with e | e
      · subst e; exact sep_least ((hm x).mp (by simp)) hmin
      · subst e; exact sep_greatest ((hm x).mp (by simp)) hmax
theorem getLast?_tail {α : Type} {t z : α} {S : List α} (h : (t :: S).getLast? = some z) (hn : t ≠ z) : ∃ S', S = S' ++ [z] := by
  cases S with
  | nil => simp at h; exact absurd h hn
  | cons b S =>
    rw [List.getLast?_cons_cons] at h
    exact List.getLast?_eq_some_iff.mp h
theorem rim_many {ps : List Pt} (h : ¬ (srt ps).length < 3) : Rim ps ((halfRound (srt ps)).dropLast ++ (halfRound (srt ps).reverse).dropLast) := by
  have hs := srt_sorted ps
  have hm : ∀ x, x ∈ srt ps ↔ x ∈ ps := fun x => mem_srt
  have tot : ∀ x ∈ srt ps, ∀ y ∈ srt ps, lt x y ∨ x = y ∨ lt y x := fun x _ y _ => lt_tot x y
  -- the lower side
  obtain ⟨a, rows, hr⟩ : ∃ a rows, srt ps = a :: rows := by
    cases e : srt ps with
    | nil => rw [e] at h; simp at h
    | cons a r => exact ⟨a, r, rfl⟩
  obtain ⟨t, S, eL, okL, lastL, topL⟩ := hrS_ok ord_lt a rows (by rw [← hr]; exact hs) (fun x _ y _ => lt_tot x y)
  rw [← hr] at eL okL topL
  obtain ⟨a', rows', hr'⟩ : ∃ a' rows', (srt ps).reverse = a' :: rows' := by
    cases e : (srt ps).reverse with
    | nil => rw [List.reverse_eq_nil_iff] at e; rw [e] at hr; cases hr
    | cons a r => exact ⟨a, r, rfl⟩
  obtain ⟨t', S', eU, okU, lastU, topU⟩ := hrS_ok ord_gt a' rows' (by
    rw [← hr', List.pairwise_reverse]; exact hs) (fun x _ y _ => by
    rcases lt_tot x y with h | h | h
    · exact .inr (.inr h)
    · exact .inr (.inl h)
    · exact .inl h)
  rw [← hr'] at eU okU topU
  -- a = t' the least, a' = t the greatest
  have min_a : ∀ q ∈ srt ps, q = a ∨ lt a q := okL.bot a lastL
  have max_t : ∀ q ∈ srt ps, q = t ∨ lt q t := topL
  have a_in : a ∈ srt ps := by rw [hr]; simp
  have t_in : t ∈ srt ps := okL.sub t (by simp)
  have max_a' : ∀ q ∈ srt ps, q = a' ∨ lt q a' := fun q hq => okU.bot a' lastU q (by simpa using hq)
  have min_t' : ∀ q ∈ srt ps, q = t' ∨ lt t' q := fun q hq => topU q (by simpa using hq)
  have t'_in : t' ∈ srt ps := by simpa using okU.sub t' (by simp)
  have a'_in : a' ∈ srt ps := by
    have : a' ∈ (srt ps).reverse := by rw [hr']; simp
    simpa using this
  have et' : t' = a := by
    rcases min_a t' t'_in with e | e
    · exact e
    · rcases min_t' a a_in with e' | e'
      · exact e'.symm
      · exact absurd (lt_trans e e') (lt_irrefl _)
  have ea' : a' = t := by
    rcases max_t a' a'_in with e | e
    · exact e
    · rcases max_a' t t_in with e' | e'
      · exact e'.symm
      · exact absurd (lt_trans e e') (lt_irrefl _)
  subst et' ea'
  have hat : lt t' a' := by
    obtain ⟨b, rows2, e2⟩ : ∃ b rows2, rows = b :: rows2 := by
      cases rows with
      | nil => rw [hr] at h; simp at h
      | cons b r => exact ⟨b, r, rfl⟩
    have hb : lt t' b := by
      rw [hr, e2] at hs
      exact (List.pairwise_cons.mp hs).1 b (by simp)
    rcases max_t b (by rw [hr, e2]; simp) with e | e
    · rw [← e]; exact hb
    · exact lt_trans hb e
  have hne : a' ≠ t' := fun e => by rw [e] at hat; exact lt_irrefl _ hat
  obtain ⟨S1, eS⟩ := getLast?_tail lastL hne
  obtain ⟨S2, eS'⟩ := getLast?_tail lastU (Ne.symm hne)
  have hL : (halfRound (srt ps)).dropLast = S.reverse := by
    unfold halfRound; rw [eL, List.reverse_cons, List.dropLast_concat]
  have hU : (halfRound (srt ps).reverse).dropLast = S'.reverse := by
    unfold halfRound; rw [eU, List.reverse_cons, List.dropLast_concat]
  rw [hL, hU]
  have hSr : S.reverse = t' :: S1.reverse := by rw [eS]; simp
  have hSr' : S'.reverse = a' :: S2.reverse := by rw [eS']; simp
  have inS : ∀ x ∈ S, x ∈ srt ps := fun x hx => okL.sub x (List.mem_cons_of_mem _ hx)
  have inS' : ∀ x ∈ S', x ∈ srt ps := fun x hx => by simpa using okU.sub x (List.mem_cons_of_mem _ hx)
  have ltS1 : ∀ x ∈ S1, lt t' x := fun x hx => by
    have d := (List.pairwise_cons.mp okL.desc).2
    rw [eS, List.pairwise_append] at d
    exact d.2.2 x hx t' (by simp)
  have ltS' : ∀ x ∈ S', lt t' x := fun x hx => (List.pairwise_cons.mp okU.desc).1 x hx
  have edgesL := edges_rev okL.edges
  have edgesU := edges_rev okU.edges
  rw [List.reverse_cons] at edgesL edgesU
  have cyc : Adj (fun a b => ∀ q ∈ ps, 0 ≤ turn a b q) (S.reverse ++ S'.reverse ++ [t']) := by
    have h2 : Adj (fun a b => ∀ q ∈ srt ps, 0 ≤ turn a b q) (S.reverse ++ (S'.reverse ++ [t'])) := by
      rw [hSr'] at edgesU ⊢
      refine Adj.glue edgesL ?_
      refine Adj.imp (fun a b _ _ hab q hq => hab q (by simpa using hq)) edgesU
    rw [List.append_assoc]
    exact Adj.imp (fun a b _ _ hab q hq => hab q ((hm q).mpr hq)) h2
  have fan : Adj (fun a b => 0 < turn t' a b) (S1.reverse ++ S'.reverse) := by
    have f2 : Adj (fun a b => 0 < turn t' a b) S'.reverse := by
      -- the upper side, seen from its top
      cases hS' : S' with
      | nil => trivial
      | cons b S3 =>
        have d := List.pairwise_cons.mp okU.desc
        have hc := okU.conv
        rw [hS'] at d hc
        have hb : gt b t' := d.1 b (by simp)
        have en := edges_new ord_gt S3 b d.2 hc.tail hb fun b' S'' e => by subst e; exact hc.1
        refine Adj.imp (fun x y _ _ k => ?_) (Adj.rev en)
        rw [turn_rot]; exact k
    have f1 : Adj (fun a b => 0 < turn t' a b) (S1.reverse ++ [a']) := by
      -- the lower side, seen from its bottom
      have g : ∀ (L : List Pt) (c : Pt), (c :: (L ++ [t'])).Pairwise (fun x y => lt y x) → Conv (c :: (L ++ [t'])) → Adj (fun c b => 0 < turn t' b c) (c :: L) := by
        intro L
        induction L with
        | nil => intro c _ _; trivial
        | cons b L ih =>
          intro c hd hc
          refine ⟨?_, ih b (List.pairwise_cons.mp hd).2 hc.tail⟩
          refine fan_bot ord_lt (L ++ [t']) b c t' hd hc (List.getLast?_eq_some_iff.mpr ⟨b :: L, rfl⟩) ?_
          have := (List.pairwise_cons.mp (List.pairwise_cons.mp hd).2).1 t' (by simp)
          intro e
          rw [← e] at this
          exact lt_irrefl _ this
      have k := g S1 a' (by rw [← eS]; exact okL.desc) (by rw [← eS]; exact okL.conv)
      have k2 := Adj.rev k
      rw [List.reverse_cons] at k2
      exact k2
    rw [hSr'] at f2 ⊢
    exact Adj.glue f1 f2
  have ltR : ∀ x ∈ S1.reverse ++ S'.reverse, lt t' x := fun x hx => by
    rcases List.mem_append.mp hx with hx | hx
    · exact ltS1 x (by simpa using hx)
    · exact ltS' x (by simpa using hx)
  have eR : S.reverse ++ S'.reverse = t' :: (S1.reverse ++ S'.reverse) := by rw [hSr]; rfl
  have inR : ∀ x ∈ S.reverse ++ S'.reverse, x ∈ srt ps := fun x hx => by
    rcases List.mem_append.mp hx with hx | hx
    · exact inS x (by simpa using hx)
    · exact inS' x (by simpa using hx)
  have pw := fan_pairwise ltR fan
  have filt : ∀ x, (srt ps).filter (· ≠ x) ⊆ ps.filter (· ≠ x) := fun x y hy => by
    obtain ⟨h1, h2⟩ := List.mem_filter.mp hy
    exact List.mem_filter.mpr ⟨(hm y).mp h1, h2⟩
  have filt' : ∀ x, ∀ q ∈ ps.filter (· ≠ x), q ∈ (srt ps).filter (· ≠ x) := fun x y hy => by
    obtain ⟨h1, h2⟩ := List.mem_filter.mp hy
    exact List.mem_filter.mpr ⟨(hm y).mpr h1, h2⟩
  have sepMin : Sep ((srt ps).filter (· ≠ t')) t' := sep_least a_in min_a
  have sepMax : Sep ((srt ps).filter (· ≠ a')) a' := sep_greatest t_in max_t
  refine ⟨fun x hx => (hm x).mp (inR x hx), fun _ => by rw [eR]; simp, ?_, fun z r e q hq => ?_, fun z w r e => ?_, fun z r e => ?_, fun z e => ?_, fun z w e => ?_, fun x hx => ?_⟩
  · rw [eR]
    refine List.nodup_cons.mpr ⟨fun hx => lt_irrefl _ (ltR t' hx), ?_⟩
    refine List.Pairwise.imp (fun {x y} k e => ?_) pw
    subst e
    rw [turn_self2] at k
    omega
  · rw [eR] at e
    cases e
    exact min_a q ((hm q).mpr hq)
  · have hz : z = t' := by
      rw [eR] at e
      exact (List.cons.inj e).1.symm
    rw [hz]; exact cyc
  · rw [eR] at e
    cases e
    exact fan
  · rw [eR, hSr'] at e
    have := congrArg List.length e
    simp at this
  · rw [eR, hSr'] at e
    have hl := congrArg List.length e
    simp at hl
    have e1 : S1 = [] := List.eq_nil_of_length_eq_zero (by omega)
    have e2 : S2 = [] := List.eq_nil_of_length_eq_zero (by omega)
    subst e1 e2
    simp at e
    obtain ⟨rfl, rfl⟩ := e
    exact ⟨hat, fun q hq => max_t q ((hm q).mpr hq)⟩
  · refine Sep.sub ?_ (filt' x)
    rcases List.mem_append.mp hx with hx | hx
    · exact stack_ext okL lastL sepMax sepMin x (List.mem_cons_of_mem _ (by simpa using hx))
    · have okU' : StkOk gt (srt ps) (t' :: S') := ⟨okU.desc, okU.conv, Adj.imp (fun a b _ _ hab q hq => hab q (by simpa using hq)) okU.edges, fun x hx => by simpa using okU.sub x hx, fun x hx q hq => okU.bot x hx q (by simpa using hq)⟩
      exact stack_ext okU' lastU sepMin sepMax x (List.mem_cons_of_mem _ (by simpa using hx))
theorem rim_ok (ps : List Pt) : Rim ps (cornersOf ps) := by
  unfold cornersOf
  split
  · rename_i h; exact rim_few h
  · rename_i h; exact rim_many h
end HP
/-! Weighings. -/
namespace HP
abbrev W := Int × Int × Int

/-! insertion sort -/
def insW {α : Type} (le : α → α → Bool) (x : α) : List α → List α
  | [] => [x]
  | y :: r => if le x y then x :: y :: r else y :: insW le x r
def isort {α : Type} (le : α → α → Bool) : List α → List α
  | [] => []
  | x :: r => insW le x (isort le r)
theorem insW_perm {α : Type} {le : α → α → Bool} {x : α} : ∀ {l : List α}, (insW le x l).Perm (x :: l)
  | [] => List.Perm.refl _
  | y :: r => by
    unfold insW
    split
    · exact List.Perm.refl _
    · exact (List.Perm.cons y insW_perm).trans (List.Perm.swap x y r)
theorem isort_perm {α : Type} {le : α → α → Bool} : ∀ {l : List α}, (isort le l).Perm l
  | [] => List.Perm.refl _
  | x :: r => insW_perm.trans (List.Perm.cons x isort_perm)
theorem insW_sorted {α : Type} {le : α → α → Bool} (tot : ∀ a b, le a b = true ∨ le b a = true) (tr : ∀ a b c, le a b = true → le b c = true → le a c = true) {x : α} : ∀ {l : List α}, l.Pairwise (fun a b => le a b = true) → (insW le x l).Pairwise (fun a b => le a b = true)
  | [], _ => by simp [insW]
  | y :: r, h => by
    have d := List.pairwise_cons.mp h
    unfold insW
    split
    · rename_i hxy
      refine List.pairwise_cons.mpr ⟨fun z hz => ?_, h⟩
      rcases List.mem_cons.mp hz with e | hz
      · rw [e]; exact hxy
      · exact tr _ _ _ hxy (d.1 z hz)
    · rename_i hxy
      refine List.pairwise_cons.mpr ⟨fun z hz => ?_, insW_sorted tot tr d.2⟩
      rcases List.mem_cons.mp (insW_perm.mem_iff.mp hz) with e | hz
      · rw [e]
        rcases tot x y with k | k
        · exact absurd k hxy
        · exact k
      · exact d.1 z hz
theorem isort_sorted {α : Type} {le : α → α → Bool} (tot : ∀ a b, le a b = true ∨ le b a = true) (tr : ∀ a b c, le a b = true → le b c = true → le a c = true) : ∀ (l : List α), (isort le l).Pairwise (fun a b => le a b = true)
  | [] => List.Pairwise.nil
  | _ :: r => insW_sorted tot tr (isort_sorted tot tr r)
theorem isort_unique {α : Type} {le : α → α → Bool} (tot : ∀ a b, le a b = true ∨ le b a = true) (tr : ∀ a b c, le a b = true → le b c = true → le a c = true) (anti : ∀ a b, le a b = true → le b a = true → a = b) {l m : List α}
    (hp : m.Perm l) (hs : m.Pairwise (fun a b => le a b = true)) : m = isort le l :=
  List.Perm.eq_of_pairwise (le := fun a b => le a b = true) (fun a b _ _ => anti a b) hs (isort_sorted tot tr l) (hp.trans isort_perm.symm)

/-- tuples of three, by their order -/
def le3 (u v : W) : Bool := decide (u.1 < v.1 ∨ (u.1 = v.1 ∧ (u.2.1 < v.2.1 ∨ (u.2.1 = v.2.1 ∧ u.2.2 ≤ v.2.2))))
theorem le3_tot (u v : W) : le3 u v = true ∨ le3 v u = true := by unfold le3; simp only [decide_eq_true_eq]; omega
theorem le3_trans (u v w : W) : le3 u v = true → le3 v w = true → le3 u w = true := by unfold le3; simp only [decide_eq_true_eq]; omega
theorem le3_anti (u v : W) : le3 u v = true → le3 v u = true → u = v := by
  obtain ⟨a, b, c⟩ := u
  obtain ⟨d, e, f⟩ := v
  unfold le3; simp only [decide_eq_true_eq, Prod.mk.injEq]; omega

/-! a weight in lowest terms -/
def signGcd (a b : Int) : Int := if b < 0 then -(Int.gcd a b : Int) else (Int.gcd a b : Int)
def weightW (n a b : Int) : W := (n, a.fdiv (signGcd a b), b.fdiv (signGcd a b))
theorem weightW_ok (n a b : Int) (hb : b ≠ 0) : ∃ x y : Int, weightW n a b = (n, x, y) ∧ 0 < y ∧ x * b = a * y ∧ Int.gcd x y = 1 ∧ ((0 < a ∧ 0 < b) ∨ (a < 0 ∧ b < 0) → 0 < x) := by
  obtain ⟨g, hg⟩ : ∃ g : Int, g = (Int.gcd a b : Int) := ⟨_, rfl⟩
  have hgp : 0 < g := by
    have : 0 < Int.gcd a b := Int.gcd_pos_of_ne_zero_right a hb
    omega
  have da : g ∣ a := by rw [hg]; exact Int.gcd_dvd_left a b
  have db : g ∣ b := by rw [hg]; exact Int.gcd_dvd_right a b
  obtain ⟨x, hx⟩ := da
  obtain ⟨y, hy⟩ := db
  have hco : Int.gcd x y = 1 := by
    have h := Int.gcd_mul_left g x y
    rw [← hx, ← hy] at h
    have h2 : (g.natAbs : Int) = g := by omega
    have h3 : (Int.gcd a b : Int) = g.natAbs * Int.gcd x y := by exact_mod_cast h
    rw [h2, ← hg] at h3
    have h4 : g * 1 = g * (Int.gcd x y : Int) := by omega
    have h5 := Int.eq_of_mul_eq_mul_left (by omega : g ≠ 0) h4
    omega
  by_cases hneg : b < 0
  · have hs : signGcd a b = -g := by unfold signGcd; rw [if_pos hneg, hg]
    have ex : a.fdiv (-g) = -x := by
      rw [Int.fdiv_eq_ediv_of_dvd ⟨-x, by rw [hx]; grind⟩, Int.ediv_neg, hx, Int.mul_ediv_cancel_left _ (by omega)]
    have ey : b.fdiv (-g) = -y := by
      rw [Int.fdiv_eq_ediv_of_dvd ⟨-y, by rw [hy]; grind⟩, Int.ediv_neg, hy, Int.mul_ediv_cancel_left _ (by omega)]
    refine ⟨-x, -y, by unfold weightW; rw [hs, ex, ey], ?_, by rw [hx, hy]; grind, by rw [Int.gcd_neg, Int.neg_gcd]; exact hco, ?_⟩
    · rw [hy] at hneg
      refine pos_of_mul hgp ?_
      have : g * -y = -(g * y) := by grind
      omega
    · rintro (h | h)
      · omega
      · have h1 := h.1
        rw [hx] at h1
        refine pos_of_mul hgp ?_
        have : g * -x = -(g * x) := by grind
        omega
  · have hs : signGcd a b = g := by unfold signGcd; rw [if_neg hneg, hg]
    have ex : a.fdiv g = x := by
      rw [Int.fdiv_eq_ediv_of_dvd ⟨x, hx⟩, hx, Int.mul_ediv_cancel_left _ (by omega)]
    have ey : b.fdiv g = y := by
      rw [Int.fdiv_eq_ediv_of_dvd ⟨y, hy⟩, hy, Int.mul_ediv_cancel_left _ (by omega)]
    refine ⟨x, y, by unfold weightW; rw [hs, ex, ey], ?_, by rw [hx, hy]; grind, hco, ?_⟩
    · have : 0 < b := by omega
      rw [hy] at this
      exact pos_of_mul hgp this
    · rintro (h | h)
      · have h1 := h.1
        rw [hx] at h1
        exact pos_of_mul hgp h1
      · omega

/-! what the law adds up -/
def ptAt (ps : List Pt) (n : Int) : Pt := ps.getD n.toNat (0, 0)
def wstep (ps : List Pt) (s : Int × Int × Int × Int) (u : W) : Int × Int × Int × Int :=
  (s.1 * u.2.2 + (ptAt ps u.1).1 * u.2.1 * s.2.2.2, s.2.1 * u.2.2 + (ptAt ps u.1).2 * u.2.1 * s.2.2.2, s.2.2.1 * u.2.2 + 1 * u.2.1 * s.2.2.2, s.2.2.2 * u.2.2)
structure WOk (ps : List Pt) (ws : List W) (X Y B : Int) : Prop where
  len : 1 ≤ ws.length ∧ ws.length ≤ 3
  rise : ws.Pairwise fun u v => u.1 < v.1
  each : ∀ u ∈ ws, 0 ≤ u.1 ∧ u.1 < ps.length ∧ 0 < u.2.1 ∧ 0 < u.2.2 ∧ Int.gcd u.2.1 u.2.2 = 1
  sum : ∀ s, ws.foldl (wstep ps) (0, 0, 0, 1) = s → s.2.2.1 = s.2.2.2 ∧ s.1 * B = X * s.2.2.2 ∧ s.2.1 * B = Y * s.2.2.2
def wsum (f : W → Int) : List W → Int
  | [] => 0
  | u :: r => f u + wsum f r
theorem wsum_perm {f : W → Int} {l m : List W} (h : l.Perm m) : wsum f l = wsum f m := by
  induction h with
  | nil => rfl
  | cons x _ ih => simp [wsum, ih]
  | swap x y l => simp only [wsum]; omega
  | trans _ _ a b => exact a.trans b
theorem fold_sum (ps : List Pt) (M : Int) (m : W → Int) : ∀ (ws : List W) (s : Int × Int × Int × Int) (x y z : Int), (∀ u ∈ ws, u.2.1 * M = m u * u.2.2) → s.1 * M = s.2.2.2 * x → s.2.1 * M = s.2.2.2 * y → s.2.2.1 * M = s.2.2.2 * z →
    ∀ s', ws.foldl (wstep ps) s = s' → s'.1 * M = s'.2.2.2 * (x + wsum (fun u => m u * (ptAt ps u.1).1) ws) ∧ s'.2.1 * M = s'.2.2.2 * (y + wsum (fun u => m u * (ptAt ps u.1).2) ws) ∧ s'.2.2.1 * M = s'.2.2.2 * (z + wsum m ws)
  | [], s, x, y, z, _, h1, h2, h3, s', e => by
    cases e
    simp only [wsum, Int.add_zero]
    exact ⟨h1, h2, h3⟩
  | u :: ws, s, x, y, z, hu, h1, h2, h3, s', e => by
    have k := hu u (by simp)
    have ih := fold_sum ps M m ws (wstep ps s u) (x + m u * (ptAt ps u.1).1) (y + m u * (ptAt ps u.1).2) (z + m u) (fun v hv => hu v (List.mem_cons_of_mem _ hv))
      (by unfold wstep; simp only; grind) (by unfold wstep; simp only; grind) (by unfold wstep; simp only; grind) s' e
    simp only [wsum]
    refine ⟨?_, ?_, ?_⟩
    · rw [← Int.add_assoc]; exact ih.1
    · rw [← Int.add_assoc]; exact ih.2.1
    · rw [← Int.add_assoc]; exact ih.2.2
theorem fold_below (ps : List Pt) : ∀ (ws : List W) (s : Int × Int × Int × Int), (∀ u ∈ ws, 0 < u.2.2) → 0 < s.2.2.2 → 0 < (ws.foldl (wstep ps) s).2.2.2
  | [], s, _, h => h
  | u :: ws, s, hu, h => fold_below ps ws (wstep ps s u) (fun v hv => hu v (List.mem_cons_of_mem _ hv)) (Int.mul_pos h (hu u (by simp)))
/-- a weighing by parts of a whole is one to the spot -/
theorem wok_of (ps : List Pt) (ws : List W) (M X Y B : Int) (m : W → Int) (hM : 0 < M) (len : 1 ≤ ws.length ∧ ws.length ≤ 3) (rise : ws.Pairwise fun u v => u.1 < v.1)
    (each : ∀ u ∈ ws, 0 ≤ u.1 ∧ u.1 < ps.length ∧ 0 < u.2.1 ∧ 0 < u.2.2 ∧ Int.gcd u.2.1 u.2.2 = 1) (hm : ∀ u ∈ ws, u.2.1 * M = m u * u.2.2) (hs : wsum m ws = M)
    (hx : wsum (fun u => m u * (ptAt ps u.1).1) ws * B = X * M) (hy : wsum (fun u => m u * (ptAt ps u.1).2) ws * B = Y * M) : WOk ps ws X Y B := by
  refine ⟨len, rise, each, fun s e => ?_⟩
  obtain ⟨h1, h2, h3⟩ := fold_sum ps M m ws (0, 0, 0, 1) 0 0 0 hm (by simp) (by simp) (by simp) s e
  rw [Int.zero_add] at h1 h2 h3
  rw [hs] at h3
  have e1 : s.2.2.1 = s.2.2.2 := Int.eq_of_mul_eq_mul_right (by omega) h3
  refine ⟨e1, ?_, ?_⟩
  · refine Int.eq_of_mul_eq_mul_right (show M ≠ 0 by omega) ?_
    grind
  · refine Int.eq_of_mul_eq_mul_right (show M ≠ 0 by omega) ?_
    grind
end HP
/-! Points in hulls: parts of a whole. -/
namespace HP
def psum (f : Pt × Int → Int) : List (Pt × Int) → Int
  | [] => 0
  | x :: r => f x + psum f r
/-- a spot in the hull of S: parts of points of S -/
structure InH (S : List Pt) (X Y B : Int) (parts : List (Pt × Int)) : Prop where
  mem : ∀ x ∈ parts, x.1 ∈ S ∧ 0 ≤ x.2
  pos : 0 < psum (·.2) parts
  ex : psum (fun x => x.2 * x.1.1) parts * B = X * psum (·.2) parts
  ey : psum (fun x => x.2 * x.1.2) parts * B = Y * psum (·.2) parts
def InHull (S : List Pt) (X Y B : Int) : Prop := ∃ parts, InH S X Y B parts
theorem InH.sub {S T : List Pt} {X Y B : Int} {parts : List (Pt × Int)} (h : InH S X Y B parts) (k : ∀ q ∈ S, q ∈ T) : InH T X Y B parts := ⟨fun x hx => ⟨k _ (h.mem x hx).1, (h.mem x hx).2⟩, h.pos, h.ex, h.ey⟩
theorem InHull.sub {S T : List Pt} {X Y B : Int} (h : InHull S X Y B) (k : ∀ q ∈ S, q ∈ T) : InHull T X Y B := by
  obtain ⟨p, hp⟩ := h
  exact ⟨p, hp.sub k⟩
theorem psum_line (a b c : Int) : ∀ parts : List (Pt × Int), psum (fun x => x.2 * at3 a b c x.1) parts = a * psum (fun x => x.2 * x.1.1) parts + b * psum (fun x => x.2 * x.1.2) parts + c * psum (·.2) parts
  | [] => by simp [psum]
  | x :: r => by
    simp only [psum, psum_line a b c r]
    unfold at3
    grind
theorem psum_nonneg (f : Pt × Int → Int) : ∀ parts : List (Pt × Int), (∀ x ∈ parts, 0 ≤ f x) → 0 ≤ psum f parts
  | [], _ => by simp [psum]
  | x :: r, h => by
    have := psum_nonneg f r fun y hy => h y (List.mem_cons_of_mem _ hy)
    have := h x (by simp)
    simp only [psum]; omega
theorem psum_pos (f : Pt × Int → Int) : ∀ parts : List (Pt × Int), (∀ x ∈ parts, 0 ≤ f x) → (∃ x ∈ parts, 0 < f x) → 0 < psum f parts
  | [], _, h => by obtain ⟨_, h, _⟩ := h; simp at h
  | x :: r, h, k => by
    have h1 := psum_nonneg f r fun y hy => h y (List.mem_cons_of_mem _ hy)
    have h2 := h x (by simp)
    obtain ⟨y, hy, hp⟩ := k
    simp only [psum]
    rcases List.mem_cons.mp hy with e | hy
    · subst e; omega
    · have := psum_pos f r (fun y hy => h y (List.mem_cons_of_mem _ hy)) ⟨y, hy, hp⟩
      omega
theorem psum_some_pos {f : Pt × Int → Int} : ∀ {parts : List (Pt × Int)}, 0 < psum f parts → ∃ x ∈ parts, 0 < f x
  | [], h => by simp [psum] at h
  | x :: r, h => by
    simp only [psum] at h
    by_cases k : 0 < f x
    · exact ⟨x, by simp, k⟩
    · obtain ⟨y, hy, hp⟩ := psum_some_pos (f := f) (parts := r) (by omega)
      exact ⟨y, List.mem_cons_of_mem _ hy, hp⟩
theorem lin_aux {a b c P Q M X Y B : Int} (e1 : P * B = X * M) (e2 : Q * B = Y * M) : (a * P + b * Q + c * M) * B = M * (a * X + b * Y + c * B) := by grind
/-- a line that is nought or above at S is so at each spot of its hull -/
theorem InH.line {S : List Pt} {X Y B : Int} {parts : List (Pt × Int)} (h : InH S X Y B parts) (hB : 0 < B) {a b c : Int} (hl : ∀ q ∈ S, 0 ≤ at3 a b c q) : 0 ≤ a * X + b * Y + c * B := by
  have h1 := psum_nonneg (fun x => x.2 * at3 a b c x.1) parts fun x hx => Int.mul_nonneg (h.mem x hx).2 (hl _ (h.mem x hx).1)
  rw [psum_line] at h1
  have h2 := Int.mul_nonneg h1 (Int.le_of_lt hB)
  refine nonneg_of_mul h.pos ?_
  rw [lin_aux h.ex h.ey] at h2
  exact h2
theorem InH.line_pos {S : List Pt} {X Y B : Int} {parts : List (Pt × Int)} (h : InH S X Y B parts) (hB : 0 < B) {a b c : Int} (hl : ∀ q ∈ S, 0 < at3 a b c q) : 0 < a * X + b * Y + c * B := by
  have h1 := psum_pos (fun x => x.2 * at3 a b c x.1) parts (fun x hx => Int.mul_nonneg (h.mem x hx).2 (Int.le_of_lt (hl _ (h.mem x hx).1))) (by
    obtain ⟨x, hx, hp⟩ := psum_some_pos h.pos
    exact ⟨x, hx, Int.mul_pos hp (hl _ (h.mem x hx).1)⟩)
  rw [psum_line] at h1
  have h2 := Int.mul_pos h1 hB
  refine pos_of_mul h.pos ?_
  rw [lin_aux h.ex h.ey] at h2
  exact h2
theorem InHull.line {S : List Pt} {X Y B : Int} (h : InHull S X Y B) (hB : 0 < B) {a b c : Int} (hl : ∀ q ∈ S, 0 ≤ at3 a b c q) : 0 ≤ a * X + b * Y + c * B := by
  obtain ⟨p, hp⟩ := h
  exact hp.line hB hl
theorem InHull.line_pos {S : List Pt} {X Y B : Int} (h : InHull S X Y B) (hB : 0 < B) {a b c : Int} (hl : ∀ q ∈ S, 0 < at3 a b c q) : 0 < a * X + b * Y + c * B := by
  obtain ⟨p, hp⟩ := h
  exact hp.line_pos hB hl
theorem InHull.not_sep {S : List Pt} {p : Pt} (h : InHull S p.1 p.2 1) : ¬ Sep S p := by
  rintro ⟨a, b, c, h1, h2⟩
  have := h.line (by omega) h1
  unfold at3 at h2
  omega
theorem InHull.of_mem {S : List Pt} {p : Pt} (h : p ∈ S) : InHull S p.1 p.2 1 :=
  ⟨[(p, 1)], ⟨by simp [h], by simp [psum], by simp [psum], by simp [psum]⟩⟩

/-! the weighing that the program writes -/
def weighed (ps : List Pt) (parts : List (Pt × Int)) (whole : Int) : List W :=
  isort le3 ((parts.filter fun x => decide (0 < x.2)).map fun x => weightW (ps.idxOf x.1 : Nat) x.2 whole)
theorem wsum_map (f : W → Int) (g : Pt × Int → W) : ∀ l : List (Pt × Int), wsum f (l.map g) = psum (fun x => f (g x)) l
  | [] => rfl
  | x :: r => by simp only [List.map_cons, wsum, psum, wsum_map f g r]
theorem psum_filter (f : Pt × Int → Int) (h : ∀ x : Pt × Int, x.2 = 0 → f x = 0) : ∀ l : List (Pt × Int), (∀ x ∈ l, 0 ≤ x.2) → psum f (l.filter fun x => decide (0 < x.2)) = psum f l
  | [], _ => rfl
  | x :: r, hl => by
    have ih := psum_filter f h r fun y hy => hl y (List.mem_cons_of_mem _ hy)
    by_cases k : 0 < x.2
    · rw [List.filter_cons_of_pos (by simpa using k)]
      simp only [psum, ih]
    · rw [List.filter_cons_of_neg (by simpa using k)]
      have := hl x (by simp)
      simp only [psum, ih, h x (by omega), Int.zero_add]
theorem psum_congr {f g : Pt × Int → Int} : ∀ {l : List (Pt × Int)}, (∀ x ∈ l, f x = g x) → psum f l = psum g l
  | [], _ => rfl
  | x :: r, h => by
    simp only [psum]
    rw [h x (by simp), psum_congr fun y hy => h y (List.mem_cons_of_mem _ hy)]
theorem idx_at {ps : List Pt} {q : Pt} (h : q ∈ ps) : ptAt ps (ps.idxOf q : Nat) = q := by
  have h1 := List.idxOf_lt_length_iff.mpr h
  unfold ptAt
  rw [show ((ps.idxOf q : Nat) : Int).toNat = ps.idxOf q by omega, List.getD_eq_getElem?_getD, List.getElem?_eq_getElem h1, List.getElem_idxOf h1]
  rfl
theorem weighed_ok {ps : List Pt} {parts : List (Pt × Int)} {whole X Y B : Int} (h : InH ps X Y B parts) (hw : psum (·.2) parts = whole) (h3 : parts.length ≤ 3) (nd : (parts.map (·.1)).Nodup) : WOk ps (weighed ps parts whole) X Y B := by
  have hpos : 0 < whole := by rw [← hw]; exact h.pos
  obtain ⟨fl, hfl⟩ : ∃ fl, fl = parts.filter fun x => decide (0 < x.2) := ⟨_, rfl⟩
  obtain ⟨g, hg⟩ : ∃ g : Pt × Int → W, g = fun x => weightW (ps.idxOf x.1 : Nat) x.2 whole := ⟨_, rfl⟩
  have hperm : (weighed ps parts whole).Perm (fl.map g) := by
    rw [hfl, hg]; exact isort_perm
  have hflm : ∀ x ∈ fl, x.1 ∈ ps ∧ 0 < x.2 := fun x hx => by
    rw [hfl] at hx
    obtain ⟨a, b⟩ := List.mem_filter.mp hx
    exact ⟨(h.mem x a).1, by simpa using b⟩
  have hgx : ∀ x : Pt × Int, 0 < x.2 → ∃ a b, g x = (((ps.idxOf x.1 : Nat) : Int), a, b) ∧ 0 < b ∧ a * whole = x.2 * b ∧ Int.gcd a b = 1 ∧ 0 < a := fun x hx => by
    obtain ⟨a, b, e, h1, h2, h3, h4⟩ := weightW_ok (ps.idxOf x.1 : Nat) x.2 whole (by omega)
    rw [hg]
    exact ⟨a, b, e, h1, h2, h3, h4 (.inl ⟨hx, hpos⟩)⟩
  obtain ⟨m, hm⟩ : ∃ m : W → Int, m = fun u => u.2.1 * whole / u.2.2 := ⟨_, rfl⟩
  have hmg : ∀ x ∈ fl, m (g x) = x.2 := fun x hx => by
    obtain ⟨a, b, e, h1, h2, _⟩ := hgx x (hflm x hx).2
    rw [hm, e]
    show a * whole / b = x.2
    rw [h2]
    exact Int.mul_ediv_cancel _ (by omega)
  have flnd : (fl.map (·.1)).Nodup := by
    rw [hfl]
    exact List.Nodup.sublist (List.Sublist.map _ List.filter_sublist) nd
  refine wok_of ps _ whole X Y B m hpos ⟨?_, ?_⟩ ?_ (fun u hu => ?_) (fun u hu => ?_) ?_ ?_ ?_
  · rw [hperm.length_eq, List.length_map]
    obtain ⟨x, hx, hp⟩ := psum_some_pos h.pos
    have : x ∈ fl := by rw [hfl]; exact List.mem_filter.mpr ⟨hx, by simpa using hp⟩
    exact List.length_pos_of_mem this
  · rw [hperm.length_eq, List.length_map, hfl]
    exact Nat.le_trans (List.length_filter_le _ _) h3
  · have s := isort_sorted le3_tot le3_trans ((parts.filter fun x => decide (0 < x.2)).map fun x => weightW (ps.idxOf x.1 : Nat) x.2 whole)
    have nd1 : ((weighed ps parts whole).map (·.1)).Nodup := by
      refine (List.Perm.map _ hperm).nodup_iff.mpr ?_
      rw [List.map_map]
      have e : fl.map ((·.1) ∘ g) = fl.map fun x => ((ps.idxOf x.1 : Nat) : Int) := List.map_congr_left fun x hx => by
        obtain ⟨a, b, e, _⟩ := hgx x (hflm x hx).2
        show (g x).1 = _
        rw [e]
      rw [e, List.nodup_iff_pairwise_ne, List.pairwise_map]
      rw [List.nodup_iff_pairwise_ne, List.pairwise_map] at flnd
      refine List.Pairwise.imp_of_mem (fun {x y} hx hy hne e => hne ?_) flnd
      have e' : ps.idxOf x.1 = ps.idxOf y.1 := by omega
      rw [← idx_at (hflm x hx).1, ← idx_at (hflm y hy).1, e']
    rw [List.nodup_iff_pairwise_ne, List.pairwise_map] at nd1
    refine List.Pairwise.imp (fun {u v} hh => ?_) (List.Pairwise.and s nd1)
    obtain ⟨h1, h2⟩ := hh
    unfold le3 at h1
    simp only [decide_eq_true_eq] at h1
    have : u.1 ≠ v.1 := h2
    omega
  · obtain ⟨x, hx, e⟩ := List.mem_map.mp (hperm.mem_iff.mp hu)
    obtain ⟨a, b, e2, h1, h2, h3, h4⟩ := hgx x (hflm x hx).2
    rw [← e, e2]
    have := List.idxOf_lt_length_iff.mpr (hflm x hx).1
    exact ⟨by simp, by simp only; omega, h4, h1, h3⟩
  · obtain ⟨x, hx, e⟩ := List.mem_map.mp (hperm.mem_iff.mp hu)
    obtain ⟨a, b, e2, h1, h2, h3, h4⟩ := hgx x (hflm x hx).2
    rw [← e, hmg x hx, e2]
    exact h2
  · rw [wsum_perm hperm, wsum_map, psum_congr hmg, hfl, psum_filter (·.2) (fun x hx => hx) parts fun x hx => (h.mem x hx).2, hw]
  · rw [wsum_perm hperm, wsum_map]
    have e : psum (fun x => m (g x) * (ptAt ps (g x).1).1) fl = psum (fun x => x.2 * x.1.1) fl := psum_congr fun x hx => by
      obtain ⟨a, b, e2, _⟩ := hgx x (hflm x hx).2
      rw [hmg x hx, e2, idx_at (hflm x hx).1]
    rw [e, hfl, psum_filter (fun x => x.2 * x.1.1) (fun x hx => by rw [hx]; simp) parts fun x hx => (h.mem x hx).2, h.ex, hw]
  · rw [wsum_perm hperm, wsum_map]
    have e : psum (fun x => m (g x) * (ptAt ps (g x).1).2) fl = psum (fun x => x.2 * x.1.2) fl := psum_congr fun x hx => by
      obtain ⟨a, b, e2, _⟩ := hgx x (hflm x hx).2
      rw [hmg x hx, e2, idx_at (hflm x hx).1]
    rw [e, hfl, psum_filter (fun x => x.2 * x.1.2) (fun x hx => by rw [hx]; simp) parts fun x hx => (h.mem x hx).2, h.ey, hw]
end HP
/-! Within or shut out. -/
namespace HP
def segWhole (one other : Pt) : Int := if one.1 = other.1 then other.2 - one.2 else other.1 - one.1
def segPart (one other p : Pt) : Int := if one.1 = other.1 then p.2 - one.2 else p.1 - one.1
def segW (one other : Pt) : Int := if segWhole one other < 0 then 0 - segWhole one other else segWhole one other
def segQ (one other p : Pt) : Int := if segWhole one other < 0 then 0 - segPart one other p else segPart one other p
def onSegment (ps : List Pt) (one other p : Pt) : Option (List W) :=
  if turn one other p ≠ 0 then none
  else if segQ one other p < 0 ∨ segQ one other p > segW one other then none
  else some (weighed ps [(one, segW one other - segQ one other p), (other, segQ one other p)] (segW one other))
def min3 (a b c : Int) : Int := min a (min b c)
def inThree (ps : List Pt) (a b c p : Pt) : Option (List W) :=
  if turn b c p < 0 ∨ turn c a p < 0 ∨ turn a b p < 0 then none
  else some (weighed ps [(a, turn b c p), (b, turn c a p), (c, turn a b p)] (turn a b c))
def fanFind (ps : List Pt) (z p : Pt) : List Pt → Option (List W)
  | a :: b :: r => match inThree ps z a b p with
    | some w => some w
    | none => fanFind ps z p (b :: r)
  | _ => none
def within (ps : List Pt) (p : Pt) : Option (List W) :=
  match cornersOf ps with
  | [] => none
  | [z] => if z = p then some [((ps.idxOf p : Nat), 1, 1)] else none
  | [z, w] => onSegment ps z w p
  | z :: a :: b :: r => fanFind ps z p (a :: b :: r)
abbrev Line := Int × Int × Int
def lineThrough (a b : Pt) : Line := (a.2 - b.2, b.1 - a.1, 0 - (a.2 - b.2) * a.1 - (b.1 - a.1) * a.2)
def along (one other p : Pt) : Line :=
  let f := other.1 - one.1
  let s := other.2 - one.2
  if f * (p.1 - one.1) + s * (p.2 - one.2) > 0 then (0 - f, 0 - s, 0 - (0 - f) * other.1 - (0 - s) * other.2)
  else (f, s, 0 - f * one.1 - s * one.2)
def edgeFind (p : Pt) : List Pt → Option Line
  | a :: b :: r => if turn a b p < 0 then some (lineThrough a b) else edgeFind p (b :: r)
  | _ => none
def shutOut (ps : List Pt) (p : Pt) : Line :=
  match cornersOf ps with
  | [] => (0, 0, -1)
  | [z] => (z.1 - p.1, z.2 - p.2, 0 - (z.1 - p.1) * z.1 - (z.2 - p.2) * z.2)
  | z :: w :: r => match edgeFind p (z :: w :: r ++ [z]) with
    | some l => l
    | none => along z w p

theorem line_at (a b q : Pt) : at3 (lineThrough a b).1 (lineThrough a b).2.1 (lineThrough a b).2.2 q = turn a b q := by
  unfold at3 lineThrough turn; grind

theorem in_three_hull {S : List Pt} {a b c p : Pt} (ha : a ∈ S) (hb : b ∈ S) (hc : c ∈ S) (h : 0 < turn a b c) (h1 : 0 ≤ turn b c p) (h2 : 0 ≤ turn c a p) (h3 : 0 ≤ turn a b p) :
    InH S p.1 p.2 1 [(a, turn b c p), (b, turn c a p), (c, turn a b p)] ∧ psum (·.2) [(a, turn b c p), (b, turn c a p), (c, turn a b p)] = turn a b c := by
  have e : turn b c p + (turn c a p + (turn a b p + 0)) = turn a b c := by unfold turn; grind
  refine ⟨⟨?_, ?_, ?_, ?_⟩, e⟩
  · intro x hx
    simp only [List.mem_cons, List.not_mem_nil, or_false] at hx
    rcases hx with e | e | e <;> subst e
    · exact ⟨ha, h1⟩
    · exact ⟨hb, h2⟩
    · exact ⟨hc, h3⟩
  · simp only [psum]; omega
  · simp only [psum]; unfold turn; grind
  · simp only [psum]; unfold turn; grind
theorem turn_ne {a b c : Pt} (h : 0 < turn a b c) : a ≠ b ∧ a ≠ c ∧ b ≠ c := by
  refine ⟨?_, ?_, ?_⟩ <;> intro e <;> subst e
  · rw [turn_self1] at h; omega
  · rw [turn_self3] at h; omega
  · rw [turn_self2] at h; omega
theorem in_two_hull {S : List Pt} {a b p : Pt} {w q : Int} (ha : a ∈ S) (hb : b ∈ S) (hw : 0 < w) (h0 : 0 ≤ q) (h1 : q ≤ w) (hx : (b.1 - a.1) * q = (p.1 - a.1) * w) (hy : (b.2 - a.2) * q = (p.2 - a.2) * w) :
    InH S p.1 p.2 1 [(a, w - q), (b, q)] ∧ psum (·.2) [(a, w - q), (b, q)] = w := by
  refine ⟨⟨?_, ?_, ?_, ?_⟩, ?_⟩
  · intro x hx
    simp only [List.mem_cons, List.not_mem_nil, or_false] at hx
    rcases hx with e | e <;> subst e
    · exact ⟨ha, by simp only; omega⟩
    · exact ⟨hb, h0⟩
  · simp only [psum]; omega
  · simp only [psum]; grind
  · simp only [psum]; grind
  · simp only [psum]; omega

/-- what within gives is a weighing of corners -/
theorem fan_some {ps S : List Pt} {z p : Pt} (hz : z ∈ S) (hS : ∀ x ∈ S, x ∈ ps) : ∀ {r : List Pt} {ws : List W}, (∀ x ∈ r, x ∈ S) → Adj (fun a b => 0 < turn z a b) r → fanFind ps z p r = some ws → WOk ps ws p.1 p.2 1 ∧ InHull S p.1 p.2 1
  | [], ws, _, _, e => by cases e
  | [_], ws, _, _, e => by cases e
  | a :: b :: r, ws, hr, hf, e => by
    unfold fanFind at e
    split at e
    · rename_i w hw
      cases e
      unfold inThree at hw
      split at hw
      · cases hw
      · rename_i hc
        cases hw
        have ha := hr a (by simp)
        have hb := hr b (by simp)
        obtain ⟨h1, h2⟩ := in_three_hull (S := S) (p := p) hz ha hb hf.1 (by omega) (by omega) (by omega)
        obtain ⟨n1, n2, n3⟩ := turn_ne hf.1
        exact ⟨weighed_ok (h1.sub hS) h2 (by simp) (by simp [n1, n2, n3]), ⟨_, h1⟩⟩
    · exact fan_some hz hS (fun x hx => hr x (List.mem_cons_of_mem _ hx)) hf.2 e
theorem seg_pos {a b : Pt} (hab : a ≠ b) : 0 < segW a b := by
  unfold segW segWhole
  by_cases h1 : a.1 = b.1
  · have h2 : a.2 ≠ b.2 := fun h2 => hab (Prod.ext h1 h2)
    rw [if_pos h1]; split <;> omega
  · rw [if_neg h1]; split <;> omega
theorem seg_x {a b p : Pt} (hab : a ≠ b) (ht : turn a b p = 0) : (b.1 - a.1) * segQ a b p = (p.1 - a.1) * segW a b := by
  unfold turn at ht
  unfold segQ segW segPart segWhole
  by_cases h1 : a.1 = b.1
  · have h2 : b.2 - a.2 ≠ 0 := fun h2 => hab (Prod.ext h1 (by omega))
    have z : (p.1 - a.1) * (b.2 - a.2) = 0 := by rw [h1] at ht ⊢; grind
    have z3 : p.1 - a.1 = 0 := by rcases Int.mul_eq_zero.mp z with h | h <;> omega
    rw [z3, show b.1 - a.1 = 0 by omega]; simp
  · rw [if_neg h1, if_neg h1]
    split <;> grind
theorem seg_y {a b p : Pt} (ht : turn a b p = 0) : (b.2 - a.2) * segQ a b p = (p.2 - a.2) * segW a b := by
  unfold turn at ht
  unfold segQ segW segPart segWhole
  by_cases h1 : a.1 = b.1
  · rw [if_pos h1, if_pos h1]
    split <;> grind
  · rw [if_neg h1, if_neg h1]
    split <;> grind
theorem seg_some {ps S : List Pt} {a b p : Pt} (ha : a ∈ S) (hb : b ∈ S) (hS : ∀ x ∈ S, x ∈ ps) (hab : a ≠ b) {ws : List W} (e : onSegment ps a b p = some ws) : WOk ps ws p.1 p.2 1 ∧ InHull S p.1 p.2 1 := by
  unfold onSegment at e
  split at e
  · cases e
  · rename_i ht
    have ht' : turn a b p = 0 := by omega
    split at e
    · cases e
    · rename_i hq
      cases e
      obtain ⟨k1, k2⟩ := in_two_hull (S := S) (p := p) ha hb (seg_pos hab) (by omega) (by omega) (seg_x hab ht') (seg_y ht')
      exact ⟨weighed_ok (k1.sub hS) k2 (by simp) (by simp [hab]), ⟨_, k1⟩⟩
theorem within_some {ps : List Pt} {p : Pt} {ws : List W} (e : within ps p = some ws) : WOk ps ws p.1 p.2 1 ∧ InHull (cornersOf ps) p.1 p.2 1 := by
  have R := rim_ok ps
  unfold within at e
  split at e
  · cases e
  · rename_i z hr
    rw [hr] at R
    split at e
    · rename_i hz
      subst hz
      cases e
      have hm : z ∈ ps := R.sub z (by simp)
      have hi := List.idxOf_lt_length_iff.mpr hm
      refine ⟨⟨by simp, by simp, fun u hu => ?_, fun s hs => ?_⟩, InHull.of_mem (by rw [hr]; simp)⟩
      · simp at hu
        subst hu
        exact ⟨by simp, by simp only; omega, by simp, by simp, by simp⟩
      · simp only [List.foldl, wstep] at hs
        rw [idx_at hm] at hs
        subst hs
        simp
    · cases e
  · rename_i z w hr
    rw [hr] at R ⊢
    have hzw := (R.two z w rfl).1
    exact seg_some (by simp) (by simp) R.sub (fun h => by rw [h] at hzw; exact lt_irrefl _ hzw) e
  · rename_i z a b r hr
    rw [hr] at R ⊢
    exact fan_some (by simp) R.sub (fun x hx => List.mem_cons_of_mem _ hx) (R.fan _ _ rfl) e

/-- no edge turns away and no triangle of the fan holds the point: it can't be -/
theorem edge_none {p : Pt} : ∀ {l : List Pt}, edgeFind p l = none → Adj (fun a b => 0 ≤ turn a b p) l
  | [], _ => trivial
  | [_], _ => trivial
  | a :: b :: r, h => by
    unfold edgeFind at h
    split at h
    · cases h
    · exact ⟨by omega, edge_none h⟩
theorem edge_some {p : Pt} : ∀ {l : List Pt} {L : Line} {R : Pt → Pt → Prop}, Adj R l → edgeFind p l = some L → ∃ a b, R a b ∧ turn a b p < 0 ∧ L = lineThrough a b
  | [], _, _, _, h => by cases h
  | [_], _, _, _, h => by cases h
  | a :: b :: r, L, R, hR, h => by
    unfold edgeFind at h
    split at h
    · rename_i k
      cases h
      exact ⟨a, b, hR.1, k, rfl⟩
    · exact edge_some hR.2 h
theorem fan_none {ps : List Pt} {z p : Pt} : ∀ (a b : Pt) (r : List Pt), Adj (fun a b => 0 ≤ turn a b p) (a :: b :: r) → 0 ≤ turn z a p → (∀ x, (a :: b :: r).getLast? = some x → turn z x p ≤ 0) → fanFind ps z p (a :: b :: r) ≠ none
  | a, b, r, hA, ha, hl => by
    intro h
    unfold fanFind at h
    split at h
    · cases h
    · rename_i hn
      unfold inThree at hn
      split at hn
      · rename_i hc
        have h1 : 0 ≤ turn a b p := hA.1
        have e2 : turn b z p = - turn z b p := turn_swap _ _ _
        have hb : 0 < turn z b p := by
          rcases hc with h | h | h <;> omega
        cases r with
        | nil =>
          have := hl b (by simp)
          omega
        | cons c r =>
          exact fan_none b c r hA.2 (Int.le_of_lt hb) (fun x hx => hl x (by rw [List.getLast?_cons_cons]; exact hx)) h
      · cases hn
theorem dir_mem {z w q : Pt} (h1 : turn z w q = 0) (h2 : q = z ∨ lt z q) (hzw : lt z w) : 0 ≤ (w.1 - z.1) * (q.1 - z.1) + (w.2 - z.2) * (q.2 - z.2) := by
  rcases h2 with e | h2
  · subst e; simp
  · unfold lt at *
    unfold turn at h1
    rcases hzw with k | ⟨k, k2⟩
    · have hx : 0 ≤ q.1 - z.1 := by omega
      refine nonneg_of_mul (u := w.1 - z.1) (by omega) ?_
      have e : (w.1 - z.1) * ((w.1 - z.1) * (q.1 - z.1) + (w.2 - z.2) * (q.2 - z.2)) = ((w.1 - z.1) * (w.1 - z.1) + (w.2 - z.2) * (w.2 - z.2)) * (q.1 - z.1) := by grind
      rw [e]
      refine Int.mul_nonneg (Int.add_nonneg ?_ ?_) hx
      · exact Int.mul_nonneg (by omega) (by omega)
      · rcases Int.le_total 0 (w.2 - z.2) with t | t
        · exact Int.mul_nonneg t t
        · exact Int.mul_nonneg_of_nonpos_of_nonpos t t
    · have hx : (w.2 - z.2) * (q.1 - z.1) = 0 := by rw [show w.1 - z.1 = 0 by omega] at h1; grind
      have hx' : q.1 - z.1 = 0 := by rcases Int.mul_eq_zero.mp hx with t | t <;> omega
      rw [hx']
      have := Int.mul_nonneg (show 0 ≤ w.2 - z.2 by omega) (show 0 ≤ q.2 - z.2 by omega)
      omega
theorem sq_pos {x y : Int} (h : x ≠ 0 ∨ y ≠ 0) : 0 < x * x + y * y := by
  have hx : 0 ≤ x * x := by
    rcases Int.le_total 0 x with t | t
    · exact Int.mul_nonneg t t
    · exact Int.mul_nonneg_of_nonpos_of_nonpos t t
  have hy : 0 ≤ y * y := by
    rcases Int.le_total 0 y with t | t
    · exact Int.mul_nonneg t t
    · exact Int.mul_nonneg_of_nonpos_of_nonpos t t
  have hx0 : x * x = 0 → x = 0 := fun e => by rcases Int.mul_eq_zero.mp e with t | t <;> exact t
  have hy0 : y * y = 0 → y = 0 := fun e => by rcases Int.mul_eq_zero.mp e with t | t <;> exact t
  omega
theorem within_none {ps : List Pt} {p : Pt} (e : within ps p = none) : (∀ q ∈ ps, 0 ≤ at3 (shutOut ps p).1 (shutOut ps p).2.1 (shutOut ps p).2.2 q) ∧ at3 (shutOut ps p).1 (shutOut ps p).2.1 (shutOut ps p).2.2 p < 0 := by
  have R := rim_ok ps
  unfold within at e
  unfold shutOut
  split at e
  · rename_i hr
    rw [hr] at R ⊢
    have hp : ps = [] := by
      cases ps with
      | nil => rfl
      | cons a r => exact absurd rfl (R.nil (by simp))
    subst hp
    exact ⟨by simp, by unfold at3; simp⟩
  · rename_i z hr
    rw [hr] at R ⊢
    split at e
    · cases e
    · rename_i hz
      simp only
      refine ⟨fun q hq => ?_, ?_⟩
      · rw [R.one z rfl q hq]; unfold at3; grind
      · have hne : z.1 - p.1 ≠ 0 ∨ z.2 - p.2 ≠ 0 := by
          by_cases h : z.1 = p.1
          · right
            intro h2
            exact hz (Prod.ext h (by omega))
          · left; omega
        have := sq_pos hne
        unfold at3; grind
  · rename_i z w hr
    rw [hr] at R ⊢
    simp only
    have hc := R.edge z w [] rfl
    obtain ⟨hzw, hmax⟩ := R.two z w rfl
    have hmin := R.least z [w] rfl
    have hcol : ∀ q ∈ ps, turn z w q = 0 := fun q hq => by
      have h1 := hc.1 q hq
      have h2 := hc.2.1 q hq
      have e : turn w z q = - turn z w q := turn_swap _ _ _
      omega
    split
    · rename_i l hl
      obtain ⟨a, b, hR, hneg, rfl⟩ := edge_some hc hl
      refine ⟨fun q hq => ?_, ?_⟩
      · rw [line_at]; exact hR q hq
      · rw [line_at]; exact hneg
    · rename_i hl
      have hen := edge_none hl
      have t0 : turn z w p = 0 := by
        have h1 := hen.1
        have h2 := hen.2.1
        have e : turn w z p = - turn z w p := turn_swap _ _ _
        omega
      -- p lies on the way, but beyond an end
      have hne : z ≠ w := fun h => by rw [h] at hzw; exact lt_irrefl _ hzw
      unfold onSegment at e
      rw [if_neg (by omega)] at e
      split at e
      · rename_i hq
        have hq : (z.1 = w.1 ∧ (p.2 - z.2 < 0 ∨ p.2 - z.2 > w.2 - z.2)) ∨ (z.1 < w.1 ∧ (p.1 - z.1 < 0 ∨ p.1 - z.1 > w.1 - z.1)) := by
          unfold segQ segW segPart segWhole at hq
          unfold lt at hzw
          by_cases hx : z.1 = w.1
          · rw [if_pos hx, if_pos hx, if_neg (by omega), if_neg (by omega)] at hq
            exact .inl ⟨hx, hq⟩
          · rw [if_neg hx, if_neg hx, if_neg (by omega), if_neg (by omega)] at hq
            exact .inr ⟨by omega, hq⟩
        unfold along
        simp only
        have hd : w.1 - z.1 ≠ 0 ∨ w.2 - z.2 ≠ 0 := by
          by_cases h : w.1 = z.1
          · right; intro h2; exact hne (Prod.ext h.symm (by omega))
          · left; omega
        have hsq := sq_pos hd
        have p0 : (w.1 - z.1) * (p.2 - z.2) - (w.2 - z.2) * (p.1 - z.1) = 0 := t0
        split
        · rename_i hdot
          -- beyond w
          refine ⟨fun q hq => ?_, ?_⟩
          · have t1 : turn w z q = 0 := by have e : turn w z q = - turn z w q := turn_swap _ _ _; have := hcol q hq; omega
            have h1 := hmax q hq
            have k : 0 ≤ (neg z).1 - (neg w).1 ∨ True := .inr trivial
            have g := dir_mem (z := neg w) (w := neg z) (q := neg q) (by rw [turn_neg]; exact t1) (by
              rcases h1 with e | h1
              · left; rw [e]
              · right; exact lt_neg h1) (lt_neg hzw)
            unfold neg at g
            unfold at3
            simp only at g
            grind
          · unfold at3
            simp only
            -- d . (p - w) > 0
            have key : 0 < (w.1 - z.1) * (p.1 - w.1) + (w.2 - z.2) * (p.2 - w.2) := by
              unfold lt at hzw
              rcases hq with ⟨hx, hq⟩ | ⟨hx, hq⟩
              · have d0 : w.1 - z.1 = 0 := by omega
                have dy : 0 < w.2 - z.2 := by omega
                rw [d0] at hdot p0 ⊢
                have h2 : 0 < p.2 - z.2 := pos_of_mul dy (by grind)
                have := Int.mul_pos dy (show 0 < p.2 - w.2 by omega)
                grind
              · have dx : 0 < w.1 - z.1 := by omega
                have e : (w.1 - z.1) * ((w.1 - z.1) * (p.1 - z.1) + (w.2 - z.2) * (p.2 - z.2)) = ((w.1 - z.1) * (w.1 - z.1) + (w.2 - z.2) * (w.2 - z.2)) * (p.1 - z.1) := by grind
                have h1 := Int.mul_pos dx hdot
                rw [e] at h1
                have h2 : 0 < p.1 - z.1 := pos_of_mul hsq h1
                have h3 : 0 < p.1 - w.1 := by omega
                refine pos_of_mul dx ?_
                have e2 : (w.1 - z.1) * ((w.1 - z.1) * (p.1 - w.1) + (w.2 - z.2) * (p.2 - w.2)) = ((w.1 - z.1) * (w.1 - z.1) + (w.2 - z.2) * (w.2 - z.2)) * (p.1 - w.1) := by grind
                rw [e2]
                exact Int.mul_pos hsq h3
            grind
        · rename_i hdot
          refine ⟨fun q hq => ?_, ?_⟩
          · have g := dir_mem (hcol q hq) (hmin q hq) hzw
            unfold at3
            simp only
            grind
          · unfold at3
            simp only
            have key : (w.1 - z.1) * (p.1 - z.1) + (w.2 - z.2) * (p.2 - z.2) ≠ 0 := by
              intro h0
              have x0 : ((w.1 - z.1) * (w.1 - z.1) + (w.2 - z.2) * (w.2 - z.2)) * (p.1 - z.1) = 0 := by grind
              have y0 : ((w.1 - z.1) * (w.1 - z.1) + (w.2 - z.2) * (w.2 - z.2)) * (p.2 - z.2) = 0 := by grind
              have x1 : p.1 - z.1 = 0 := by rcases Int.mul_eq_zero.mp x0 with t | t <;> omega
              have y1 : p.2 - z.2 = 0 := by rcases Int.mul_eq_zero.mp y0 with t | t <;> omega
              unfold lt at hzw
              omega
            grind
      · cases e
  · rename_i z a b r hr
    rw [hr] at R ⊢
    simp only
    have hc := R.edge z a (b :: r) rfl
    split
    · rename_i l hl
      obtain ⟨x, y, hR, hneg, rfl⟩ := edge_some hc hl
      refine ⟨fun q hq => ?_, ?_⟩
      · rw [line_at]; exact hR q hq
      · rw [line_at]; exact hneg
    · rename_i hl
      exfalso
      have hen := edge_none hl
      refine fan_none a b r (Adj.left (m := [z]) hen.2) hen.1 (fun x hx => ?_) e
      obtain ⟨ys, ey⟩ := List.getLast?_eq_some_iff.mp hx
      have h2 : Adj (fun a b => 0 ≤ turn a b p) (ys ++ x :: [z]) := by
        have e3 : (a :: b :: r) ++ [z] = ys ++ x :: [z] := by
          rw [ey]; simp
        rw [← e3]; exact hen.2
      have h3 := (Adj.right h2).1
      have e4 : turn x z p = - turn z x p := turn_swap _ _ _
      omega
theorem within_iff (ps : List Pt) (p : Pt) : within ps p = none ↔ Sep ps p := by
  constructor
  · intro h
    obtain ⟨h1, h2⟩ := within_none h
    exact ⟨_, _, _, h1, h2⟩
  · intro h
    cases e : within ps p with
    | none => rfl
    | some ws => exact absurd h ((within_some e).2.sub (rim_ok ps).sub).not_sep
theorem inHull_iff (ps : List Pt) (p : Pt) : InHull ps p.1 p.2 1 ↔ ¬ Sep ps p := by
  constructor
  · exact InHull.not_sep
  · intro h
    cases e : within ps p with
    | none => exact absurd ((within_iff ps p).mp e) h
    | some ws => exact (within_some e).2.sub (rim_ok ps).sub
end HP
/-! Within, gone through: in one, two, three of the points. -/
namespace HP
def inTwoL (a b p : Pt) : Bool := decide (turn a b p = 0 ∧ min a.1 b.1 ≤ p.1 ∧ p.1 ≤ max a.1 b.1 ∧ min a.2 b.2 ≤ p.2 ∧ p.2 ≤ max a.2 b.2)
def inThreeL (a b c p : Pt) : Bool := decide (turn a b c ≠ 0 ∧ ((0 ≤ turn a b p ∧ 0 ≤ turn b c p ∧ 0 ≤ turn c a p) ∨ (turn a b p ≤ 0 ∧ turn b c p ≤ 0 ∧ turn c a p ≤ 0)))
def atN (ps : List Pt) (k : Nat) : Pt := ps.getD k (0, 0)
def lawIn (ps : List Pt) (p : Pt) : Bool := (List.range ps.length).any fun a => decide (atN ps a = p) || (List.range a).any fun b => inTwoL (atN ps a) (atN ps b) p || (List.range b).any fun c => inThreeL (atN ps a) (atN ps b) (atN ps c) p
theorem inTwoL_comm {a b p : Pt} (h : inTwoL a b p = true) : inTwoL b a p = true := by
  unfold inTwoL at *
  simp only [decide_eq_true_eq] at *
  have := turn_swap a b p
  omega
theorem inThreeL_swap {a b c p : Pt} (h : inThreeL a b c p = true) : inThreeL b a c p = true := by
  unfold inThreeL at *
  simp only [decide_eq_true_eq] at *
  have h1 := turn_swap a b p
  have h2 := turn_swap b c p
  have h3 := turn_swap c a p
  have h4 : turn b a c = - turn a b c := by unfold turn; grind
  omega
theorem inThreeL_rot {a b c p : Pt} (h : inThreeL a b c p = true) : inThreeL b c a p = true := by
  unfold inThreeL at *
  simp only [decide_eq_true_eq] at *
  have h4 := turn_rot a b c
  omega
theorem atN_mem {ps : List Pt} {k : Nat} (h : k < ps.length) : atN ps k ∈ ps := by
  unfold atN
  rw [List.getD_eq_getElem?_getD, List.getElem?_eq_getElem h]
  exact List.getElem_mem h
theorem atN_of {ps : List Pt} {p : Pt} (h : p ∈ ps) : ∃ k, k < ps.length ∧ atN ps k = p := by
  obtain ⟨k, hk, e⟩ := List.getElem_of_mem h
  refine ⟨k, hk, ?_⟩
  unfold atN
  rw [List.getD_eq_getElem?_getD, List.getElem?_eq_getElem hk]
  exact e
theorem inTwoL_hull {S : List Pt} {a b p : Pt} (ha : a ∈ S) (hb : b ∈ S) (h : inTwoL a b p = true) : InHull S p.1 p.2 1 := by
  unfold inTwoL at h
  simp only [decide_eq_true_eq] at h
  obtain ⟨ht, h1, h2, h3, h4⟩ := h
  by_cases hab : a = b
  · subst hab
    have : p = a := Prod.ext (by omega) (by omega)
    rw [this]
    exact InHull.of_mem ha
  · refine ⟨_, (in_two_hull (S := S) (p := p) ha hb (seg_pos hab) ?_ ?_ (seg_x hab ht) (seg_y ht)).1⟩
    · unfold segQ segPart segWhole
      split <;> split <;> omega
    · unfold segQ segW segPart segWhole
      split <;> split <;> omega
theorem inThreeL_hull {S : List Pt} {a b c p : Pt} (ha : a ∈ S) (hb : b ∈ S) (hc : c ∈ S) (h : inThreeL a b c p = true) : InHull S p.1 p.2 1 := by
  unfold inThreeL at h
  simp only [decide_eq_true_eq] at h
  obtain ⟨hn, h⟩ := h
  have e : turn b c p + turn c a p + turn a b p = turn a b c := by unfold turn; grind
  rcases h with ⟨h1, h2, h3⟩ | ⟨h1, h2, h3⟩
  · exact ⟨_, (in_three_hull (S := S) ha hb hc (by omega) h2 h3 h1).1⟩
  · have k1 := turn_swap a b p
    have k2 := turn_swap b c p
    have k3 := turn_swap c a p
    have k4 : turn b a c = - turn a b c := by unfold turn; grind
    exact ⟨_, (in_three_hull (S := S) (a := b) (b := a) (c := c) hb ha hc (by omega) (by omega) (by omega) (by omega)).1⟩
theorem lawIn_sound {ps : List Pt} {p : Pt} (h : lawIn ps p = true) : InHull ps p.1 p.2 1 := by
  unfold lawIn at h
  simp only [List.any_eq_true, List.mem_range, Bool.or_eq_true, decide_eq_true_eq] at h
  obtain ⟨a, ha, h | ⟨b, hb, h | ⟨c, hc, h⟩⟩⟩ := h
  · rw [← h]; exact InHull.of_mem (atN_mem ha)
  · exact inTwoL_hull (atN_mem ha) (atN_mem (by omega)) h
  · exact inThreeL_hull (atN_mem ha) (atN_mem (by omega)) (atN_mem (by omega)) h
theorem lawIn_one {ps : List Pt} {p : Pt} {i : Nat} (hi : i < ps.length) (h : atN ps i = p) : lawIn ps p = true := by
  unfold lawIn
  simp only [List.any_eq_true, List.mem_range, Bool.or_eq_true, decide_eq_true_eq]
  exact ⟨i, hi, .inl h⟩
theorem lawIn_two' {ps : List Pt} {p : Pt} {i j : Nat} (hi : i < ps.length) (hj : j < i) (h : inTwoL (atN ps i) (atN ps j) p = true) : lawIn ps p = true := by
  unfold lawIn
  simp only [List.any_eq_true, List.mem_range, Bool.or_eq_true, decide_eq_true_eq]
  exact ⟨i, hi, .inr ⟨j, hj, .inl h⟩⟩
theorem lawIn_three' {ps : List Pt} {p : Pt} {i j k : Nat} (hi : i < ps.length) (hj : j < i) (hk : k < j) (h : inThreeL (atN ps i) (atN ps j) (atN ps k) p = true) : lawIn ps p = true := by
  unfold lawIn
  simp only [List.any_eq_true, List.mem_range, Bool.or_eq_true, decide_eq_true_eq]
  exact ⟨i, hi, .inr ⟨j, hj, .inr ⟨k, hk, h⟩⟩⟩
theorem lawIn_two {ps : List Pt} {a b p : Pt} (ha : a ∈ ps) (hb : b ∈ ps) (hab : a ≠ b) (h : inTwoL a b p = true) : lawIn ps p = true := by
  obtain ⟨i, hi, rfl⟩ := atN_of ha
  obtain ⟨j, hj, rfl⟩ := atN_of hb
  rcases Nat.lt_trichotomy j i with k | k | k
  · exact lawIn_two' hi k h
  · subst k; exact absurd rfl hab
  · exact lawIn_two' hj k (inTwoL_comm h)
theorem lawIn_three {ps : List Pt} {a b c p : Pt} (ha : a ∈ ps) (hb : b ∈ ps) (hc : c ∈ ps) (hab : a ≠ b) (hac : a ≠ c) (hbc : b ≠ c) (h : inThreeL a b c p = true) : lawIn ps p = true := by
  obtain ⟨i, hi, rfl⟩ := atN_of ha
  obtain ⟨j, hj, rfl⟩ := atN_of hb
  obtain ⟨k, hk, rfl⟩ := atN_of hc
  have h1 := inThreeL_swap h
  have h2 := inThreeL_rot h
  have h3 := inThreeL_rot h2
  have h4 := inThreeL_rot h1
  have h5 := inThreeL_rot h4
  rcases Nat.lt_trichotomy j i with a1 | a1 | a1
  · rcases Nat.lt_trichotomy k j with a2 | a2 | a2
    · exact lawIn_three' hi a1 a2 h
    · subst a2; exact absurd rfl hbc
    · rcases Nat.lt_trichotomy k i with a3 | a3 | a3
      · exact lawIn_three' hi a3 a2 h4
      · subst a3; exact absurd rfl hac
      · exact lawIn_three' hk a3 a1 h3
  · subst a1; exact absurd rfl hab
  · rcases Nat.lt_trichotomy k i with a2 | a2 | a2
    · exact lawIn_three' hj a1 a2 h1
    · subst a2; exact absurd rfl hac
    · rcases Nat.lt_trichotomy k j with a3 | a3 | a3
      · exact lawIn_three' hj a3 a2 h2
      · subst a3; exact absurd rfl hbc
      · exact lawIn_three' hk a3 a1 h5
theorem fan_law {ps S : List Pt} {z p : Pt} (hz : z ∈ S) (hS : ∀ x ∈ S, x ∈ ps) : ∀ {r : List Pt} {ws : List W}, (∀ x ∈ r, x ∈ S) → Adj (fun a b => 0 < turn z a b) r → fanFind ps z p r = some ws → lawIn ps p = true
  | [], ws, _, _, e => by cases e
  | [_], ws, _, _, e => by cases e
  | a :: b :: r, ws, hr, hf, e => by
    unfold fanFind at e
    split at e
    · rename_i w hw
      unfold inThree at hw
      split at hw
      · cases hw
      · rename_i hc
        obtain ⟨n1, n2, n3⟩ := turn_ne hf.1
        refine lawIn_three (hS z hz) (hS a (hr a (by simp))) (hS b (hr b (by simp))) n1 n2 n3 ?_
        unfold inThreeL
        have := hf.1
        simp only [decide_eq_true_eq]
        omega
    · exact fan_law hz hS (fun x hx => hr x (List.mem_cons_of_mem _ hx)) hf.2 e
theorem lawIn_complete {ps : List Pt} {p : Pt} (h : ¬ Sep ps p) : lawIn ps p = true := by
  have R := rim_ok ps
  cases e : within ps p with
  | none => exact absurd ((within_iff ps p).mp e) h
  | some ws =>
    unfold within at e
    split at e
    · cases e
    · rename_i z hz
      split at e
      · rename_i hzp
        obtain ⟨i, hi, h1⟩ := atN_of (R.sub z (by rw [hz]; simp))
        exact lawIn_one hi (h1.trans hzp)
      · cases e
    · rename_i z w hz
      have hab : z ≠ w := by
        have := R.nodup
        rw [hz] at this
        simp at this
        exact this
      refine lawIn_two (R.sub z (by rw [hz]; simp)) (R.sub w (by rw [hz]; simp)) hab ?_
      unfold onSegment at e
      split at e
      · cases e
      · rename_i ht
        have ht' : turn z w p = 0 := by omega
        split at e
        · cases e
        · rename_i hq
          have h1 := seg_x hab ht'
          have h2 := seg_y (a := z) (b := w) (p := p) ht'
          have hp := seg_pos hab
          have q0 : 0 ≤ segQ z w p := by omega
          have q1 : segQ z w p ≤ segW z w := by omega
          -- a place between two places
          have key : ∀ a b c : Int, (b - a) * segQ z w p = (c - a) * segW z w → min a b ≤ c ∧ c ≤ max a b := by
            intro a b c he
            generalize segQ z w p = q at *
            generalize segW z w = v at *
            rcases Int.le_total a b with k | k
            · have p1 : 0 ≤ (b - a) * q := Int.mul_nonneg (by omega) q0
              have p2 : 0 ≤ (b - a) * (v - q) := Int.mul_nonneg (by omega) (by omega)
              have p3 : 0 ≤ v * (c - a) := by grind
              have p4 : 0 ≤ v * (b - c) := by grind
              have := nonneg_of_mul hp p3
              have := nonneg_of_mul hp p4
              omega
            · have p1 : 0 ≤ (a - b) * q := Int.mul_nonneg (by omega) q0
              have p2 : 0 ≤ (a - b) * (v - q) := Int.mul_nonneg (by omega) (by omega)
              have p3 : 0 ≤ v * (a - c) := by grind
              have p4 : 0 ≤ v * (c - b) := by grind
              have := nonneg_of_mul hp p3
              have := nonneg_of_mul hp p4
              omega
          obtain ⟨k1, k2⟩ := key _ _ _ h1
          obtain ⟨k3, k4⟩ := key _ _ _ h2
          unfold inTwoL
          simp only [decide_eq_true_eq]
          exact ⟨ht', k1, k2, k3, k4⟩
    · rename_i z a b r hz
      have hS : ∀ x ∈ cornersOf ps, x ∈ ps := R.sub
      exact fan_law (S := cornersOf ps) (by rw [hz]; simp) hS (fun x hx => by rw [hz]; exact List.mem_cons_of_mem _ hx) (R.fan z _ hz) e
theorem lawIn_iff (ps : List Pt) (p : Pt) : lawIn ps p = true ↔ ¬ Sep ps p :=
  ⟨fun h => (inHull_iff ps p).mp (lawIn_sound h), lawIn_complete⟩
/-- the corners are just the points apart from the others -/
theorem corner_iff (ps : List Pt) (x : Pt) : x ∈ cornersOf ps ↔ x ∈ ps ∧ Sep (ps.filter (· ≠ x)) x := by
  have R := rim_ok ps
  constructor
  · intro h
    exact ⟨R.sub x h, R.ext x h⟩
  · rintro ⟨h1, h2⟩
    apply Classical.byContradiction
    intro hn
    have h3 : ¬ Sep ps x := InHull.not_sep (InHull.of_mem h1)
    cases e : within ps x with
    | none => exact absurd ((within_iff ps x).mp e) h3
    | some ws =>
      refine ((within_some e).2.sub fun q hq => ?_).not_sep h2
      rw [List.mem_filter]
      refine ⟨R.sub q hq, ?_⟩
      simp only [ne_eq, decide_not, Bool.not_eq_eq_eq_not, Bool.not_true, decide_eq_false_iff_not]
      intro k
      subst k
      exact hn hq
/-- what the law holds to be due -/
def dueStep (ps : List Pt) (d : List Pt) (p : Pt) : List Pt := if p ∉ d ∧ lawIn (ps.filter (· ≠ p)) p = false then d ++ [p] else d
def due (ps : List Pt) : List Pt := ps.foldl (dueStep ps) []
theorem due_aux (ps : List Pt) : ∀ (l d : List Pt), d.Nodup → (l.foldl (dueStep ps) d).Nodup ∧ ∀ x, x ∈ l.foldl (dueStep ps) d ↔ x ∈ d ∨ (x ∈ l ∧ lawIn (ps.filter (· ≠ x)) x = false)
  | [], d, h => ⟨h, fun x => by simp⟩
  | p :: l, d, h => by
    rw [List.foldl_cons]
    unfold dueStep
    by_cases c : p ∉ d ∧ lawIn (ps.filter (· ≠ p)) p = false
    · rw [if_pos c]
      obtain ⟨h1, h2⟩ := due_aux ps l (d ++ [p]) (by
        rw [List.nodup_append]
        refine ⟨h, by simp, ?_⟩
        intro a ha b hb
        simp at hb
        subst hb
        intro k
        subst k
        exact c.1 ha)
      refine ⟨h1, fun x => ?_⟩
      have := h2 x
      unfold dueStep at this
      rw [this]
      simp only [List.mem_append, List.mem_cons, List.not_mem_nil, or_false]
      constructor
      · rintro ((k | k) | k)
        · exact .inl k
        · subst k; exact .inr ⟨.inl rfl, c.2⟩
        · exact .inr ⟨.inr k.1, k.2⟩
      · rintro (k | ⟨k | k, k2⟩)
        · exact .inl (.inl k)
        · exact .inl (.inr k)
        · exact .inr ⟨k, k2⟩
    · rw [if_neg c]
      obtain ⟨h1, h2⟩ := due_aux ps l d h
      refine ⟨h1, fun x => ?_⟩
      have := h2 x
      unfold dueStep at this
      rw [this]
      simp only [List.mem_cons]
      constructor
      · rintro (k | k)
        · exact .inl k
        · exact .inr ⟨.inr k.1, k.2⟩
      · rintro (k | ⟨k | k, k2⟩)
        · exact .inl k
        · subst k
          by_cases m : x ∈ d
          · exact .inl m
          · exact absurd ⟨m, k2⟩ c
        · exact .inr ⟨k, k2⟩
theorem due_nodup (ps : List Pt) : (due ps).Nodup := (due_aux ps ps [] List.nodup_nil).1
theorem mem_due (ps : List Pt) (x : Pt) : x ∈ due ps ↔ x ∈ cornersOf ps := by
  have h := (due_aux ps ps [] List.nodup_nil).2 x
  unfold due
  rw [h, corner_iff]
  have e : lawIn (ps.filter (· ≠ x)) x = false ↔ Sep (ps.filter (· ≠ x)) x := by
    have := lawIn_iff (ps.filter (· ≠ x)) x
    constructor
    · intro k
      apply Classical.byContradiction
      intro n
      rw [this.mpr n] at k
      cases k
    · intro k
      cases m : lawIn (ps.filter (· ≠ x)) x with
      | false => rfl
      | true => exact absurd k (this.mp m)
  rw [e]
  simp
theorem srt_eq_of {l m : List Pt} (h : ∀ x, x ∈ l ↔ x ∈ m) : srt l = srt m :=
  sorted_unique (srt_sorted l) (srt_sorted m) fun x => by rw [mem_srt, mem_srt]; exact h x
theorem srt_due (ps : List Pt) : srt (due ps) = srt (cornersOf ps) := srt_eq_of (mem_due ps)
/-- the head of the corners is the least of the sorted ones -/
theorem take_corners (ps : List Pt) : (cornersOf ps).take 1 = (srt (cornersOf ps)).take 1 := by
  have R := rim_ok ps
  cases e : cornersOf ps with
  | nil => rfl
  | cons z r =>
    cases e2 : srt (z :: r) with
    | nil =>
      have : z ∈ srt (z :: r) := mem_srt.mpr (by simp)
      rw [e2] at this
      simp at this
    | cons y s =>
      have hy : y ∈ z :: r := mem_srt.mp (by rw [e2]; simp)
      have hz : z ∈ y :: s := by rw [← e2]; exact mem_srt.mpr (by simp)
      have h1 := R.least z r e y (R.sub y (by rw [e]; exact hy))
      have hs := srt_sorted (z :: r)
      rw [e2] at hs
      have : y = z := by
        rcases List.mem_cons.mp hz with k | k
        · exact k.symm
        · have h3 := (List.pairwise_cons.mp hs).1 z k
          rcases h1 with h1 | h1
          · exact h1
          · exact absurd (lt_trans h1 h3) (lt_irrefl _)
      subst this
      rfl
/-- each edge, by the place of its end -/
theorem edge_at {ps : List Pt} {k : Nat} (h2 : 2 < (cornersOf ps).length) (hk : k < (cornersOf ps).length) : ∀ q ∈ ps, 0 ≤ turn (if k = 0 then atN (cornersOf ps) ((cornersOf ps).length - 1) else atN (cornersOf ps) (k - 1)) (atN (cornersOf ps) k) q := by
  have R := rim_ok ps
  generalize e : cornersOf ps = rim at *
  match rim, h2 with
  | z :: w :: r, h2 =>
    have hE := R.edge z w r rfl
    have get : ∀ i, i < (z :: w :: r).length → ((z :: w :: r) ++ [z])[i]? = some (atN (z :: w :: r) i) := by
      intro i hi
      unfold atN
      rw [List.getElem?_append_left hi, List.getD_eq_getElem?_getD, List.getElem?_eq_getElem hi]
      rfl
    by_cases k0 : k = 0
    · subst k0
      rw [if_pos rfl]
      refine Adj.get hE (get _ (by omega)) ?_
      rw [show (z :: w :: r).length - 1 + 1 = (z :: w :: r).length by simp]
      rw [List.getElem?_append_right (Nat.le_refl _), Nat.sub_self]
      rfl
    · rw [if_neg k0]
      refine Adj.get hE (get (k - 1) (by omega)) ?_
      rw [show k - 1 + 1 = k by omega]
      exact get k hk
end HP
/-! Layer D: readings over data. A frame is told by data alone: each slot holds data (no list of it is ever changed), or a list of its own that may grow, or nothing that is asked. -/
namespace LD
open PySem L2 Evl

/-! ### data as it stands; a dict's data stands for the script -/
def scrV (kvs : List (PyData × PyData)) : List V := kvs.map fun kv => match kv.1 with
  | .int n => V.int n
  | _ => V.non
def scrD (ns : List Int) : PyData := .dict (ns.map fun n => (.int n, .none))
theorem scrV_ints (ns : List Int) : scrV (ns.map fun n => (PyData.int n, PyData.none)) = ns.map V.int := by
  unfold scrV
  rw [List.map_map]
  rfl
mutual
inductive Rp (K : PySem.W.Frag) (H : Hp) : V → PyData → Prop
  | non : Rp K H .non .none
  | bl (b : Bool) : Rp K H (.bl b) (.bool b)
  | int (i : Int) : Rp K H (.int i) (.int i)
  | str (x : Str) : Rp K H (.str x) (.str x)
  | lst {a : Addr} {xs : List V} {ds : List PyData} : H a = some (.lst xs) → RpAll K H xs ds → Rp K H (.ref a) (.list ds)
  | tup {a : Addr} {xs : List V} {ds : List PyData} : H a = some (.tup xs) → RpAll K H xs ds → Rp K H (.ref a) (.tuple ds)
  | scr {a : Addr} {kvs : List (PyData × PyData)} : SqL K H a (scrV kvs) → Rp K H (.ref a) (.dict kvs)
inductive RpAll (K : PySem.W.Frag) (H : Hp) : List V → List PyData → Prop
  | nil : RpAll K H [] []
  | cons {v : V} {vs : List V} {d : PyData} {ds : List PyData} : Rp K H v d → RpAll K H vs ds → RpAll K H (v :: vs) (d :: ds)
end
mutual
/-- no list within -/
def lfree : PyData → Bool
  | .list _ => false
  | .dict _ => false
  | .tuple ds => lfreeAll ds
  | _ => true
def lfreeAll : List PyData → Bool
  | [] => true
  | d :: ds => lfree d && lfreeAll ds
end
section
variable {K : PySem.W.Frag} {H H' : Hp}
mutual
theorem Rp.mono (e : Ex H H') : ∀ {v : V} {d : PyData}, Rp K H v d → Rp K H' v d
  | _, _, .non => .non
  | _, _, .bl b => .bl b
  | _, _, .int i => .int i
  | _, _, .str x => .str x
  | _, _, .lst h r => .lst (e _ _ h) (RpAll.mono e r)
  | _, _, .tup h r => .tup (e _ _ h) (RpAll.mono e r)
  | _, _, .scr h => .scr (ex_l e h)
theorem RpAll.mono (e : Ex H H') : ∀ {vs : List V} {ds : List PyData}, RpAll K H vs ds → RpAll K H' vs ds
  | _, _, .nil => .nil
  | _, _, .cons r t => .cons (Rp.mono e r) (RpAll.mono e t)
end
mutual
theorem Rp.dp : ∀ {v : V} {d : PyData}, Rp K H v d → d.canLay0 = true → Dp K H v d
  | _, _, .non, _ => .non
  | _, _, .bl b, _ => .bl b
  | _, _, .int i, _ => .int i
  | _, _, .str x, _ => .str x
  | _, _, .lst h r, s => .lst (.inl (.inl h)) (RpAll.dp r (by simpa only [PyData.canLay0] using s))
  | _, _, .tup h r, s => .tup (.inl (.inl h)) (RpAll.dp r (by simpa only [PyData.canLay0] using s))
  | _, _, .scr h, s => by simp only [PyData.canLay0, Bool.false_eq_true] at s
theorem RpAll.dp : ∀ {vs : List V} {ds : List PyData}, RpAll K H vs ds → PyData.canLayAll0 ds = true → DpAll K H vs ds
  | _, _, .nil, _ => .nil
  | _, _, .cons r t, s => by
    simp only [PyData.canLayAll0, Bool.and_eq_true] at s
    exact .cons (Rp.dp r s.1) (RpAll.dp t s.2)
end
mutual
/-- data without lists stands when lists are left out -/
theorem Rp.cut (e : ∀ a xs, H a = some (.tup xs) → H' a = some (.tup xs)) : ∀ {v : V} {d : PyData}, Rp K H v d → lfree d = true → Rp K H' v d
  | _, _, .non, _ => .non
  | _, _, .bl b, _ => .bl b
  | _, _, .int i, _ => .int i
  | _, _, .str x, _ => .str x
  | _, _, .lst h r, s => by simp only [lfree, Bool.false_eq_true] at s
  | _, _, .tup h r, s => .tup (e _ _ h) (RpAll.cut e r (by simpa only [lfree] using s))
  | _, _, .scr h, s => by simp only [lfree, Bool.false_eq_true] at s
theorem RpAll.cut (e : ∀ a xs, H a = some (.tup xs) → H' a = some (.tup xs)) : ∀ {vs : List V} {ds : List PyData}, RpAll K H vs ds → lfreeAll ds = true → RpAll K H' vs ds
  | _, _, .nil, _ => .nil
  | _, _, .cons r t, s => by
    simp only [lfreeAll, Bool.and_eq_true] at s
    exact .cons (Rp.cut e r s.1) (RpAll.cut e t s.2)
end
theorem Rp.int_inv {v : V} {i : Int} (h : Rp K H v (.int i)) : v = .int i := by cases h; rfl
theorem Rp.bl_inv {v : V} {b : Bool} (h : Rp K H v (.bool b)) : v = .bl b := by cases h; rfl
theorem Rp.str_inv {v : V} {x : Str} (h : Rp K H v (.str x)) : v = .str x := by cases h; rfl
theorem Rp.non_inv {v : V} (h : Rp K H v .none) : v = .non := by cases h; rfl
theorem Rp.lst_inv {v : V} {ds : List PyData} (h : Rp K H v (.list ds)) : ∃ a xs, v = .ref a ∧ H a = some (.lst xs) ∧ RpAll K H xs ds := by
  cases h with
  | lst h r => exact ⟨_, _, rfl, h, r⟩
theorem Rp.tup_inv {v : V} {ds : List PyData} (h : Rp K H v (.tuple ds)) : ∃ a xs, v = .ref a ∧ H a = some (.tup xs) ∧ RpAll K H xs ds := by
  cases h with
  | tup h r => exact ⟨_, _, rfl, h, r⟩
theorem Rp.scr_inv {v : V} {ns : List Int} (h : Rp K H v (scrD ns)) : ∃ a, v = .ref a ∧ SqL K H a (ns.map V.int) := by
  unfold scrD at h
  cases h with
  | scr h =>
    rw [scrV_ints] at h
    exact ⟨_, rfl, h⟩
theorem RpAll.length : ∀ {vs : List V} {ds : List PyData}, RpAll K H vs ds → vs.length = ds.length
  | _, _, .nil => rfl
  | _, _, .cons _ t => by rw [List.length_cons, List.length_cons, RpAll.length t]
theorem RpAll.get : ∀ {vs : List V} {ds : List PyData} {i : Nat} {d : PyData}, RpAll K H vs ds → ds[i]? = some d → ∃ v, vs[i]? = some v ∧ Rp K H v d
  | _, _, _, _, .nil, h => by simp at h
  | _, _, 0, _, .cons r _, h => by
    simp at h
    subst h
    exact ⟨_, rfl, r⟩
  | _, _, i + 1, d, .cons _ t, h => by
    obtain ⟨v, h1, h2⟩ := RpAll.get (i := i) t (by simpa using h)
    exact ⟨v, by simpa using h1, h2⟩
theorem RpAll.getV : ∀ {vs : List V} {ds : List PyData} {i : Nat} {v : V}, RpAll K H vs ds → vs[i]? = some v → ∃ d, ds[i]? = some d ∧ Rp K H v d
  | _, _, _, _, .nil, h => by simp at h
  | _, _, 0, _, .cons r _, h => by
    simp at h
    subst h
    exact ⟨_, rfl, r⟩
  | _, _, i + 1, d, .cons _ t, h => by
    obtain ⟨v, h1, h2⟩ := RpAll.getV (i := i) t (by simpa using h)
    exact ⟨v, by simpa using h1, h2⟩
theorem RpAll.append : ∀ {vs ws : List V} {ds es : List PyData}, RpAll K H vs ds → RpAll K H ws es → RpAll K H (vs ++ ws) (ds ++ es)
  | _, _, _, _, .nil, h => h
  | _, _, _, _, .cons r t, h => .cons r (RpAll.append t h)
theorem RpAll.take : ∀ {vs : List V} {ds : List PyData} (n : Nat), RpAll K H vs ds → RpAll K H (vs.take n) (ds.take n)
  | _, _, 0, _ => .nil
  | _, _, _ + 1, .nil => .nil
  | _, _, n + 1, .cons r t => .cons r (RpAll.take n t)
theorem RpAll.drop : ∀ {vs : List V} {ds : List PyData} (n : Nat), RpAll K H vs ds → RpAll K H (vs.drop n) (ds.drop n)
  | _, _, 0, h => h
  | _, _, _ + 1, .nil => .nil
  | _, _, n + 1, .cons _ t => RpAll.drop n t
theorem RpAll.rev : ∀ {vs : List V} {ds : List PyData}, RpAll K H vs ds → RpAll K H vs.reverse ds.reverse
  | _, _, .nil => .nil
  | _, _, .cons r t => by
    rw [List.reverse_cons, List.reverse_cons]
    exact RpAll.append (RpAll.rev t) (.cons r .nil)
theorem RpAll.ints : ∀ {vs : List V} {ns : List Int}, RpAll K H vs (ns.map PyData.int) → vs = ns.map V.int
  | _, [], .nil => rfl
  | _, n :: ns, .cons r t => by
    rw [r.int_inv, RpAll.ints t]
    rfl
theorem RpAll.of_ints : ∀ (ns : List Int), RpAll K H (ns.map V.int) (ns.map PyData.int)
  | [] => .nil
  | n :: ns => .cons (.int n) (RpAll.of_ints ns)
theorem RpAll.bools : ∀ {vs : List V} {bs : List Bool}, RpAll K H vs (bs.map PyData.bool) → vs = bs.map V.bl
  | _, [], .nil => rfl
  | _, b :: bs, .cons r t => by
    rw [r.bl_inv, RpAll.bools t]
    rfl
end

/-! ### frames -/
inductive Sl where
  | no
  | dat (d : PyData)
  | own (ds : List PyData)
abbrev SE := List Sl
def Sl.isOwn : Sl → Bool
  | .own _ => true
  | _ => false
def noOwn (env : SE) : Bool := env.all fun s => !s.isOwn
def SlOk (K : PySem.W.Frag) (H0 H : Hp) (v : Option V) : Sl → Prop
  | .no => True
  | .dat d => ∃ x, v = some x ∧ Rp K H0 x d
  | .own ds => ∃ l xs, v = some (.ref l) ∧ H0 l = none ∧ H l = some (.lst xs) ∧ RpAll K H0 xs ds
structure SOk (K : PySem.W.Frag) (Hb H0 H : Hp) (σ : St) (env : SE) : Prop where
  base : Ex Hb H0
  up : Ex H0 H
  len : σ.length = env.length
  at_ : ∀ (i : Nat) (s : Sl), env[i]? = some s → SlOk K H0 H (σ[i]?).join s
def StD (K : PySem.W.Frag) (Hb H : Hp) (σ : St) (env : SE) : Prop := ∃ H0, SOk K Hb H0 H σ env
section
variable {K : PySem.W.Frag} {Hb H0 H H1 : Hp} {σ : St} {env : SE}
theorem SlOk.mono {H0' H' : Hp} {v : Option V} {s : Sl} (e0 : Ex H0 H0') (e : Ex H H') (hf : ∀ l xs, H0 l = none → H l = some (.lst xs) → s.isOwn = true → H0' l = none) (h : SlOk K H0 H v s) : SlOk K H0' H' v s := by
  cases s with
  | no => trivial
  | dat d =>
    obtain ⟨x, h1, h2⟩ := h
    exact ⟨x, h1, h2.mono e0⟩
  | own ds =>
    obtain ⟨l, xs, h1, h2, h3, h4⟩ := h
    exact ⟨l, xs, h1, hf l xs h2 h3 rfl, e _ _ h3, h4.mono e0⟩
theorem StD.grow (h : StD K Hb H σ env) (e : Ex H H1) : StD K Hb H1 σ env := by
  obtain ⟨H0, s⟩ := h
  exact ⟨H0, s.base, s.up.trans e, s.len, fun i sl hi => (s.at_ i sl hi).mono (Ex.refl _) e (fun l xs a _ _ => a)⟩
theorem StD.bot (h : StD K Hb H σ env) : Ex Hb H := by
  obtain ⟨H0, s⟩ := h
  exact s.base.trans s.up
/-- the heap without the frame's own lists -/
noncomputable def cutH (H : Hp) (L : Addr → Prop) : Hp := fun b => open Classical in if L b then none else H b
theorem cutH_in {H : Hp} {L : Addr → Prop} {b : Addr} (h : L b) : cutH H L b = none := by unfold cutH; rw [if_pos h]
theorem cutH_out {H : Hp} {L : Addr → Prop} {b : Addr} (h : ¬ L b) : cutH H L b = H b := by unfold cutH; rw [if_neg h]
theorem cutH_ex {H : Hp} {L : Addr → Prop} : Ex (cutH H L) H := fun a o h => by
  by_cases k : L a
  · rw [cutH_in k] at h; cases h
  · rw [cutH_out k] at h; exact h
def ownAt (σ : St) (env : SE) (b : Addr) : Prop := ∃ (i : Nat) (ds : List PyData), env[i]? = some (Sl.own ds) ∧ (σ[i]?).join = some (V.ref b)
theorem SOk.own_none (s : SOk K Hb H0 H σ env) {b : Addr} (h : ownAt σ env b) : H0 b = none ∧ ∃ xs, H b = some (.lst xs) := by
  obtain ⟨i, ds, h1, h2⟩ := h
  obtain ⟨l, xs, e, n, h3, _⟩ := s.at_ i _ h1
  rw [h2] at e
  cases e
  exact ⟨n, xs, h3⟩
/-- the ground may be taken as all that stands but the frame's own lists -/
theorem StD.widen (h : StD K Hb H σ env) : SOk K Hb (cutH H (ownAt σ env)) H σ env := by
  obtain ⟨H0, s⟩ := h
  have e : Ex H0 (cutH H (ownAt σ env)) := fun a o ha => by
    have n : ¬ ownAt σ env a := fun k => by
      rw [(s.own_none k).1] at ha
      cases ha
    rw [cutH_out n]
    exact s.up a o ha
  refine ⟨s.base.trans e, cutH_ex, s.len, fun i sl hi => ?_⟩
  cases sl with
  | no => trivial
  | dat d =>
    obtain ⟨x, h1, h2⟩ := s.at_ i _ hi
    exact ⟨x, h1, h2.mono e⟩
  | own ds =>
    obtain ⟨l, xs, h1, h2, h3, h4⟩ := s.at_ i _ hi
    exact ⟨l, xs, h1, cutH_in ⟨i, ds, hi, h1⟩, h3, h4.mono e⟩
theorem noOwn_not (h : noOwn env = true) {b : Addr} : ¬ ownAt σ env b := by
  rintro ⟨i, ds, h1, _⟩
  unfold noOwn at h
  rw [List.all_eq_true] at h
  have := h _ (List.mem_of_getElem? h1)
  simp [Sl.isOwn] at this
/-- what stands can be said of the ground, if it holds no list or if the frame has no list of its own -/
theorem rp_ground {v : V} {d : PyData} (s : SOk K Hb H0 H σ env) (h : Rp K H v d) (k : (noOwn env || lfree d) = true) : Rp K (cutH H (ownAt σ env)) v d := by
  rcases Bool.or_eq_true_iff.mp k with k | k
  · exact h.mono fun a o ha => by rw [cutH_out (noOwn_not k)]; exact ha
  · refine h.cut (fun a xs ha => ?_) k
    rw [cutH_out]
    · exact ha
    · intro q
      obtain ⟨_, ys, e⟩ := s.own_none q
      rw [ha] at e
      cases e
theorem rpAll_ground {vs : List V} {ds : List PyData} (s : SOk K Hb H0 H σ env) (h : RpAll K H vs ds) (k : (noOwn env || lfreeAll ds) = true) : RpAll K (cutH H (ownAt σ env)) vs ds := by
  rcases Bool.or_eq_true_iff.mp k with k | k
  · exact h.mono fun a o ha => by rw [cutH_out (noOwn_not k)]; exact ha
  · refine h.cut (fun a xs ha => ?_) k
    rw [cutH_out]
    · exact ha
    · intro q
      obtain ⟨_, ys, e⟩ := s.own_none q
      rw [ha] at e
      cases e
theorem join_set_same {σ : St} {i : Nat} {v : Option V} (h : i < σ.length) : ((σ.set i v)[i]?).join = v := by
  rw [List.getElem?_set_self h]
  rfl
theorem join_set_ne {σ : St} {i j : Nat} {v : Option V} (h : i ≠ j) : ((σ.set i v)[j]?).join = (σ[j]?).join := by
  rw [List.getElem?_set_ne h]
/-- a slot is stored anew -/
theorem SOk.set {i : Nat} {v : V} {s : Sl} (h : SOk K Hb H0 H σ env) (k : SlOk K H0 H (some v) s) : SOk K Hb H0 H (σ.set i (some v)) (env.set i s) := by
  refine ⟨h.base, h.up, by rw [List.length_set, List.length_set, h.len], fun j sl hj => ?_⟩
  by_cases e : i = j
  · subst e
    by_cases hl : i < env.length
    · rw [List.getElem?_set_self hl] at hj
      cases hj
      rw [join_set_same (by rw [h.len]; exact hl)]
      exact k
    · rw [List.getElem?_eq_none (by rw [List.length_set]; omega)] at hj
      cases hj
  · rw [List.getElem?_set_ne e] at hj
    rw [join_set_ne e]
    exact h.at_ j sl hj
/-- nothing more is asked of a slot -/
theorem SOk.forget {i : Nat} {v : Option V} (h : SOk K Hb H0 H σ env) : SOk K Hb H0 H (σ.set i v) (env.set i .no) := by
  refine ⟨h.base, h.up, by rw [List.length_set, List.length_set, h.len], fun j sl hj => ?_⟩
  by_cases e : i = j
  · subst e
    by_cases hl : i < env.length
    · rw [List.getElem?_set_self hl] at hj
      cases hj
      trivial
    · rw [List.getElem?_eq_none (by rw [List.length_set]; omega)] at hj
      cases hj
  · rw [List.getElem?_set_ne e] at hj
    rw [join_set_ne e]
    exact h.at_ j sl hj
end

/-! ### what evaluates to what data -/
def EvD (K : PySem.W.Frag) (te : TE) (σ : St) (H : Hp) (d : PyData) : Prop := ∀ H1, Ex H H1 → ∀ Q : VK, (∀ v H2, Ex H1 H2 → Rp K H2 v d → Q v H2) → te σ H1 Q
/-- a new list -/
def EvF (K : PySem.W.Frag) (te : TE) (σ : St) (H : Hp) (ds : List PyData) : Prop :=
  ∀ H1, Ex H H1 → ∀ Q : VK, (∀ p xs Hm H2, H1 p = none → Ex H1 Hm → Ex Hm H2 → Hm p = none → H2 p = some (.lst xs) → RpAll K Hm xs ds → Q (.ref p) H2) → te σ H1 Q
def EvAD (K : PySem.W.Frag) (ta : TA) (σ : St) (H : Hp) (ds : List PyData) : Prop := ∀ H1, Ex H H1 → ∀ Q : List V → Hp → Prop, (∀ vs H2, Ex H1 H2 → RpAll K H2 vs ds → Q vs H2) → ta σ H1 Q
def EvX (K : PySem.W.Frag) (te : TE) (env : SE) (d : PyData) : Prop := ∀ Hb σ H, StD K Hb H σ env → EvD K te σ H d
def EvFX (K : PySem.W.Frag) (te : TE) (env : SE) (ds : List PyData) : Prop := ∀ Hb σ H, StD K Hb H σ env → EvF K te σ H ds
def EvTX (K : PySem.W.Frag) (tt : TT) (env : SE) (b : Bool) : Prop := ∀ Hb σ H, StD K Hb H σ env → EvT tt σ H b
def EvAX (K : PySem.W.Frag) (ta : TA) (env : SE) (ds : List PyData) : Prop := ∀ Hb σ H, StD K Hb H σ env → EvAD K ta σ H ds
def EvOX (K : PySem.W.Frag) (to : TO) (env : SE) (o : Option Int) : Prop := ∀ Hb σ H, StD K Hb H σ env → EvO to σ H o

section
variable {K : PySem.W.Frag} {env : SE} {ta tb te tc : TE} {t u : TT} {d d' e : PyData} {tr : TA} {ds es : List PyData}
theorem ex_is (h : EvX K te env d) (e : d = d') : EvX K te env d' := e ▸ h
theorem xt_is {a b : Bool} (h : EvTX K t env a) (e : a = b) : EvTX K t env b := e ▸ h
theorem xf_is (h : EvFX K te env ds) (e : ds = es) : EvFX K te env es := e ▸ h
theorem ex_var {i : Nat} (h : env[i]? = some (.dat d)) : EvX K (tVar i) env d := fun Hb σ H s H1 e1 Q q => by
  obtain ⟨H0, s⟩ := s
  obtain ⟨x, hx, r⟩ := s.at_ i _ h
  have : σ[i]? = some (some x) := by
    cases k : σ[i]? with
    | none => rw [k] at hx; cases hx
    | some o => rw [k] at hx; exact congrArg some hx
  exact ⟨x, this, q x H1 (Ex.refl _) (r.mono (s.up.trans e1))⟩
theorem ex_own {i : Nat} (h : env[i]? = some (.own ds)) : EvX K (tVar i) env (.list ds) := fun Hb σ H s H1 e1 Q q => by
  obtain ⟨H0, s⟩ := s
  obtain ⟨l, xs, hx, _, hl, r⟩ := s.at_ i _ h
  have : σ[i]? = some (some (.ref l)) := by
    cases k : σ[i]? with
    | none => rw [k] at hx; cases hx
    | some o => rw [k] at hx; exact congrArg some hx
  exact ⟨.ref l, this, q _ H1 (Ex.refl _) (.lst (e1 _ _ hl) (r.mono (s.up.trans e1)))⟩
theorem ex_int {i : Int} : EvX K (tC (.int i)) env (.int i) := fun _ _ _ _ H1 _ _ q => q _ H1 (Ex.refl _) (.int i)
theorem ex_str {x : Str} : EvX K (tC (.str x)) env (.str x) := fun _ _ _ _ H1 _ _ q => q _ H1 (Ex.refl _) (.str x)
theorem ex_bl {b : Bool} : EvX K (tC (.bl b)) env (.bool b) := fun _ _ _ _ H1 _ _ q => q _ H1 (Ex.refl _) (.bl b)
theorem ex_non : EvX K (tC .non) env .none := fun _ _ _ _ H1 _ _ q => q _ H1 (Ex.refl _) .non
/-- two operands -/
theorem ex_two {r : R2} (ha : EvX K ta env d) (hb : EvX K tb env e) (hr : ∀ x y H, Rp K H x d → Rp K H y e → ∀ Q : VK, (∀ v H2, Ex H H2 → Rp K H2 v d' → Q v H2) → r x y H Q) : EvX K (tOp r ta tb) env d' := fun Hb σ H s H1 e1 Q q =>
  ha Hb σ H s H1 e1 _ fun x H2 e2 rx => hb Hb σ H s H2 (e1.trans e2) _ fun y H3 e3 ry => hr x y H3 (rx.mono e3) ry Q fun v H4 e4 rv => q v H4 ((e2.trans e3).trans e4) rv
theorem ex_I0 {g : Int → Int → Int} {i j : Int} (ha : EvX K ta env (.int i)) (hb : EvX K tb env (.int j)) : EvX K (tOp (rI0 fun i j => V.int (g i j)) ta tb) env (.int (g i j)) :=
  ex_two ha hb fun x y H rx ry Q q => ⟨i, j, rx.int_inv, ry.int_inv, q _ H (Ex.refl _) (.int _)⟩
theorem ex_B0 {g : Int → Int → Bool} {i j : Int} (ha : EvX K ta env (.int i)) (hb : EvX K tb env (.int j)) : EvX K (tOp (rI0 fun i j => V.bl (g i j)) ta tb) env (.bool (g i j)) :=
  ex_two ha hb fun x y H rx ry Q q => ⟨i, j, rx.int_inv, ry.int_inv, q _ H (Ex.refl _) (.bl _)⟩
theorem ex_I {C : Int → Int → Prop} {g : Int → Int → Int} {i j : Int} (ha : EvX K ta env (.int i)) (hb : EvX K tb env (.int j)) (hc : C i j) : EvX K (tOp (rI C fun i j => V.int (g i j)) ta tb) env (.int (g i j)) :=
  ex_two ha hb fun x y H rx ry Q q => ⟨i, j, rx.int_inv, ry.int_inv, hc, q _ H (Ex.refl _) (.int _)⟩
theorem ex_U {g : Int → Int} {i : Int} (ha : EvX K ta env (.int i)) : EvX K (tUn (rU fun i => V.int (g i)) ta) env (.int (g i)) := fun Hb σ H s H1 e1 Q q =>
  ha Hb σ H s H1 e1 _ fun x H2 e2 rx => ⟨i, rx.int_inv, q _ H2 e2 (.int _)⟩
theorem RpAll.at {H : Hp} {xs : List V} {i : Int} (r : RpAll K H xs ds) (h : atI ds i = some d) : ∃ v, atI xs i = some v ∧ Rp K H v d := by
  unfold atI at h ⊢
  rw [r.length]
  cases k : ixN ds.length i with
  | none => rw [k] at h; cases h
  | some j =>
    rw [k] at h
    exact r.get h
theorem ex_ixT {i : Int} (ha : EvX K ta env (.tuple ds)) (hb : EvX K tb env (.int i)) (h : atI ds i = some d) : EvX K (tOp (rIx K) ta tb) env d :=
  ex_two ha hb fun x y H rx ry Q q => by
    obtain ⟨a, xs, e1, h1, h2⟩ := rx.tup_inv
    obtain ⟨v, h3, h4⟩ := h2.at h
    exact .inr (.inl ⟨a, xs, i, v, e1, ry.int_inv, .inl (.inl h1), h3, q _ H (Ex.refl _) h4⟩)
theorem ex_ixL {i : Int} (ha : EvX K ta env (.list ds)) (hb : EvX K tb env (.int i)) (h : atI ds i = some d) : EvX K (tOp (rIx K) ta tb) env d :=
  ex_two ha hb fun x y H rx ry Q q => by
    obtain ⟨a, xs, e1, h1, h2⟩ := rx.lst_inv
    obtain ⟨v, h3, h4⟩ := h2.at h
    exact .inl ⟨a, xs, i, v, e1, ry.int_inv, .inl (.inl h1), h3, q _ H (Ex.refl _) h4⟩
theorem ex_ixScr {ns : List Int} {i n : Int} (ha : EvX K ta env (scrD ns)) (hb : EvX K tb env (.int i)) (h : atI ns i = some n) : EvX K (tOp (rIx K) ta tb) env (.int n) :=
  ex_two ha hb fun x y H rx ry Q q => by
    obtain ⟨a, e1, h1⟩ := rx.scr_inv
    refine .inl ⟨a, ns.map V.int, i, .int n, e1, ry.int_inv, h1, ?_, q _ H (Ex.refl _) (.int n)⟩
    unfold atI at h ⊢
    rw [List.length_map]
    cases k : ixN ns.length i with
    | none => rw [k] at h; cases h
    | some j =>
      rw [k] at h
      show (ns.map V.int)[j]? = _
      rw [List.getElem?_map, show ns[j]? = some n from h]
      rfl
theorem ex_eq (ha : EvX K ta env d) (hb : EvX K tb env e) (s1 : SeqAt.shaped d = true) (s2 : SeqAt.shaped e = true) : EvX K (tOp (rEqD K) ta tb) env (.bool (PyData.eqv d e)) :=
  ex_two ha hb fun x y H rx ry Q q => ⟨d, e, rx.dp (SeqAt.canLay_of_shaped s1), ry.dp (SeqAt.canLay_of_shaped s2), s1, s2, q _ H (Ex.refl _) (.bl _)⟩
theorem ex_ne (ha : EvX K ta env d) (hb : EvX K tb env e) (s1 : SeqAt.shaped d = true) (s2 : SeqAt.shaped e = true) : EvX K (tOp (rNeD K) ta tb) env (.bool (!PyData.eqv d e)) :=
  ex_two ha hb fun x y H rx ry Q q => ⟨d, e, rx.dp (SeqAt.canLay_of_shaped s1), ry.dp (SeqAt.canLay_of_shaped s2), s1, s2, q _ H (Ex.refl _) (.bl _)⟩
theorem ex_in (ha : EvX K ta env d) (hb : EvX K tb env (.list es)) (s1 : SeqAt.shaped d = true) (s2 : SeqAt.shaped (.list es) = true) : EvX K (tOp (rInD K) ta tb) env (.bool (es.any fun z => PyData.eqv z d)) :=
  ex_two ha hb fun x y H rx ry Q q => ⟨d, es, rx.dp (SeqAt.canLay_of_shaped s1), ry.dp (SeqAt.canLay_of_shaped s2), s1, s2, q _ H (Ex.refl _) (.bl _)⟩
theorem ex_notIn (ha : EvX K ta env d) (hb : EvX K tb env (.list es)) (s1 : SeqAt.shaped d = true) (s2 : SeqAt.shaped (.list es) = true) : EvX K (tOp (rNotInD K) ta tb) env (.bool (!es.any fun z => PyData.eqv z d)) :=
  ex_two ha hb fun x y H rx ry Q q => ⟨d, es, rx.dp (SeqAt.canLay_of_shaped s1), ry.dp (SeqAt.canLay_of_shaped s2), s1, s2, q _ H (Ex.refl _) (.bl _)⟩
def isNone : PyData → Bool
  | .none => true
  | _ => false
theorem Rp.isNon {H : Hp} {x : V} (r : Rp K H x d) : decide (x = .non) = isNone d := by
  cases r <;> rfl
theorem ex_isN (ha : EvX K ta env d) : EvX K (tOp (fun x y H Q => y = .non ∧ Q (.bl (decide (x = .non))) H) ta (tC .non)) env (.bool (isNone d)) :=
  ex_two ha ex_non fun x y H rx ry Q q => ⟨ry.non_inv, by
    rw [rx.isNon]
    exact q _ H (Ex.refl _) (.bl _)⟩
theorem ex_notN (ha : EvX K ta env d) : EvX K (tOp (fun x y H Q => y = .non ∧ Q (.bl (!decide (x = .non))) H) ta (tC .non)) env (.bool (!isNone d)) :=
  ex_two ha ex_non fun x y H rx ry Q q => ⟨ry.non_inv, by
    rw [rx.isNon]
    exact q _ H (Ex.refl _) (.bl _)⟩
/-- arguments -/
theorem ea_nil : EvAX K tNil env [] := fun _ _ _ _ H1 _ _ q => q _ H1 (Ex.refl _) .nil
theorem ea_cons (h : EvX K te env d) (hr : EvAX K tr env ds) : EvAX K (tCons te tr) env (d :: ds) := fun Hb σ H s H1 e1 Q q =>
  h Hb σ H s H1 e1 _ fun x H2 e2 rx => hr Hb σ H s H2 (e1.trans e2) _ fun xs H3 e3 rxs => q _ H3 (e2.trans e3) (.cons (rx.mono e3) rxs)
theorem ex_tup (h : EvAX K tr env ds) (hl : ds.length ≤ 100000) : EvX K (tTup tr) env (.tuple ds) := fun Hb σ H s H1 e1 Q q =>
  h Hb σ H s H1 e1 _ fun vs H2 e2 r => ⟨sz_of (by rw [r.length]; exact hl), fun p hp => q _ _ (e2.trans (Ex.new hp)) (.tup upd_same (r.mono (Ex.new hp)))⟩
theorem xf_lst (h : EvAX K tr env ds) (hl : ds.length ≤ 100000) : EvFX K (tLst tr) env ds := fun Hb σ H s H1 e1 Q q =>
  h Hb σ H s H1 e1 _ fun vs H2 e2 r => ⟨sz_of (by rw [r.length]; exact hl), fun p hp => q p vs H2 _ (fresh_back e2 hp) e2 (Ex.new hp) hp upd_same r⟩
theorem ex_new (h : EvFX K te env ds) : EvX K te env (.list ds) := fun Hb σ H s H1 e1 Q q =>
  h Hb σ H s H1 e1 _ fun p xs Hm H2 _ e2 e3 _ h2 r => q _ H2 (e2.trans e3) (.lst h2 (r.mono e3))
/-- a built-in's call by values -/
theorem ex_cb {r : List V → Hp → VK → Prop} (h : EvAX K tr env ds) (hr : ∀ vs H, RpAll K H vs ds → ∀ Q : VK, (∀ v H2, Ex H H2 → Rp K H2 v d → Q v H2) → r vs H Q) : EvX K (tCB r tr) env d := fun Hb σ H s H1 e1 Q q =>
  h Hb σ H s H1 e1 _ fun vs H2 e2 rv => hr vs H2 rv Q fun v H3 e3 rd => q v H3 (e2.trans e3) rd
theorem xf_cb {r : List V → Hp → VK → Prop} (h : EvAX K tr env ds) (hr : ∀ vs H, RpAll K H vs ds → ∀ Q : VK, (∀ p xs Hm H2, H p = none → Ex H Hm → Ex Hm H2 → Hm p = none → H2 p = some (.lst xs) → RpAll K Hm xs es → Q (.ref p) H2) → r vs H Q) : EvFX K (tCB r tr) env es := fun Hb σ H s H1 e1 Q q =>
  h Hb σ H s H1 e1 _ fun vs H2 e2 rv => hr vs H2 rv Q fun p xs Hm H3 hp e3 e4 hm h3 rd => q p xs Hm H3 (fresh_back e2 hp) (e2.trans e3) e4 hm h3 rd
theorem RpAll.one {H : Hp} {vs : List V} (r : RpAll K H vs [d]) : ∃ v, vs = [v] ∧ Rp K H v d := by
  cases r with
  | cons r t =>
    cases t
    exact ⟨_, rfl, r⟩
theorem RpAll.pair {H : Hp} {vs : List V} (r : RpAll K H vs [d, e]) : ∃ v w, vs = [v, w] ∧ Rp K H v d ∧ Rp K H w e := by
  cases r with
  | cons r t =>
    obtain ⟨w, rfl, rw⟩ := t.one
    exact ⟨_, w, rfl, r, rw⟩
def lenD : PyData → Option Nat
  | .list ds => some ds.length
  | .tuple ds => some ds.length
  | .dict kvs => some kvs.length
  | .str x => if x.length ≤ 100000 then some x.length else none
  | _ => none
theorem ex_len {n : Nat} (h : EvX K te env d) (hn : lenD d = some n) : EvX K (tCB (fun xs H Q => ∃ x n, xs = [x] ∧ LenV K x H n ∧ Q (.int n) H) (tCons te tNil)) env (.int n) :=
  ex_cb (ea_cons h ea_nil) fun vs H r Q q => by
    obtain ⟨v, rfl, rv⟩ := r.one
    refine ⟨v, n, rfl, ?_, q _ H (Ex.refl _) (.int n)⟩
    cases rv with
    | lst h1 r1 =>
      cases hn
      exact .inl ⟨_, .inl (.inl h1), r1.length.symm⟩
    | tup h1 r1 =>
      cases hn
      exact .inr ⟨_, .inl (.inl h1), r1.length.symm⟩
    | scr h1 =>
      cases hn
      exact .inl ⟨_, h1, by unfold scrV; rw [List.length_map]⟩
    | str x =>
      have hn' : (if x.length ≤ 100000 then some x.length else none) = some n := hn
      by_cases hx : x.length ≤ 100000
      · rw [if_pos hx] at hn'
        cases hn'
        exact ⟨sz_of hx, rfl⟩
      · rw [if_neg hx] at hn'
        cases hn'
    | _ => cases hn
theorem ex_abs {i : Int} (h : EvX K te env (.int i)) : EvX K (tCB (fun xs H Q => ∃ i, xs = [.int i] ∧ Q (.int (if i < 0 then -i else i)) H) (tCons te tNil)) env (.int (if i < 0 then -i else i)) :=
  ex_cb (ea_cons h ea_nil) fun vs H r Q q => by
    obtain ⟨v, rfl, rv⟩ := r.one
    rw [rv.int_inv]
    exact ⟨i, rfl, q _ H (Ex.refl _) (.int _)⟩
/-- calls of defs: F says which data the def answers for which -/
def spD (K : PySem.W.Frag) (F : List PyData → PyData → Prop) : Sp := fun vs H Q _ => ∃ ds d, RpAll K H vs ds ∧ F ds d ∧ ∀ v H', Ex H H' → Rp K H' v d → Q v H'
def spF (K : PySem.W.Frag) (F : List PyData → List PyData → Prop) : Sp := fun vs H Q _ => ∃ ds es, RpAll K H vs ds ∧ F ds es ∧ ∀ p xs Hm H', H p = none → Ex H Hm → Ex Hm H' → Hm p = none → H' p = some (.lst xs) → RpAll K Hm xs es → Q (.ref p) H'
theorem ex_call {F : List PyData → PyData → Prop} {E : XK} (h : EvAX K tr env ds) (hF : F ds d) : EvX K (tCall (spD K F) [] E tr) env d := fun Hb σ H s H1 e1 Q q =>
  h Hb σ H s H1 e1 _ fun vs H2 e2 rv => ⟨ds, d, by rw [List.append_nil]; exact rv, hF, fun v H3 e3 r => q v H3 (e2.trans e3) r⟩
theorem xf_call {F : List PyData → List PyData → Prop} {E : XK} (h : EvAX K tr env ds) (hF : F ds es) : EvFX K (tCall (spF K F) [] E tr) env es := fun Hb σ H s H1 e1 Q q =>
  h Hb σ H s H1 e1 _ fun vs H2 e2 rv => ⟨ds, es, by rw [List.append_nil]; exact rv, hF, fun p xs Hm H3 hp e3 e4 hm h3 r => q p xs Hm H3 (fresh_back e2 hp) (e2.trans e3) e4 hm h3 r⟩
/-- none, or a new list -/
def spO (K : PySem.W.Frag) (F : List PyData → Option (List PyData) → Prop) : Sp := fun vs H Q _ => ∃ ds o, RpAll K H vs ds ∧ F ds o ∧ (o = none → ∀ H', Ex H H' → Q .non H') ∧
  ∀ es, o = some es → ∀ p xs Hm H', H p = none → Ex H Hm → Ex Hm H' → Hm p = none → H' p = some (.lst xs) → RpAll K Hm xs es → Q (.ref p) H'
theorem ex_callO {F : List PyData → Option (List PyData) → Prop} {E : XK} (h : EvAX K tr env ds) (hF : F ds none) : EvX K (tCall (spO K F) [] E tr) env .none := fun Hb σ H s H1 e1 Q q =>
  h Hb σ H s H1 e1 _ fun vs H2 e2 rv => ⟨ds, none, by rw [List.append_nil]; exact rv, hF, (fun _ H3 e3 => q _ H3 (e2.trans e3) .non), fun es e => by cases e⟩
theorem xf_callO {F : List PyData → Option (List PyData) → Prop} {E : XK} (h : EvAX K tr env ds) (hF : F ds (some es)) : EvFX K (tCall (spO K F) [] E tr) env es := fun Hb σ H s H1 e1 Q q =>
  h Hb σ H s H1 e1 _ fun vs H2 e2 rv => ⟨ds, some es, by rw [List.append_nil]; exact rv, hF, (fun e => by cases e), fun es' e p xs Hm H3 hp e3 e4 hm h3 r => by
    cases e
    exact q p xs Hm H3 (fresh_back e2 hp) (e2.trans e3) e4 hm h3 r⟩
/-- an answer told by more than its data: R of what stood, the value, what stands -/
def spR (K : PySem.W.Frag) (F : List PyData → (Hp → V → Hp → Prop) → Prop) : Sp := fun vs H Q _ => ∃ ds R, RpAll K H vs ds ∧ F ds R ∧ ∀ Hm v H', Ex H Hm → Ex Hm H' → R Hm v H' → Q v H'
theorem ex_callR {F : List PyData → (Hp → V → Hp → Prop) → Prop} {R : Hp → V → Hp → Prop} {E : XK} (h : EvAX K tr env ds) (hF : F ds R) (hR : ∀ Hm v H, R Hm v H → Rp K H v d) : EvX K (tCall (spR K F) [] E tr) env d := fun Hb σ H s H1 e1 Q q =>
  h Hb σ H s H1 e1 _ fun vs H2 e2 rv => ⟨ds, R, by rw [List.append_nil]; exact rv, hF, fun Hm v H3 e3 e4 r => q v H3 ((e2.trans e3).trans e4) (hR Hm v H3 r)⟩
def EvRX (K : PySem.W.Frag) (te : TE) (env : SE) (R : Hp → V → Hp → Prop) : Prop := ∀ Hb σ H, StD K Hb H σ env → ∀ Q : VK, (∀ Hm v H', Ex H Hm → Ex Hm H' → R Hm v H' → Q v H') → te σ H Q
theorem er_call {F : List PyData → (Hp → V → Hp → Prop) → Prop} {R : Hp → V → Hp → Prop} {E : XK} (h : EvAX K tr env ds) (hF : F ds R) : EvRX K (tCall (spR K F) [] E tr) env R := fun Hb σ H s Q q =>
  h Hb σ H s H (Ex.refl H) _ fun vs H2 e2 rv => ⟨ds, R, by rw [List.append_nil]; exact rv, hF, fun Hm v H3 e3 e4 r => q Hm v H3 (e2.trans e3) e4 r⟩
/-- slices -/
theorem eo_no : EvOX K tNoPart env none := fun _ _ _ _ => Evl.eo_none
theorem eo_at {i : Int} (h : EvX K te env (.int i)) : EvOX K (tPart te) env (some i) := fun Hb σ H s H1 e1 Q q => h Hb σ H s H1 e1 _ fun v H2 e2 r => ⟨i, r.int_inv, q H2 e2⟩
def cutD {α : Type} (xs : List α) (lo hi : Option Int) : List α := (xs.drop (HT.sIx xs.length 0 lo)).take (HT.sIx xs.length xs.length hi - HT.sIx xs.length 0 lo)
theorem xf_sl {tl th : TO} {lo hi : Option Int} (h : EvX K te env (.list ds)) (h1 : EvOX K tl env lo) (h2 : EvOX K th env hi) : EvFX K (tSl (rSlL K) te tl th) env (cutD ds lo hi) := fun Hb σ H s H1 e1 Q q =>
  h Hb σ H s H1 e1 _ fun v H2 e2 r => h1 Hb σ H s H2 (e1.trans e2) _ fun H3 e3 => h2 Hb σ H s H3 ((e1.trans e2).trans e3) _ fun H4 e4 => by
    obtain ⟨a, xs, rfl, hv, rx⟩ := r.lst_inv
    have hv4 : H4 a = some (.lst xs) := e4 _ _ (e3 _ _ hv)
    refine ⟨a, xs, rfl, .inl (.inl hv4), fun p hp => q p _ H4 _ (fresh_back ((e2.trans e3).trans e4) hp) ((e2.trans e3).trans e4) (Ex.new hp) hp upd_same ?_⟩
    unfold cutV cutD
    rw [rx.length]
    exact ((rx.mono (e3.trans e4)).drop _).take _
theorem xf_slScr {tl th : TO} {lo hi : Option Int} {ns : List Int} (h : EvX K te env (scrD ns)) (h1 : EvOX K tl env lo) (h2 : EvOX K th env hi) : EvFX K (tSl (rSlL K) te tl th) env ((cutD ns lo hi).map PyData.int) := fun Hb σ H s H1 e1 Q q =>
  h Hb σ H s H1 e1 _ fun v H2 e2 r => h1 Hb σ H s H2 (e1.trans e2) _ fun H3 e3 => h2 Hb σ H s H3 ((e1.trans e2).trans e3) _ fun H4 e4 => by
    obtain ⟨a, rfl, hv⟩ := r.scr_inv
    refine ⟨a, ns.map V.int, rfl, ex_l (e3.trans e4) hv, fun p hp => q p _ H4 _ (fresh_back ((e2.trans e3).trans e4) hp) ((e2.trans e3).trans e4) (Ex.new hp) hp upd_same ?_⟩
    have : cutV (ns.map V.int) lo hi = (cutD ns lo hi).map V.int := by
      unfold cutV cutD
      rw [List.length_map, List.map_take, List.map_drop]
    rw [this]
    exact RpAll.of_ints _
/-- xs + ys -/
theorem xf_cat (ha : EvX K ta env (.list ds)) (hb : EvX K tb env (.list es)) (hl : ds.length + es.length ≤ 100000) : EvFX K (tOp rCat ta tb) env (ds ++ es) := fun Hb σ H s H1 e1 Q q =>
  ha Hb σ H s H1 e1 _ fun x H2 e2 rx => hb Hb σ H s H2 (e1.trans e2) _ fun y H3 e3 ry => by
    obtain ⟨a, xs, rfl, h1, r1⟩ := rx.lst_inv
    obtain ⟨b, ys, rfl, h2, r2⟩ := ry.lst_inv
    exact ⟨a, b, xs, ys, rfl, rfl, e3 _ _ h1, h2, sz_of (by rw [r1.length, r2.length]; exact hl), fun p hp => q p _ H3 _ (fresh_back (e2.trans e3) hp) (e2.trans e3) (Ex.new hp) hp upd_same ((r1.mono e3).append r2)⟩
/-- list(xs) -/
theorem xf_list (h : EvX K te env (.list ds)) : EvFX K (tCB (fun xs H Q => ∃ p ys, xs = [.ref p] ∧ (SqL K H p ys ∨ SqT K H p ys) ∧ ∀ l, H l = none → Q (.ref l) (upd H l (.lst ys))) (tCons te tNil)) env ds :=
  xf_cb (ea_cons h ea_nil) fun vs H r Q q => by
    obtain ⟨v, rfl, rv⟩ := r.one
    obtain ⟨a, xs, rfl, h1, r1⟩ := rv.lst_inv
    exact ⟨a, xs, rfl, .inl (.inl (.inl h1)), fun l hl => q l xs H _ hl (Ex.refl _) (Ex.new hl) hl upd_same r1⟩

/-! ### tests -/
theorem xt_test {b : Bool} (h : EvX K te env (.bool b)) : EvTX K (tTest te) env b := fun Hb σ H s H1 e1 Q q => h Hb σ H s H1 e1 _ fun v H2 e2 r => ⟨b, r.bl_inv, q H2 e2⟩
theorem xt_B {b : Bool} (h : EvX K te env (.bool b)) : EvTX K (tB te) env b := fun Hb σ H s H1 e1 Q q => h Hb σ H s H1 e1 _ fun v H2 e2 r => ⟨b, r.bl_inv, q H2 e2⟩
theorem xt_not {b : Bool} (h : EvTX K t env b) : EvTX K (tNot t) env (!b) := fun Hb σ H s => Evl.et_not (h Hb σ H s)
theorem xt_and {a b : Bool} (h1 : EvTX K t env a) (h2 : a = true → EvTX K u env b) : EvTX K (tAnd t u) env (a && b) := fun Hb σ H s => Evl.et_and (h1 Hb σ H s) fun e => h2 e Hb σ H s
theorem xt_or {a b : Bool} (h1 : EvTX K t env a) (h2 : a = false → EvTX K u env b) : EvTX K (tOr t u) env (a || b) := fun Hb σ H s => Evl.et_or (h1 Hb σ H s) fun e => h2 e Hb σ H s
theorem ex_andV {a b : Bool} (h1 : EvX K ta env (.bool a)) (h2 : a = true → EvX K tb env (.bool b)) : EvX K (tAndV ta tb) env (.bool (a && b)) := fun Hb σ H s H1 e1 Q q => h1 Hb σ H s H1 e1 _ fun v H2 e2 r => ⟨a, r.bl_inv, by
  cases a with
  | true =>
    show tb σ H2 Q
    exact h2 rfl Hb σ H s H2 (e1.trans e2) Q fun v H3 e3 r => q v H3 (e2.trans e3) r
  | false =>
    show Q (.bl false) H2
    exact q _ H2 e2 (.bl false)⟩
theorem ex_orV {a b : Bool} (h1 : EvX K ta env (.bool a)) (h2 : a = false → EvX K tb env (.bool b)) : EvX K (tOrV ta tb) env (.bool (a || b)) := fun Hb σ H s H1 e1 Q q => h1 Hb σ H s H1 e1 _ fun v H2 e2 r => ⟨a, r.bl_inv, by
  cases a with
  | true =>
    show Q (.bl true) H2
    exact q _ H2 e2 (.bl true)
  | false =>
    show tb σ H2 Q
    exact h2 rfl Hb σ H s H2 (e1.trans e2) Q fun v H3 e3 r => q v H3 (e2.trans e3) r⟩
theorem ex_notV {a : Bool} (h1 : EvX K ta env (.bool a)) : EvX K (tNotV ta) env (.bool (!a)) := fun Hb σ H s H1 e1 Q q => h1 Hb σ H s H1 e1 _ fun v H2 e2 r => ⟨a, r.bl_inv, q _ H2 e2 (.bl _)⟩
theorem ex_if {b : Bool} (h : EvTX K t env b) (h1 : b = true → EvX K ta env d) (h2 : b = false → EvX K tb env d) : EvX K (tIf t ta tb) env d := fun Hb σ H s H1 e1 Q q => h Hb σ H s H1 e1 _ fun H2 e2 => by
  cases b with
  | true =>
    show ta σ H2 Q
    exact h1 rfl Hb σ H s H2 (e1.trans e2) Q fun v H3 e3 r => q v H3 (e2.trans e3) r
  | false =>
    show tb σ H2 Q
    exact h2 rfl Hb σ H s H2 (e1.trans e2) Q fun v H3 e3 r => q v H3 (e2.trans e3) r
/-- a < b < c -/
theorem ex_chain {r r' : R2} {a b : Bool} {d1 d2 d3 : PyData} (h1 : EvX K ta env d1) (h2 : EvX K tb env d2) (hr : ∀ x y H, Rp K H x d1 → Rp K H y d2 → ∀ Q : VK, (∀ H2, Ex H H2 → Q (.bl a) H2) → r x y H Q)
    (h3 : a = true → EvX K tc env d3) (hr' : ∀ x y H, Rp K H x d2 → Rp K H y d3 → ∀ Q : VK, (∀ H2, Ex H H2 → Q (.bl b) H2) → r' x y H Q) : EvX K (tChain r r' ta tb tc) env (.bool (a && b)) := fun Hb σ H s H1 e1 Q q =>
  h1 Hb σ H s H1 e1 _ fun x H2 e2 rx => h2 Hb σ H s H2 (e1.trans e2) _ fun y H3 e3 ry => hr x y H3 (rx.mono e3) ry _ fun H4 e4 => ⟨a, rfl, by
    cases a with
    | true =>
      show tc σ H4 fun w' H4 => r' y w' H4 Q
      exact h3 rfl Hb σ H s H4 (((e1.trans e2).trans e3).trans e4) _ fun z H5 e5 rz => hr' y z H5 (ry.mono (e4.trans e5)) rz Q fun H6 e6 => q _ H6 ((((e2.trans e3).trans e4).trans e5).trans e6) (.bl _)
    | false =>
      show Q (.bl false) H4
      exact q _ H4 ((e2.trans e3).trans e4) (.bl false)⟩
theorem ex_chainI {g g' : Int → Int → Bool} {i j k : Int} (h1 : EvX K ta env (.int i)) (h2 : EvX K tb env (.int j)) (h3 : EvX K tc env (.int k)) : EvX K (tChain (rI0 fun i j => V.bl (g i j)) (rI0 fun i j => V.bl (g' i j)) ta tb tc) env (.bool (g i j && g' j k)) :=
  ex_chain h1 h2 (fun x y H rx ry Q q => ⟨i, j, rx.int_inv, ry.int_inv, q H (Ex.refl _)⟩) (fun _ => h3) (fun x y H rx ry Q q => ⟨j, k, rx.int_inv, ry.int_inv, q H (Ex.refl _)⟩)
end

/-! ### statements: from a frame to an outcome -/
inductive Out where
  | nx (e : SE)
  | rt (d : PyData)
  | rf (ds : List PyData)
  | rq (R : Hp → V → Hp → Prop)
  | bk (e : SE)
  | ct (e : SE)
  | ex (P : Hp → Prop)
def Out.stays : Out → Bool
  | .nx _ => true
  | _ => false
def Good (K : PySem.W.Frag) (Hb : Hp) (D : Ends) : Out → Prop
  | .nx e => ∀ σ H, StD K Hb H σ e → D.nx σ H
  | .rt d => ∀ v H, Ex Hb H → Rp K H v d → D.rt v H
  | .rf ds => ∀ p xs Hm H, Hb p = none → Ex Hb Hm → Ex Hm H → Hm p = none → H p = some (.lst xs) → RpAll K Hm xs ds → D.rt (.ref p) H
  | .rq R => ∀ Hm v H, Ex Hb Hm → Ex Hm H → R Hm v H → D.rt v H
  | .bk e => ∀ σ H, StD K Hb H σ e → D.bk σ H
  | .ct e => ∀ σ H, StD K Hb H σ e → D.ct σ H
  | .ex P => ∀ H, Ex Hb H → P H
def RunX (K : PySem.W.Frag) (t : TS) (env : SE) (out : Out) : Prop := ∀ Hb σ H D, StD K Hb H σ env → Good K Hb D out → t D σ H
section
variable {K : PySem.W.Frag} {env e1 : SE} {te : TE} {tt : TT} {t u w : TS} {out : Out} {d : PyData} {ds es : List PyData}
theorem StD.base {Hb Hb' H : Hp} {σ : St} (e : Ex Hb Hb') (h : StD K Hb' H σ env) : StD K Hb H σ env := by
  obtain ⟨H0, s⟩ := h
  exact ⟨H0, e.trans s.base, s.up, s.len, s.at_⟩
theorem Good.base {Hb Hb' : Hp} {D : Ends} (e : Ex Hb Hb') : ∀ {out : Out}, Good K Hb D out → Good K Hb' D out
  | .nx _, g => fun σ H s => g σ H (s.base e)
  | .rt _, g => fun v H x r => g v H (e.trans x) r
  | .rf _, g => fun p xs Hm H hp a b hm h r => g p xs Hm H (fresh_back e hp) (e.trans a) b hm h r
  | .rq _, g => fun Hm v H a b r => g Hm v H (e.trans a) b r
  | .bk _, g => fun σ H s => g σ H (s.base e)
  | .ct _, g => fun σ H s => g σ H (s.base e)
  | .ex _, g => fun H a => g H (e.trans a)
theorem rx_seq (h1 : RunX K t env (.nx e1)) (h2 : RunX K u e1 out) : RunX K (tSeq t u) env out := fun Hb σ H D s g => h1 Hb σ H { D with nx := u D } s fun σ' H' s' => h2 Hb σ' H' D s' g
theorem rx_end (h : RunX K t env out) (k : out.stays = false) : RunX K (tSeq t u) env out := fun Hb σ H D s g => h Hb σ H { D with nx := u D } s (by
  cases out with
  | nx e => cases k
  | rt d => exact g
  | rf ds => exact g
  | rq R => exact g
  | bk e => exact g
  | ct e => exact g
  | ex P => exact g)
theorem rx_next : RunX K tNext env (.nx env) := fun Hb σ H D s g => g σ H s
theorem rx_break : RunX K tBreak env (.bk env) := fun Hb σ H D s g => g σ H s
theorem rx_cont : RunX K tCont env (.ct env) := fun Hb σ H D s g => g σ H s
theorem rx_asg {i : Nat} (h : EvX K te env d) (k : (noOwn env || lfree d) = true) : RunX K (tAsg te (gName i)) env (.nx (env.set i (.dat d))) := fun Hb σ H D s g =>
  h Hb σ H s H (Ex.refl H) _ fun v H1 e r => g _ H1 ⟨_, (s.grow e).widen.set ⟨v, rfl, rp_ground (s.grow e).widen r k⟩⟩
/-- a new list, the slot's own -/
theorem rx_asgF {i : Nat} (h : EvFX K te env ds) (k : (noOwn env || lfreeAll ds) = true) : RunX K (tAsg te (gName i)) env (.nx (env.set i (.own ds))) := fun Hb σ H D s g =>
  h Hb σ H s H (Ex.refl H) _ fun p xs Hm H1 hp e1 e2 hm h1 r => by
    have sm := (s.grow e1).widen
    have r' := rpAll_ground sm r k
    have so : SOk K Hb (cutH Hm (ownAt σ env)) H1 σ env := by
      refine ⟨sm.base, sm.up.trans e2, sm.len, fun j sl hj => ?_⟩
      exact (sm.at_ j sl hj).mono (Ex.refl _) e2 fun l xs a _ _ => a
    refine g _ H1 ⟨_, so.set ⟨p, xs, rfl, ?_, h1, r'⟩⟩
    by_cases q : ownAt σ env p
    · exact cutH_in q
    · rw [cutH_out q]; exact hm
theorem rx_drop (h : EvX K te env d) : RunX K (tDrop te) env (.nx env) := fun Hb σ H D s g => h Hb σ H s H (Ex.refl H) _ fun v H1 e _ => g _ H1 (s.grow e)
theorem rx_ret (h : EvX K te env d) : RunX K (tRet te) env (.rt d) := fun Hb σ H D s g => h Hb σ H s H (Ex.refl H) _ fun v H1 e r => g v H1 (s.bot.trans e) r
theorem rx_retF (h : EvFX K te env ds) : RunX K (tRet te) env (.rf ds) := fun Hb σ H D s g =>
  h Hb σ H s H (Ex.refl H) _ fun p xs Hm H1 hp e1 e2 hm h1 r => g p xs Hm H1 (fresh_back s.bot hp) (s.bot.trans e1) e2 hm h1 r
theorem rx_retO {i : Nat} (h : env[i]? = some (.own ds)) : RunX K (tRet (tVar i)) env (.rf ds) := fun Hb σ H D s g => by
  obtain ⟨H0, s⟩ := s
  obtain ⟨l, xs, hx, hn, hl, r⟩ := s.at_ i _ h
  have hv : σ[i]? = some (some (.ref l)) := by
    cases k : σ[i]? with
    | none => rw [k] at hx; cases hx
    | some o => rw [k] at hx; exact congrArg some hx
  exact ⟨.ref l, hv, g l xs H0 H (fresh_back s.base hn) s.base s.up hn hl r⟩
theorem rx_retR {R : Hp → V → Hp → Prop} (h : EvRX K te env R) : RunX K (tRet te) env (.rq R) := fun Hb σ H D s g => h Hb σ H s _ fun Hm v H1 e1 e2 r => g Hm v H1 (s.bot.trans e1) e2 r
theorem rx_rt (h : RunX K t env (.rt d)) : RunX K t env (.rq fun _ v H => Rp K H v d) := fun Hb σ H D s g => h Hb σ H D s fun v H1 e r => g Hb v H1 (Ex.refl _) e r
theorem rx_retN : RunX K tRetN env (.rt .none) := fun Hb σ H D s g => g .non H s.bot .non
theorem rx_if {b : Bool} (h : EvTX K tt env b) (h1 : b = true → RunX K t env out) (h2 : b = false → RunX K u env out) : RunX K (tIfS tt t u) env out := fun Hb σ H D s g =>
  h Hb σ H s H (Ex.refl H) _ fun H1 e => by
    cases b with
    | true =>
      show t D σ H1
      exact h1 rfl Hb σ H1 D (s.grow e) g
    | false =>
      show u D σ H1
      exact h2 rfl Hb σ H1 D (s.grow e) g
/-- an if, and what stands behind it -/
theorem rx_ifS {b : Bool} (h : EvTX K tt env b) (h1 : b = true → RunX K (tSeq t w) env out) (h2 : b = false → RunX K (tSeq u w) env out) : RunX K (tSeq (tIfS tt t u) w) env out := fun Hb σ H D s g =>
  h Hb σ H s H (Ex.refl H) _ fun H1 e => by
    cases b with
    | true =>
      show tSeq t w D σ H1
      exact h1 rfl Hb σ H1 D (s.grow e) g
    | false =>
      show tSeq u w D σ H1
      exact h2 rfl Hb σ H1 D (s.grow e) g
theorem rx_nextS (h : RunX K w env out) : RunX K (tSeq tNext w) env out := fun Hb σ H D s g => h Hb σ H D s g
theorem rx_is {out' : Out} (h : RunX K t env out) (e : out = out') : RunX K t env out' := e ▸ h
theorem list_is_not {H : Hp} {a b : Addr} {xs : List V} {o : HO} (h : H a = some (.lst xs)) (k : H b = some o) (n : ∀ ys, o ≠ .lst ys) : b ≠ a := fun e => by
  subst e
  rw [h] at k
  exact n xs (Option.some.inj k).symm
/-- the frame when its one own list has been stored anew -/
theorem SOk.store {Hb H0 H : Hp} {σ : St} {i : Nat} {l : Addr} {ys : List V} (s : SOk K Hb H0 H σ env) (hl : (σ[i]?).join = some (.ref l)) (hn : H0 l = none) (hi : i < env.length) (one : noOwn (env.set i .no) = true) (r : RpAll K H0 ys es) : SOk K Hb H0 (upd H l (.lst ys)) σ (env.set i (.own es)) := by
  refine ⟨s.base, Ex.mut s.up hn, by rw [List.length_set, s.len], fun j sl hj => ?_⟩
  by_cases e : i = j
  · subst e
    rw [List.getElem?_set_self hi] at hj
    cases hj
    exact ⟨l, ys, hl, hn, upd_same, r⟩
  · rw [List.getElem?_set_ne e] at hj
    have k := s.at_ j sl hj
    cases sl with
    | no => trivial
    | dat d => exact k
    | own ds =>
      exfalso
      unfold noOwn at one
      rw [List.all_eq_true] at one
      have := one (.own ds) (List.mem_of_getElem? (i := j) (by rw [List.getElem?_set_ne e]; exact hj))
      simp [Sl.isOwn] at this
theorem own_slot {Hb H0 H : Hp} {σ : St} {i : Nat} (s : SOk K Hb H0 H σ env) (h : env[i]? = some (.own ds)) : ∃ l xs, σ[i]? = some (some (.ref l)) ∧ (σ[i]?).join = some (.ref l) ∧ H0 l = none ∧ H l = some (.lst xs) ∧ RpAll K H0 xs ds := by
  obtain ⟨l, xs, hx, hn, hl, r⟩ := s.at_ i _ h
  have hv : σ[i]? = some (some (.ref l)) := by
    cases k : σ[i]? with
    | none => rw [k] at hx; cases hx
    | some o => rw [k] at hx; exact congrArg some hx
  exact ⟨l, xs, hv, hx, hn, hl, r⟩
theorem lfreeAll_app : ∀ {ds es : List PyData}, lfreeAll (ds ++ es) = (lfreeAll ds && lfreeAll es)
  | [], _ => rfl
  | d :: ds, es => by
    show (lfree d && lfreeAll (ds ++ es)) = ((lfree d && lfreeAll ds) && lfreeAll es)
    rw [lfreeAll_app, Bool.and_assoc]
/-- xs.append(e), xs the frame's one own list -/
theorem rx_app {i : Nat} (h : env[i]? = some (.own ds)) (he : EvX K te env d) (hd : lfree d = true) (hz : ds.length < 100000) (one : noOwn (env.set i .no) = true) :
    RunX K (tDrop (tBM K "list" rAppend (tVar i) (tCons te tNil))) env (.nx (env.set i (.own (ds ++ [d])))) := fun Hb σ H D s g => by
  have s0 := s.widen
  obtain ⟨l, xs, hv, hx, hn, hl, r⟩ := own_slot s0 h
  refine ⟨.ref l, hv, .inl ⟨rfl, xs, .inl (.inl hl)⟩, he Hb σ H s H (Ex.refl H) _ fun v H1 e rv => ?_⟩
  have s1 := (s.grow e).widen
  obtain ⟨l', xs', hv', hx', hn', hl', r'⟩ := own_slot s1 h
  rw [hv] at hv'
  cases hv'
  refine ⟨l, xs', v, rfl, rfl, hl', sz_lt (by rw [r'.length]; exact hz), g _ _ ⟨_, s1.store hx hn' ?_ one (r'.append (.cons (rp_ground s1 rv (by rw [hd, Bool.or_true])) .nil))⟩⟩
  exact (List.getElem?_eq_some_iff.mp h).1
/-- xs.pop() -/
theorem rx_pop {i : Nat} (h : env[i]? = some (.own (ds ++ [d]))) (one : noOwn (env.set i .no) = true) : RunX K (tDrop (tBM0 K "list" rPop (tVar i))) env (.nx (env.set i (.own ds))) := fun Hb σ H D s g => by
  have s0 := s.widen
  obtain ⟨l, xs, hv, hx, hn, hl, r⟩ := own_slot s0 h
  have hlen := r.length
  rw [List.length_append, List.length_singleton] at hlen
  obtain ⟨y, hy, ry⟩ := r.get (i := xs.length - 1) (d := d) (by
    rw [List.getElem?_append_right (by omega), show xs.length - 1 - ds.length = 0 by omega]
    rfl)
  refine ⟨.ref l, hv, .inl ⟨rfl, xs, .inl (.inl hl)⟩, l, xs, y, rfl, rfl, hl, hy, g _ _ ⟨_, s0.store hx hn (List.getElem?_eq_some_iff.mp h).1 one ?_⟩⟩
  have k := r.take ds.length
  rw [List.take_left] at k
  rw [List.dropLast_eq_take, show xs.length - 1 = ds.length by omega]
  exact k

/-! ### while -/
inductive Wh (K : PySem.W.Frag) (tc : TT) (tb : TS) : Nat → SE → Out → Prop
  | stop {n : Nat} {e : SE} : EvTX K tc e false → Wh K tc tb n e (.nx e)
  | turn {n : Nat} {e e1 : SE} {out : Out} : EvTX K tc e true → RunX K tb e (.nx e1) → Wh K tc tb n e1 out → Wh K tc tb (n + 1) e out
  | rt {n : Nat} {e : SE} {d : PyData} : EvTX K tc e true → RunX K tb e (.rt d) → Wh K tc tb n e (.rt d)
theorem rx_while {tc : TT} {tb : TS} {n : Nat} (h : Wh K tc tb n env out) : RunX K (tWhile tc tb) env out := fun Hb σ H D s g => by
  refine ⟨fun m σ H => ∃ e, StD K Hb H σ e ∧ Wh K tc tb m e out, ⟨n, env, s, h⟩, ?_⟩
  rintro m σ H ⟨e, s, w⟩
  cases w with
  | stop hc => exact hc Hb σ H s H (Ex.refl H) _ fun H1 e1 => g σ H1 (s.grow e1)
  | @turn n e e1 out hc hb w =>
    refine hc Hb σ H s H (Ex.refl H) _ fun H1 x1 => ?_
    refine ⟨fun σ' H' => StD K Hb H' σ' e1, fun σ' H' s' => ⟨n, Nat.lt_succ_self n, e1, s', w⟩, ?_⟩
    exact hb Hb σ H1 _ (s.grow x1) fun σ' H' s' => s'
  | @rt n e d hc hb =>
    refine hc Hb σ H s H (Ex.refl H) _ fun H1 x1 => ?_
    exact ⟨fun _ _ => False, fun _ _ z => z.elim, hb Hb σ H1 _ (s.grow x1) g⟩

/-! ### targets -/
/-- what a target stores of an item: the frame behind it -/
def TgX (K : PySem.W.Frag) (g : TG) (env : SE) (d : PyData) (env' : SE) : Prop := ∀ Hb H0 H σ v (Q : St → Hp → Prop), SOk K Hb H0 H σ env → Rp K H0 v d → (∀ σ' H0', SOk K Hb H0' H σ' env' → Q σ' H) → g v σ H Q
theorem tg_name {i : Nat} : TgX K (gName i) env d (env.set i (.dat d)) := fun Hb H0 H σ v Q s r q => q _ H0 (s.set ⟨v, rfl, r⟩)
theorem tg_name' {i : Nat} {e' : SE} (e : env.set i (.dat d) = e') : TgX K (gName i) env d e' := e ▸ tg_name
def TgsX (K : PySem.W.Frag) (g : TGs) (env : SE) (ds : List PyData) (env' : SE) : Prop := ∀ Hb H0 H σ vs (Q : St → Hp → Prop), SOk K Hb H0 H σ env → RpAll K H0 vs ds → (∀ σ' H0', SOk K Hb H0' H σ' env' → Q σ' H) → g vs σ H Q
theorem tgs_nil : TgsX K gNil env [] env := fun Hb H0 H σ vs Q s r q => by
  cases r
  exact ⟨rfl, q σ H0 s⟩
theorem tgs_name {i : Nat} {g : TGs} {env' : SE} (h : TgsX K g (env.set i (.dat d)) ds env') : TgsX K (gCons (gName i) g) env (d :: ds) env' := fun Hb H0 H σ vs Q s r q => by
  cases r with
  | cons r t => exact ⟨_, _, rfl, h Hb H0 H _ _ Q (s.set ⟨_, rfl, r⟩) t q⟩
theorem tg_tup {n : Nat} {g : TGs} {env' : SE} (h : TgsX K g env ds env') (hn : ds.length = n) : TgX K (gTup K n g) env (.tuple ds) env' := fun Hb H0 H σ v Q s r q => by
  obtain ⟨a, xs, rfl, h1, h2⟩ := r.tup_inv
  exact ⟨a, xs, rfl, .inl (.inl (s.up _ _ h1)), by rw [h2.length]; exact hn, h Hb H0 H σ xs Q s h2 q⟩
theorem rx_asgT {n : Nat} {g : TGs} {env' : SE} (h : EvX K te env (.tuple ds)) (hg : TgsX K g env ds env') (hn : ds.length = n) (k : (noOwn env || lfree (.tuple ds)) = true) : RunX K (tAsg te (gTup K n g)) env (.nx env') := fun Hb σ H D s gd =>
  h Hb σ H s H (Ex.refl H) _ fun v H1 e r => tg_tup hg hn Hb _ H1 σ v _ (s.grow e).widen (rp_ground (s.grow e).widen r k) fun σ' H0' s' => gd σ' H1 ⟨H0', s'⟩
/-- a, b = e1, e2 -/
theorem rx_par {i j : Nat} {ta : TA} {d1 d2 : PyData} (h : EvAX K ta env [d1, d2]) (k1 : (noOwn env || lfree d1) = true) (k2 : (noOwn env || lfree d2) = true) : RunX K (tPar i j ta) env (.nx ((env.set i (.dat d1)).set j (.dat d2))) := fun Hb σ H D s g =>
  h Hb σ H s H (Ex.refl H) _ fun vs H1 e r => by
    obtain ⟨v, w, rfl, r1, r2⟩ := r.pair
    have s1 := (s.grow e).widen
    exact ⟨v, w, rfl, g _ H1 ⟨_, (s1.set (s := .dat d1) ⟨v, rfl, rp_ground s1 r1 k1⟩).set (s := .dat d2) ⟨w, rfl, rp_ground s1 r2 k2⟩⟩⟩

/-! ### for -/
/-- the turns of a loop over the items -/
inductive Fr (K : PySem.W.Frag) (g : TG) (tb : TS) : List PyData → SE → Out → Prop
  | done {e : SE} : Fr K g tb [] e (.nx e)
  | turn {d : PyData} {ds : List PyData} {e e1 e2 : SE} {out : Out} : TgX K g e d e1 → RunX K tb e1 (.nx e2) → Fr K g tb ds e2 out → Fr K g tb (d :: ds) e out
  | cont {d : PyData} {ds : List PyData} {e e1 e2 : SE} {out : Out} : TgX K g e d e1 → RunX K tb e1 (.ct e2) → Fr K g tb ds e2 out → Fr K g tb (d :: ds) e out
  | brk {d : PyData} {ds : List PyData} {e e1 e2 : SE} : TgX K g e d e1 → RunX K tb e1 (.bk e2) → Fr K g tb (d :: ds) e (.nx e2)
  | rt {d r : PyData} {ds : List PyData} {e e1 : SE} : TgX K g e d e1 → RunX K tb e1 (.rt r) → Fr K g tb (d :: ds) e (.rt r)
  | rf {d : PyData} {ds rs : List PyData} {e e1 : SE} : TgX K g e d e1 → RunX K tb e1 (.rf rs) → Fr K g tb (d :: ds) e (.rf rs)
  | rq {d : PyData} {ds : List PyData} {R : Hp → V → Hp → Prop} {e e1 : SE} : TgX K g e d e1 → RunX K tb e1 (.rq R) → Fr K g tb (d :: ds) e (.rq R)
  | ex {d : PyData} {ds : List PyData} {P : Hp → Prop} {e e1 : SE} : TgX K g e d e1 → RunX K tb e1 (.ex P) → Fr K g tb (d :: ds) e (.ex P)
/-- one turn from the items that are left -/
theorem Fr.step {g : TG} {tb : TS} {ds : List PyData} {Hb H0 H : Hp} {σ : St} {D : Ends} {e : SE} {x : PyData} {v : V} {Pv : List PyData → St → Hp → Prop} (f : Fr K g tb (x :: ds) e out) (gd : Good K Hb D out) (s : SOk K Hb H0 H σ e) (r : Rp K H0 v x)
    (k : ∀ e2, Fr K g tb ds e2 out → ∀ σ2 H2, StD K Hb H2 σ2 e2 → Pv ds σ2 H2) : g v σ H fun σ2 H2 => tb { D with nx := Pv ds, ct := Pv ds, bk := D.nx } σ2 H2 := by
  cases f with
  | turn ht hb hf => exact ht Hb H0 H σ v _ s r fun σ' H0' s' => hb Hb σ' H _ ⟨_, s'⟩ fun σ2 H2 s2 => k _ hf σ2 H2 s2
  | cont ht hb hf => exact ht Hb H0 H σ v _ s r fun σ' H0' s' => hb Hb σ' H _ ⟨_, s'⟩ fun σ2 H2 s2 => k _ hf σ2 H2 s2
  | brk ht hb => exact ht Hb H0 H σ v _ s r fun σ' H0' s' => hb Hb σ' H _ ⟨_, s'⟩ fun σ2 H2 s2 => gd σ2 H2 s2
  | rt ht hb => exact ht Hb H0 H σ v _ s r fun σ' H0' s' => hb Hb σ' H _ ⟨_, s'⟩ gd
  | rf ht hb => exact ht Hb H0 H σ v _ s r fun σ' H0' s' => hb Hb σ' H _ ⟨_, s'⟩ gd
  | rq ht hb => exact ht Hb H0 H σ v _ s r fun σ' H0' s' => hb Hb σ' H _ ⟨_, s'⟩ gd
  | ex ht hb => exact ht Hb H0 H σ v _ s r fun σ' H0' s' => hb Hb σ' H _ ⟨_, s'⟩ gd
/-- a loop over a list that stands in the ground -/
theorem for_ground {g : TG} {tb : TS} {a : Addr} {xs : List V} {Hb Hg H : Hp} {σ : St} {D : Ends} (sg : SOk K Hb Hg H σ env) (ha : Hg a = some (.lst xs)) (r : RpAll K Hg xs ds) (f : Fr K g tb ds env out) (gd : Good K Hb D out) :
    ∃ W : Nat → Nat → St → Hp → Prop, (∃ m, W 0 m σ H) ∧ ∀ i m σ H, W i m σ H →
      ((Itl K a).stop i H ∧ D.nx σ H) ∨ ((Itl K a).go i H ∧ ∃ N : St → Hp → Prop, (∀ σ' H', N σ' H' → ∃ m', m' < m ∧ W (i + 1) m' σ' H') ∧ ∀ x H', (Itl K a).yld i H x H' → g x σ H' fun σ2 H2 => tb { D with nx := N, ct := N, bk := D.nx } σ2 H2) := by
  have gg : Good K Hg D out := gd.base sg.base
  refine for_list (xs := xs) (fun i σ' H' => ∃ e, StD K Hg H' σ' e ∧ Fr K g tb (ds.drop i) e out) ⟨env, ⟨Hg, Ex.refl _, sg.up, sg.len, sg.at_⟩, by rw [List.drop_zero]; exact f⟩ ?_ ?_ ?_
  · rintro i σ' H' _ ⟨e, s, _⟩
    exact .inl (.inl (s.bot _ _ ha))
  · rintro i v σ' H' hi ⟨e, s, fr⟩
    obtain ⟨d, hd, rd⟩ := r.getV hi
    have hlt := (List.getElem?_eq_some_iff.mp hd).1
    have ed : ds.drop i = d :: ds.drop (i + 1) := by
      rw [List.drop_eq_getElem_cons hlt]
      congr 1
      exact (List.getElem?_eq_some_iff.mp hd).2
    rw [ed] at fr
    obtain ⟨H0, s0⟩ := s
    exact fr.step (Pv := fun l σ2 H2 => ∃ e, StD K Hg H2 σ2 e ∧ Fr K g tb (ds.drop (i + 1)) e out) gg s0 (rd.mono s0.base) fun e2 f2 σ2 H2 s2 => ⟨e2, s2, f2⟩
  · rintro σ' H' ⟨e, s, fr⟩
    rw [r.length, List.drop_length] at fr
    cases fr
    exact gg σ' H' s
/-- for .. in a name's list -/
theorem rx_forV {g : TG} {tb : TS} {i : Nat} (h : env[i]? = some (.dat (.list ds))) (f : Fr K g tb ds env out) : RunX K (tFor (iList K (tVar i)) g tb) env out := fun Hb σ H D s gd => by
  obtain ⟨H0, s0⟩ := s
  obtain ⟨x, hx, r⟩ := s0.at_ i _ h
  have hv : σ[i]? = some (some x) := by
    cases k : σ[i]? with
    | none => rw [k] at hx; cases hx
    | some o => rw [k] at hx; exact congrArg some hx
  obtain ⟨a, xs, rfl, ha, ra⟩ := r.lst_inv
  exact ⟨.ref a, hv, a, rfl, ⟨xs, .inl (.inl (s0.up _ _ ha))⟩, for_ground s0 ha ra f gd⟩
/-- .. in a list that is reckoned, the frame without lists of its own -/
theorem rx_forE {g : TG} {tb : TS} (h : EvX K te env (.list ds)) (k : noOwn env = true) (f : Fr K g tb ds env out) : RunX K (tFor (iList K te) g tb) env out := fun Hb σ H D s gd =>
  h Hb σ H s H (Ex.refl H) _ fun v H1 e r => by
    have s1 := (s.grow e).widen
    obtain ⟨a, xs, rfl, ha, ra⟩ := (rp_ground s1 r (by rw [k, Bool.true_or])).lst_inv
    exact ⟨a, rfl, ⟨xs, .inl (.inl (s1.up _ _ ha))⟩, for_ground s1 ha ra f gd⟩
/-- .. in a new list, whatever the frame holds -/
theorem rx_forF {g : TG} {tb : TS} (h : EvFX K te env ds) (k : lfreeAll ds = true) (f : Fr K g tb ds env out) : RunX K (tFor (iList K te) g tb) env out := fun Hb σ H D s gd =>
  h Hb σ H s H (Ex.refl H) _ fun p xs Hm H1 hp e1 e2 hm h1 r => by
    have sm := (s.grow e1).widen
    have r' := rpAll_ground sm r (by rw [k, Bool.or_true])
    have np : ¬ ownAt σ env p := fun q => by
      obtain ⟨_, ys, hy⟩ := sm.own_none q
      rw [hm] at hy
      cases hy
    have eg : Ex (cutH Hm (ownAt σ env)) (upd (cutH Hm (ownAt σ env)) p (.lst xs)) := Ex.new (by rw [cutH_out np]; exact hm)
    have s1 : SOk K Hb (upd (cutH Hm (ownAt σ env)) p (.lst xs)) H1 σ env := by
      refine ⟨sm.base.trans eg, fun b o hb => ?_, sm.len, fun j sl hj => ?_⟩
      · by_cases hbp : b = p
        · subst hbp
          rw [upd_same] at hb
          cases hb
          exact h1
        · rw [upd_ne hbp] at hb
          exact e2 _ _ (cutH_ex _ _ hb)
      · refine (sm.at_ j sl hj).mono eg e2 fun l ys a b c => ?_
        have : l ≠ p := fun q => by
          subst q
          rw [hm] at b
          cases b
        rw [upd_ne this]
        exact a
    exact ⟨p, rfl, ⟨xs, .inl (.inl h1)⟩, for_ground s1 upd_same (r'.mono eg) f gd⟩
/-- .. in a tuple that is a name's -/
theorem rx_forT {g : TG} {tb : TS} (h : EvX K te env (.tuple ds)) (k : (noOwn env || lfree (.tuple ds)) = true) (f : Fr K g tb ds env out) : RunX K (tFor (iTup K te) g tb) env out := fun Hb σ H D s gd =>
  h Hb σ H s H (Ex.refl H) _ fun v H1 e r => by
    have sg := (s.grow e).widen
    obtain ⟨a, xs, rfl, ha, ra⟩ := (rp_ground sg r k).tup_inv
    have gg : Good K (cutH H1 (ownAt σ env)) D out := gd.base sg.base
    refine ⟨a, rfl, ⟨xs, .inl (.inl (sg.up _ _ ha))⟩, for_tup (xs := xs) (fun i σ' H' => ∃ e, StD K (cutH H1 (ownAt σ env)) H' σ' e ∧ Fr K g tb (ds.drop i) e out) ⟨env, ⟨_, Ex.refl _, sg.up, sg.len, sg.at_⟩, by rw [List.drop_zero]; exact f⟩ ?_ ?_ ?_⟩
    · rintro i σ' H' _ ⟨e, s, _⟩
      exact .inl (.inl (s.bot _ _ ha))
    · rintro i v σ' H' hi ⟨e, s, fr⟩
      obtain ⟨d, hd, rd⟩ := ra.getV hi
      have hlt := (List.getElem?_eq_some_iff.mp hd).1
      have ed : ds.drop i = d :: ds.drop (i + 1) := by
        rw [List.drop_eq_getElem_cons hlt]
        congr 1
        exact (List.getElem?_eq_some_iff.mp hd).2
      rw [ed] at fr
      obtain ⟨H0, s0⟩ := s
      exact fr.step (Pv := fun l σ2 H2 => ∃ e, StD K (cutH H1 (ownAt σ env)) H2 σ2 e ∧ Fr K g tb (ds.drop (i + 1)) e out) gg s0 (rd.mono s0.base) fun e2 f2 σ2 H2 s2 => ⟨e2, s2, f2⟩
    · rintro σ' H' ⟨e, s, fr⟩
      rw [ra.length, List.drop_length] at fr
      cases fr
      exact gg σ' H' s
/-- the ints of a range -/
def rgD (lo : Int) (n : Nat) : List PyData := (List.range n).map fun i => .int (lo + (i : Nat))
theorem rgD_len (lo : Int) (n : Nat) : (rgD lo n).length = n := by unfold rgD; rw [List.length_map, List.length_range]
theorem rgD_at {lo : Int} {n i : Nat} (h : i < n) : (rgD lo n)[i]? = some (.int (lo + i)) := by
  unfold rgD
  rw [List.getElem?_map, List.getElem?_range h]
  rfl
theorem for_rg {g : TG} {tb : TS} {lo : Int} {n : Nat} {Hb H : Hp} {σ : St} {D : Ends} (s : StD K Hb H σ env) (f : Fr K g tb (rgD lo n) env out) (gd : Good K Hb D out) :
    ∃ W : Nat → Nat → St → Hp → Prop, (∃ m, W 0 m σ H) ∧ ∀ i m σ H, W i m σ H →
      ((Itr lo n).stop i H ∧ D.nx σ H) ∨ ((Itr lo n).go i H ∧ ∃ N : St → Hp → Prop, (∀ σ' H', N σ' H' → ∃ m', m' < m ∧ W (i + 1) m' σ' H') ∧ ∀ x H', (Itr lo n).yld i H x H' → g x σ H' fun σ2 H2 => tb { D with nx := N, ct := N, bk := D.nx } σ2 H2) := by
  refine for_range (lo := lo) (n := n) (fun i σ' H' => ∃ e, StD K Hb H' σ' e ∧ Fr K g tb ((rgD lo n).drop i) e out) ⟨env, s, by rw [List.drop_zero]; exact f⟩ ?_ ?_
  · rintro i σ' H' hi ⟨e, s, fr⟩
    have hlt : i < (rgD lo n).length := by rw [rgD_len]; exact hi
    have ed : (rgD lo n).drop i = .int (lo + i) :: (rgD lo n).drop (i + 1) := by
      rw [List.drop_eq_getElem_cons hlt]
      congr 1
      exact (List.getElem?_eq_some_iff.mp (rgD_at hi)).2
    rw [ed] at fr
    obtain ⟨H0, s0⟩ := s
    exact fr.step (Pv := fun l σ2 H2 => ∃ e, StD K Hb H2 σ2 e ∧ Fr K g tb ((rgD lo n).drop (i + 1)) e out) gd s0 (.int _) fun e2 f2 σ2 H2 s2 => ⟨e2, s2, f2⟩
  · rintro σ' H' ⟨e, s, fr⟩
    rw [show (rgD lo n).drop n = [] by
      conv => lhs; arg 1; rw [← rgD_len lo n]
      exact List.drop_length] at fr
    cases fr
    exact gd σ' H' s
theorem rx_forR1 {g : TG} {tb : TS} {ta : TA} {n : Int} (h : EvAX K ta env [.int n]) (hn : -100000 ≤ n ∧ n ≤ 100000) (f : Fr K g tb (rgD 0 n.toNat) env out) : RunX K (tFor (iRng1 ta) g tb) env out := fun Hb σ H D s gd =>
  h Hb σ H s H (Ex.refl H) _ fun vs H1 e r => by
    obtain ⟨v, rfl, rv⟩ := r.one
    rw [rv.int_inv]
    exact ⟨n, rfl, by omega, by omega, for_rg (s.grow e) f gd⟩
theorem rx_forR2 {g : TG} {tb : TS} {ta : TA} {lo n : Int} (h : EvAX K ta env [.int lo, .int n]) (hn : -100000 ≤ lo ∧ lo ≤ 100000 ∧ -100000 ≤ n ∧ n ≤ 100000) (f : Fr K g tb (rgD lo (n - lo).toNat) env out) : RunX K (tFor (iRng2 ta) g tb) env out := fun Hb σ H D s gd =>
  h Hb σ H s H (Ex.refl H) _ fun vs H1 e r => by
    obtain ⟨v, w, rfl, rv, rw⟩ := r.pair
    rw [rv.int_inv, rw.int_inv]
    exact ⟨lo, n, rfl, ⟨by omega, by omega, by omega, by omega⟩, for_rg (s.grow e) f gd⟩
end

/-! ### comprehensions -/
def wipeE (env : SE) : List Nat → SE
  | [] => env
  | v :: vs => (wipeE env vs).set v .no
section
variable {K : PySem.W.Frag} {env : SE} {te tl : TE} {tt : TT} {ds es : List PyData}
theorem SOk.wipe {Hb H0 H : Hp} {σ : St} (s : SOk K Hb H0 H σ env) : ∀ vs : List Nat, SOk K Hb H0 H (wipe σ vs) (wipeE env vs)
  | [] => s
  | v :: vs => by
    have k := SOk.wipe s vs
    exact k.forget
theorem wipe_get_in {σ : St} {i : Nat} : ∀ {vs : List Nat}, i ∈ vs → (L2.wipe σ vs)[i]? = (if i < σ.length then some none else none)
  | [], h => by simp at h
  | v :: vs, h => by
    unfold L2.wipe
    by_cases e : v = i
    · subst e
      by_cases hl : v < σ.length
      · rw [List.getElem?_set_self (by rw [wipe_length]; exact hl), if_pos hl]
      · rw [List.getElem?_eq_none (by rw [List.length_set, wipe_length]; omega), if_neg hl]
    · rw [List.getElem?_set_ne e]
      exact wipe_get_in ((List.mem_cons.mp h).resolve_left (Ne.symm e))
theorem wipe_get_out {σ : St} {i : Nat} : ∀ {vs : List Nat}, i ∉ vs → (L2.wipe σ vs)[i]? = σ[i]?
  | [], _ => rfl
  | v :: vs, h => by
    unfold L2.wipe
    rw [List.getElem?_set_ne (fun e => h (by rw [e]; simp))]
    exact wipe_get_out fun k => h (List.mem_cons_of_mem _ k)
/-- two frames that differ in the wiped slots alone are one behind the wiping -/
theorem wipe_eq {σ τ : St} {vs : List Nat} (hl : τ.length = σ.length) (h : ∀ i, i ∉ vs → τ[i]? = (L2.wipe σ vs)[i]?) : L2.wipe τ vs = L2.wipe σ vs := by
  apply List.ext_getElem?
  intro i
  by_cases hi : i ∈ vs
  · rw [wipe_get_in hi, wipe_get_in hi, hl]
  · rw [wipe_get_out hi, h i hi]
theorem wipe_set1 {σ : St} {vs : List Nat} {j : Nat} {x : Option V} (hj : j ∈ vs) : L2.wipe ((L2.wipe σ vs).set j x) vs = L2.wipe σ vs := by
  refine wipe_eq (by rw [List.length_set, wipe_length]) fun i hi => ?_
  rw [List.getElem?_set_ne]
  intro e
  exact hi (e ▸ hj)
/-- a comprehension's target: what is stored, and that nothing but the block's own names is -/
def CgX (K : PySem.W.Frag) (g : TG) (vs : List Nat) (env : SE) (d : PyData) (env' : SE) : Prop := ∀ Hb H0 H σ v (Q : St → Hp → Prop), SOk K Hb H0 H (L2.wipe σ vs) env → Rp K H0 v d → (∀ σ', SOk K Hb H0 H σ' env' → L2.wipe σ' vs = L2.wipe σ vs → Q σ' H) → g v (L2.wipe σ vs) H Q
theorem cg_name {i : Nat} {vs : List Nat} {d : PyData} {e' : SE} (hi : i ∈ vs) (e : env.set i (.dat d) = e') : CgX K (gName i) vs env d e' := fun Hb H0 H σ v Q s r q => q _ (e ▸ s.set ⟨v, rfl, r⟩) (wipe_set1 hi)
theorem cg_pair {i j : Nat} {vs : List Nat} {d1 d2 : PyData} {e' : SE} (hi : i ∈ vs) (hj : j ∈ vs) (e : (env.set i (.dat d1)).set j (.dat d2) = e') : CgX K (gTup K 2 (gCons (gName i) (gCons (gName j) gNil))) vs env (.tuple [d1, d2]) e' := fun Hb H0 H σ v Q s r q => by
  obtain ⟨a, xs, rfl, h1, h2⟩ := r.tup_inv
  obtain ⟨v, w, rfl, r1, r2⟩ := h2.pair
  refine ⟨a, [v, w], rfl, .inl (.inl (s.up _ _ h1)), rfl, v, [w], rfl, w, [], rfl, rfl, q _ (e ▸ (s.set (s := .dat d1) ⟨v, rfl, r1⟩).set (s := .dat d2) ⟨w, rfl, r2⟩) ?_⟩
  refine wipe_eq (by rw [List.length_set, List.length_set, wipe_length]) fun k hk => ?_
  rw [List.getElem?_set_ne (fun e => by subst e; exact hk hj), List.getElem?_set_ne (fun e => by subst e; exact hk hi)]
/-- what a turn does with the list so far -/
structure CwD (K : PySem.W.Frag) (Hb Hg : Hp) (σ : St) (env : SE) (Dl : Addr) (acc : List PyData) (H : Hp) : Prop where
  frame : StD K Hg H σ env
  new : Hg Dl = none
  at_ : ∃ xs, H Dl = some (.lst xs) ∧ RpAll K H xs acc
theorem rpAll_upd {H : Hp} {l : Addr} {xs : List V} {vs : List V} {o : HO} (h : H l = some (.lst xs)) (r : RpAll K H vs ds) (f : lfreeAll ds = true) : RpAll K (upd H l o) vs ds := by
  refine r.cut (fun a ys ha => ?_) f
  rw [upd_ne]
  · exact ha
  · intro e
    subst e
    rw [h] at ha
    cases ha
theorem rp_upd {H : Hp} {l : Addr} {xs : List V} {v : V} {d : PyData} {o : HO} (h : H l = some (.lst xs)) (r : Rp K H v d) (f : lfree d = true) : Rp K (upd H l o) v d := by
  refine r.cut (fun a ys ha => ?_) f
  rw [upd_ne]
  · exact ha
  · intro e
    subst e
    rw [h] at ha
    cases ha
/-- the frame stands when a list beside it grows: the ground holds nothing of it -/
theorem StD.beside {Hb H : Hp} {σ : St} {l : Addr} {o : HO} (s : StD K Hb H σ env) (no : noOwn env = true) (hb : ∀ H0, SOk K Hb H0 H σ env → ∃ H0', SOk K Hb H0' H σ env ∧ H0' l = none) : StD K Hb (upd H l o) σ env := by
  obtain ⟨H0, s0⟩ := s
  obtain ⟨H0', s', hn⟩ := hb H0 s0
  refine ⟨H0', s'.base, Ex.mut s'.up hn, s'.len, fun j sl hj => ?_⟩
  have k := s'.at_ j sl hj
  cases sl with
  | no => trivial
  | dat d => exact k
  | own ds =>
    exfalso
    unfold noOwn at no
    rw [List.all_eq_true] at no
    have := no _ (List.mem_of_getElem? hj)
    simp [Sl.isOwn] at this
/-- one turn of a comprehension: the frame in the block, the tests, the element -/
theorem lc_turn {α : Type} {g : TG} {vs : List Nat} {Hb Hg H : Hp} {σ : St} {Dl : Addr} {v : V} {items : List α} {inj : α → PyData} {f : α → Bool} {h : α → PyData} {a : α} {envb : SE} {i : Nat} {acc : List PyData}
    (sg : SOk K Hb Hg Hg' σ env) (hEx : Ex Hg H) (hDl : Hg Dl = none) (hH : ∃ xs, H Dl = some (.lst xs) ∧ RpAll K H xs acc) (hacc : lfreeAll acc = true) (hz : acc.length < 100000) (noO : noOwn env = true)
    (rv : Rp K Hg v (inj a)) (hg : CgX K g vs (wipeE env vs) (inj a) envb) (ht : EvTX K tt envb (f a)) (he : f a = true → EvX K te envb (h a)) (hl : f a = true → lfree (h a) = true) (Nx : List PyData → Hp → Prop)
    (k : ∀ H2, Ex Hg H2 → (∃ xs, H2 Dl = some (.lst xs) ∧ RpAll K H2 xs (acc ++ if f a = true then [h a] else [])) → Nx (acc ++ if f a = true then [h a] else []) H2) :
    g v (L2.wipe σ vs) H fun σ2 H2 => L2.wipe σ2 vs = L2.wipe σ vs ∧ tt σ2 H2 fun b H3 => if b = true then te σ2 H3 fun y H4 => ∃ acc', H4 Dl = some (.lst acc') ∧ acc'.length < sizeLine ∧ Nx (acc ++ if f a = true then [h a] else []) (upd H4 Dl (.lst (acc' ++ [y]))) else Nx (acc ++ if f a = true then [h a] else []) H3 := by
  have s1 : SOk K Hb Hg H σ env := ⟨sg.base, hEx, sg.len, fun j sl hj => by
    have q := sg.at_ j sl hj
    cases sl with
    | no => trivial
    | dat d => exact q
    | own ds =>
      exfalso
      unfold noOwn at noO
      rw [List.all_eq_true] at noO
      have := noO _ (List.mem_of_getElem? hj)
      simp [Sl.isOwn] at this⟩
  refine hg Hb Hg H σ v _ (s1.wipe vs) rv fun σ' s' hw => ⟨hw, ?_⟩
  refine ht Hb σ' H ⟨Hg, s'⟩ H (Ex.refl H) _ fun H3 e3 => ?_
  obtain ⟨xs, hx, rx⟩ := hH
  cases hf : f a with
  | true =>
    rw [hf] at k
    show te σ' H3 fun y H4 => ∃ acc', H4 Dl = some (.lst acc') ∧ acc'.length < sizeLine ∧ Nx (acc ++ if true = true then [h a] else []) (upd H4 Dl (.lst (acc' ++ [y])))
    refine he hf Hb σ' H ⟨Hg, s'⟩ H3 e3 _ fun y H4 e4 ry => ?_
    have hx4 : H4 Dl = some (.lst xs) := e4 _ _ (e3 _ _ hx)
    refine ⟨xs, hx4, sz_lt (by rw [rx.length]; exact hz), k _ (Ex.mut ((hEx.trans e3).trans e4) hDl) ⟨_, upd_same, ?_⟩⟩
    refine RpAll.append (rpAll_upd hx4 (rx.mono (e3.trans e4)) hacc) (.cons (rp_upd hx4 ry (hl hf)) .nil)
  | false =>
    rw [hf] at k
    show Nx (acc ++ if false = true then [h a] else []) H3
    refine k H3 (hEx.trans e3) ⟨xs, e3 _ _ hx, ?_⟩
    show RpAll K H3 xs (acc ++ [])
    rw [List.append_nil]
    exact rx.mono e3
def lcRes {α : Type} (f : α → Bool) (h : α → PyData) (l : List α) : List PyData := (l.filter f).map h
theorem lcRes_snoc {α : Type} (f : α → Bool) (h : α → PyData) (l : List α) (a : α) : lcRes f h (l ++ [a]) = lcRes f h l ++ if f a = true then [h a] else [] := by
  unfold lcRes
  rw [List.filter_append, List.map_append]
  congr 1
  cases k : f a with
  | true => rw [List.filter_cons_of_pos k]; rfl
  | false => rw [List.filter_cons_of_neg (by rw [k]; decide)]; rfl
theorem lfree_lcRes {α : Type} {f : α → Bool} {h : α → PyData} : ∀ {l : List α}, (∀ a ∈ l, f a = true → lfree (h a) = true) → lfreeAll (lcRes f h l) = true
  | [], _ => rfl
  | a :: l, k => by
    have ih := lfree_lcRes (f := f) (h := h) (l := l) fun b hb => k b (List.mem_cons_of_mem _ hb)
    unfold lcRes at ih ⊢
    by_cases hf : f a = true
    · rw [List.filter_cons_of_pos hf, List.map_cons]
      show (lfree (h a) && lfreeAll _) = true
      rw [k a (by simp) hf, Bool.true_and]
      exact ih
    · rw [List.filter_cons_of_neg hf]
      exact ih
theorem lcRes_len {α : Type} (f : α → Bool) (h : α → PyData) (l : List α) : (lcRes f h l).length ≤ l.length := by
  unfold lcRes
  rw [List.length_map]
  exact List.length_filter_le _ _
theorem take_snoc {α : Type} {l : List α} {i : Nat} {a : α} (h : l[i]? = some a) : l.take (i + 1) = l.take i ++ [a] := by
  rw [List.take_add_one, h]
  rfl
/-- [elt for target in list if ..] -/
theorem xf_lc {α : Type} {g : TG} {vs : List Nat} (items : List α) (inj : α → PyData) (f : α → Bool) (h : α → PyData) (envb : α → SE) (hl : EvX K tl env (.list (items.map inj))) (no : noOwn env = true) (hz : items.length < 100000)
    (hg : ∀ a ∈ items, CgX K g vs (wipeE env vs) (inj a) (envb a)) (ht : ∀ a ∈ items, EvTX K tt (envb a) (f a)) (he : ∀ a ∈ items, f a = true → EvX K te (envb a) (h a)) (hf : ∀ a ∈ items, f a = true → lfree (h a) = true) :
    EvFX K (tLc (iList K tl) g tt te vs) env (lcRes f h items) := fun Hb σ H s H1 e1 Q q =>
  hl Hb σ H s H1 e1 _ fun v H2 e2 r => by
    have sg := ((s.grow e1).grow e2).widen
    obtain ⟨a, xs, rfl, ha, ra⟩ := (rp_ground sg r (by rw [no, Bool.true_or])).lst_inv
    have eg : Ex (cutH H2 (ownAt σ env)) H2 := cutH_ex
    have ge : cutH H2 (ownAt σ env) = H2 := by
      funext b
      exact cutH_out (noOwn_not no)
    rw [ge] at sg ha ra
    refine ⟨a, rfl, ⟨xs, .inl (.inl ha)⟩, fun Dl hD => ?_⟩
    refine lc_list (xs := xs) (fun i H' => Ex H2 H' ∧ ∃ ys, H' Dl = some (.lst ys) ∧ RpAll K H' ys (lcRes f h (items.take i))) ⟨Ex.new hD, [], upd_same, .nil⟩ ?_ ?_ ?_
    · rintro i H' _ ⟨e, _⟩
      exact .inl (.inl (e _ _ ha))
    · rintro i x H' hi ⟨e, hacc⟩
      obtain ⟨d, hd, rd⟩ := ra.getV hi
      rw [List.getElem?_map] at hd
      cases ka : items[i]? with
      | none => rw [ka] at hd; cases hd
      | some b =>
        rw [ka] at hd
        cases hd
        have hb : b ∈ items := List.mem_of_getElem? ka
        have es : lcRes f h (items.take (i + 1)) = lcRes f h (items.take i) ++ if f b = true then [h b] else [] := by rw [take_snoc ka, lcRes_snoc]
        rw [es]
        refine lc_turn (items := items) (i := i) sg e hD hacc (lfree_lcRes fun c hc => hf c (List.mem_of_mem_take hc)) ?_ no rd (hg b hb) (ht b hb) (he b hb) (hf b hb) (fun acc H' => Ex H2 H' ∧ ∃ ys, H' Dl = some (.lst ys) ∧ RpAll K H' ys acc) fun H3 e3 h3 => ⟨e3, h3⟩
        refine Nat.lt_of_le_of_lt (Nat.le_trans (lcRes_len f h _) ?_) hz
        rw [List.length_take]
        omega
    · rintro H' ⟨e, ys, hy, ry⟩
      have hx := ra.length
      rw [List.length_map] at hx
      rw [hx, List.take_length] at ry
      refine q Dl ys (cutH H' fun b => b = Dl) H' (fresh_back e2 hD) ?_ cutH_ex (cutH_in rfl) hy ?_
      · intro b o hb
        rw [cutH_out]
        · exact e _ _ (e2 _ _ hb)
        · intro k
          subst k
          rw [e2 _ _ hb] at hD
          cases hD
      · refine ry.cut (fun b zs hb => ?_) (lfree_lcRes hf)
        rw [cutH_out]
        · exact hb
        · intro k
          subst k
          rw [hy] at hb
          cases hb
/-- .. over a range from nought -/
theorem xf_lcR {ta : TA} {g : TG} {vs : List Nat} (n : Nat) (f : Nat → Bool) (h : Nat → PyData) (envb : Nat → SE) (hl : EvAX K ta env [.int (n : Nat)]) (no : noOwn env = true) (hz : n < 100000)
    (hg : ∀ i, i < n → CgX K g vs (wipeE env vs) (.int (i : Nat)) (envb i)) (ht : ∀ i, i < n → EvTX K tt (envb i) (f i)) (he : ∀ i, i < n → f i = true → EvX K te (envb i) (h i)) (hf : ∀ i, i < n → f i = true → lfree (h i) = true) :
    EvFX K (tLc (iRng1 ta) g tt te vs) env (lcRes f h (List.range n)) := fun Hb σ H s H1 e1 Q q =>
  hl Hb σ H s H1 e1 _ fun vs' H2 e2 r => by
    have sg := ((s.grow e1).grow e2).widen
    have ge : cutH H2 (ownAt σ env) = H2 := by
      funext b
      exact cutH_out (noOwn_not no)
    rw [ge] at sg
    obtain ⟨v, rfl, rv⟩ := r.one
    rw [rv.int_inv]
    refine ⟨n, rfl, by omega, by omega, fun Dl hD => ?_⟩
    refine lc_range (lo := 0) (n := n) (fun i H' => Ex H2 H' ∧ ∃ ys, H' Dl = some (.lst ys) ∧ RpAll K H' ys (lcRes f h ((List.range n).take i))) ⟨Ex.new hD, [], upd_same, .nil⟩ ?_ ?_
    · rintro i H' hi ⟨e, hacc⟩
      have ka : (List.range n)[i]? = some i := List.getElem?_range hi
      have es : lcRes f h ((List.range n).take (i + 1)) = lcRes f h ((List.range n).take i) ++ if f i = true then [h i] else [] := by rw [take_snoc ka, lcRes_snoc]
      rw [es, Int.zero_add]
      refine lc_turn (items := List.range n) (inj := fun i => .int (i : Nat)) (i := i) sg e hD hacc (lfree_lcRes fun c hc => hf c (List.mem_range.mp (List.mem_of_mem_take hc))) ?_ no (.int _) (hg i hi) (ht i hi) (he i hi) (hf i hi) (fun acc H' => Ex H2 H' ∧ ∃ ys, H' Dl = some (.lst ys) ∧ RpAll K H' ys acc) fun H3 e3 h3 => ⟨e3, h3⟩
      refine Nat.lt_of_le_of_lt (lcRes_len f h _) ?_
      rw [List.length_take, List.length_range]
      omega
    · rintro H' ⟨e, ys, hy, ry⟩
      rw [show (List.range n).take n = List.range n by
        conv => lhs; arg 1; rw [← List.length_range (n := n)]
        exact List.take_length] at ry
      refine q Dl ys (cutH H' fun b => b = Dl) H' (fresh_back e2 hD) ?_ cutH_ex (cutH_in rfl) hy ?_
      · intro b o hb
        rw [cutH_out]
        · exact e _ _ (e2 _ _ hb)
        · intro k
          subst k
          rw [e2 _ _ hb] at hD
          cases hD
      · refine ry.cut (fun b zs hb => ?_) (lfree_lcRes fun i hi => hf i (List.mem_range.mp hi))
        rw [cutH_out]
        · exact hb
        · intro k
          subst k
          rw [hy] at hb
          cases hb
end
end LD
/-! list(reversed(a list)). -/
namespace LRv
open PySem PySem.Spec PyProof.Rows RT
section
variable {prog : Program} {w : World} {A : Around} {E : Value → Shared → Prop} {s : Shared}
/-- the loop that fills the list at S from the iterator -/
theorem ext_rev {R : Result → Shared → Prop} {it l : Addr} {items : Array Value} (hh : A.handled = none) (hit : s.heap.IsRevIter it l ((items.size : Int) - 1)) (hl : s.heap.IsList l items) (hne : l ≠ it) (hn : items.size ≤ sizeLine) (S : Addr)
    (hSi : S ≠ it) (hSl : S ≠ l) (res : Value) (c0 : Nat) (hS : s.heap.get? S = some { cls := .type "list", data := .seq #[] c0 })
    (hR : ∀ (h' : Heap) (tk : Nat) (acc : Array Value) (c : Nat), (∀ b o, b ≠ S → b ≠ it → s.heap.get? b = some o → h'.get? b = some o) → h'.get? S = some { cls := .type "list", dict := none, data := .seq acc c, slots := #[] } →
      ItemsOf (fun i v => items[items.size - 1 - i]? = some v) acc items.size → R (.ok (.ret res)) { s with heap := h', toks := tk }) :
    wpAny (model prog w) A.in1 (Builtin.List.listExtendWith (.ref S) (.ref it) res)
      (fun fin s' => match fin with | .done f => R (.ok f) s' | .again c' => c'.quiet = true ∧ codeAny (model prog w) A c' R s') (fun e s' => R (.error e) s') s := by
  have W := (Walks.listRev (prog := prog) (w := w) (A := A.in1) hh it l hne items).toS
  have nin : S ∉ [it, l] := by simp only [List.mem_cons, List.not_mem_nil, or_false, not_or]; exact ⟨hSi, hSl⟩
  have ty : s.TypeIs (.ref it) "list_reverseiterator" := hit.typeIs
  have other : Builtin.List.listSameRef (.ref S) (.ref it) = false := by simp [Builtin.List.listSameRef, hSi]
  unfold Builtin.List.listExtendWith
  refine wpAny_bind (wpAny_typeOf ty ?_)
  rw [if_neg (by rw [other]; decide)]
  refine wpAny_bind (wpAny_pyIter_revIter hit ?_)
  refine wpAny_bind (wpAny_holding ?_)
  unfold Builtin.List.listLengthHint
  refine wpAny_bind (wpAny_specialOf ty nolen_lri ?_)
  show wpAny _ A.in1 (specialOf (Value.ref it) (Str.ofString "__length_hint__") >>= _) _ _ _
  refine wpAny_bind (wpAny_specialOf ty hint_lri ?_)
  generalize hid : ("list_reverseiterator.__length_hint__" : String) = id0
  wp_delta
  rw [show splitId id0 = some ("list_reverseiterator", "__length_hint__") from by subst hid; decide +kernel]
  subst hid
  refine wpAny_bind (wpAny_isInstance (b := true) ty (by rw [isSubtype_type]; kernel_rfl) ?_)
  refine wpAny_pure ?_
  rw [if_neg (by decide)]
  have e0 : ((items.size : Nat) : Int) - 1 - ((0 : Nat) : Int) = (items.size : Int) - 1 := by omega
  refine wpAny_pure ⟨plainId_quiet F.plain_extend_loop _, codeAny_extend_loopS W hn S nin res items.size 0 _ #[] c0 rfl (Nat.zero_le _) ⟨Nat.zero_le _, by rw [e0]; exact hit, hl⟩ hS (ItemsOf.nil _) fun s' acc c hm hS' hacc => ?_⟩
  rw [Moved.eq_with hm]
  refine hR s'.heap s'.toks acc c (fun b o hb hb2 e => hm.heap b o (fun z => ?_) e) hS' hacc
  rcases List.mem_cons.mp z with q | q
  · exact hb q
  · exact hb2 (List.mem_singleton.mp q)
theorem call_list_rev {it l : Addr} {items : Array Value} {Q : Value → Shared → Prop} (hh : A.handled = none) (hit : s.heap.IsRevIter it l ((items.size : Int) - 1)) (hl : s.heap.IsList l items) (hne : l ≠ it) (hn : items.size ≤ sizeLine)
    (hQ : ∀ (h' : Heap) (tk : Nat) (acc : Array Value) (c : Nat), (∀ b o, b ≠ it → s.heap.get? b = some o → h'.get? b = some o) → h'.get? s.heap.objs.size = some { cls := .type "list", dict := none, data := .seq acc c, slots := #[] } →
      ItemsOf (fun i v => items[items.size - 1 - i]? = some v) acc items.size → Q (.ref s.heap.objs.size) { s with heap := h', toks := tk }) :
    wpAny (model prog w) A (call (.type "list") [.ref it]) Q E s := by
  obtain ⟨oi, hoi, _⟩ := id hit
  obtain ⟨ol, hol, _⟩ := id hl
  refine callType_codes (Q₁ := fun obj t => obj = .ref s.heap.objs.size ∧ t = { s with heap := s.heap.push { cls := .type "list", data := .seq #[] } }) PySem.F.called_list (PySem.F.typeCall_list_1 _) PySem.F.entry_list_init (code_list_new _ ⟨rfl, rfl⟩) fun obj t h => ?_
  obtain ⟨rfl, rfl⟩ := h
  have hS : (s.heap.push { cls := .type "list", data := .seq #[] }).get? s.heap.objs.size = some { cls := .type "list", data := .seq #[] } := Heap.get?_push_size _ rfl
  have nSi : s.heap.objs.size ≠ it := Nat.ne_of_gt (Heap.lt_size hoi)
  have nSl : s.heap.objs.size ≠ l := Nat.ne_of_gt (Heap.lt_size hol)
  refine ⟨⟨_, hS, rfl⟩, PySem.F.args_list_init_2 _ _, ?_⟩
  show wpAny _ _ (do let old ← Builtin.List.listItems (.ref s.heap.objs.size); Builtin.List.listUpdate (.ref s.heap.objs.size) (fun _ => #[]); letGo old.toList.reverse; Builtin.List.listExtendWith (.ref s.heap.objs.size) (.ref it) .none) _ _ _
  refine wpAny_bind ?_
  unfold Builtin.List.listItems
  refine wpAny_bind (wpAny_seqItems hS rfl (wpAny_pure ?_))
  refine wpAny_bind ?_
  show wpAny _ _ (updateSeq s.heap.objs.size (fun _ => #[])) _ _ _
  refine wpAny_updateSeq hS rfl ?_
  have hS2 := Heap.get?_update_self (Obj.mapSeq (fun _ => (#[] : Array Value))) hS rfl
  have oth : ∀ b o, s.heap.get? b = some o → ((s.heap.push { cls := .type "list", data := .seq #[] }).update s.heap.objs.size (Obj.mapSeq (fun _ => (#[] : Array Value)))).get? b = some o := fun b o e =>
    (Heap.get?_update_other _ _ (Nat.ne_of_gt (Heap.lt_size e))).trans (Heap.get?_push_of_some _ e)
  refine wpAny_bind (wpAny_letGo ?_)
  refine ext_rev (A := A.in1) hh (hit.at fun o e => oth it o e) (hl.at fun o e => oth l o e) hne hn _ nSi nSl .none _ hS2 fun h' tk acc c hk hS' hacc => ?_
  exact ⟨rfl, hQ h' tk acc c (fun b o hb e => hk b o (Nat.ne_of_lt (Heap.lt_size e)) hb (oth b o e)) hS' hacc⟩
end
end LRv
namespace LD
open PySem PySem.Spec PyProof.Rows L2 Evl
def tLstRev (K : PySem.W.Frag) (te : TE) : TE := fun σ H Q => te σ H fun x H1 => ∃ (a : Addr) (xs : List V), x = .ref a ∧ SqL K H1 a xs ∧ ∀ p, H1 p = none → Q (.ref p) (upd H1 p (.lst xs.reverse))
section
variable {X : Cx}
theorem vals_back {xs : List V} {its : List Value} {acc : Array Value} (r : Vals xs its) (h : ItemsOf (fun i v => its.toArray[its.toArray.size - 1 - i]? = some v) acc its.toArray.size) : Vals xs.reverse acc.toList := by
  have hs : acc.toList.length = its.length := by
    rw [Array.length_toList, h.1]
    exact List.size_toArray
  have e : acc.toList = its.reverse := by
    apply List.ext_getElem?
    intro j
    by_cases hj : j < its.length
    · have e1 : acc.toList[j]? = some acc.toList[j] := List.getElem?_eq_getElem (by omega)
      have e2 : its.toArray[its.toArray.size - 1 - j]? = some acc.toList[j] := h.2 j _ (by rw [← Array.getElem?_toList]; exact e1)
      rw [e1, List.getElem?_reverse hj, ← e2]
      simp
    · rw [List.getElem?_eq_none (by omega), List.getElem?_eq_none (by rw [List.length_reverse]; omega)]
  rw [e]
  exact r.reverse
theorem pe_lstRev {e : Expr} {te : TE} {p p2 pos pos2 : Pos} (hc : X.calm = true) (hg : Gl X "list") (hm : X.mg "list" = none) (hg2 : Gl X "reversed") (hm2 : X.mg "reversed" = none) (he : PE X e te)
    (hs : starEach [e] X.env = (false, eval e X.env) :: starEach [] X.env := by rfl)
    (hs2 : starEach [.Call (.Name "reversed" p2) [e] [] pos2] X.env = (false, eval (.Call (.Name "reversed" p2) [e] [] pos2) X.env) :: starEach [] X.env := by rfl) :
    PE X (.Call (.Name "list" p) [.Call (.Name "reversed" p2) [e] [] pos2] [] pos) (tLstRev X.K te) := by
  refine ⟨fun pins s σ H Q I h => ?_⟩
  refine Call_ (ld_blt I hg hm boot_list (PyProof.Rows.callWith_type1 (args_cons (Call_ (ld_blt I hg2 hm2 PyProof.Rows.boot_reversed (PyProof.Rows.callWith_type1 (args_cons (thn (he.run pins s σ H _ I h) fun u s1 g1 => args_nil ?_) hs) hs rfl))) hs2) hs2 rfl))
  obtain ⟨v, H1, I1, r1, a, xs, ev, hq, q⟩ := g1
  subst ev
  obtain rfl : u = Value.ref a := r1
  obtain ⟨its, rv, pl, hz⟩ := I1.list hq
  have hl := pl.isList
  refine call_reversed_list hl (args_nil ?_)
  have k0 : ∀ b o, s1.heap.get? b = some o → (s1.heap.push (revObj a ((its.toArray.size : Int) - 1))).get? b = some o := fun b o e => Heap.get?_push_of_some _ e
  obtain ⟨ol, hol, _⟩ := id hl
  have hne : a ≠ s1.heap.objs.size := Nat.ne_of_lt (Heap.lt_size hol)
  have hn : its.toArray.size ≤ sizeLine := by rw [List.size_toArray, ← rv.length]; exact hz
  refine LRv.call_list_rev (s := { s1 with heap := s1.heap.push (revObj a ((its.toArray.size : Int) - 1)) }) (I1.ok.hd hc) ⟨_, Heap.get?_push_size _ rfl, rfl, rfl⟩ (hl.push _) hne hn fun h' tk acc c hk hS hi => ?_
  have kp : ∀ b o, s1.heap.get? b = some o → h'.get? b = some o := fun b o e => hk b o (Nat.ne_of_lt (Heap.lt_size e)) (k0 b o e)
  have big : s1.heap.objs.size ≤ (s1.heap.push (revObj a ((its.toArray.size : Int) - 1))).objs.size := by rw [Heap.size_push]; exact Nat.le_succ _
  have new := I1.hok.fresh big
  refine ⟨.ref (s1.heap.push (revObj a ((its.toArray.size : Int) - 1))).objs.size, upd H1 _ (.lst xs.reverse), I1.laid (t' := tk) kp big ⟨by rw [List.length_reverse]; exact hz, acc.toList, c, vals_back rv hi, ?_⟩, rfl, q _ new⟩
  rw [Array.toArray_toList]
  exact hS
end
theorem xf_rev {K : PySem.W.Frag} {env : SE} {te : TE} {ds : List PyData} (h : EvX K te env (.list ds)) : EvFX K (tLstRev K te) env ds.reverse := fun Hb σ H s H1 e1 Q q =>
  h Hb σ H s H1 e1 _ fun v H2 e2 r => by
    obtain ⟨a, xs, rfl, ha, ra⟩ := r.lst_inv
    exact ⟨a, xs, rfl, .inl (.inl ha), fun p hp => q p _ H2 _ (fresh_back e2 hp) e2 (Ex.new hp) hp upd_same ra.rev⟩
end LD
/-! sorted(set(points)): a set of pairs of any ints, in order. -/
namespace LSt
open PySem PySem.Spec PyProof.Rows L2
/-- a row of the set as a pair -/
def asPair (q : Addr × List Int) : Int × Int := (q.2.getD 0 0, q.2.getD 1 0)
/-- the ints that a row at that address holds -/
def keyOf (L : List (Addr × List Int)) : Value → Int × Int
  | .ref a => match L.find? fun q => q.1 == a with
    | some q => asPair q
    | none => (0, 0)
  | _ => (0, 0)
theorem keyOf_row {L : List (Addr × List Int)} (one : ∀ q ∈ L, ∀ r ∈ L, q.1 = r.1 → q = r) {q : Addr × List Int} (hq : q ∈ L) : keyOf L (.ref q.1) = asPair q := by
  have e : keyOf L (.ref q.1) = (match L.find? fun r => r.1 == q.1 with
    | some q => asPair q
    | none => (0, 0)) := rfl
  rw [e]
  cases h : L.find? fun r => r.1 == q.1 with
  | none =>
    have := List.find?_eq_none.mp h q hq
    simp at this
  | some r =>
    have h1 := List.mem_of_find?_eq_some h
    have h2 := List.find?_some h
    have : r = q := one r h1 q hq (by simpa using h2)
    rw [this]
/-- values that are rows' addresses, told by the rows -/
theorem rows_back {L : List (Addr × List Int)} : ∀ {vs : List Value}, (∀ v ∈ vs, ∃ q ∈ L, v = Value.ref q.1) → ∃ M : List (Addr × List Int), vs = M.map (fun q => Value.ref q.1) ∧ ∀ q ∈ M, q ∈ L
  | [], _ => ⟨[], rfl, by simp⟩
  | v :: vs, h => by
    obtain ⟨q, hq, e⟩ := h v (by simp)
    obtain ⟨M, e1, h1⟩ := rows_back fun u hu => h u (List.mem_cons_of_mem _ hu)
    refine ⟨q :: M, by rw [List.map_cons, ← e1, e], fun r hr => ?_⟩
    rcases List.mem_cons.mp hr with e | hr
    · rw [e]; exact hq
    · exact h1 r hr
theorem vals_rows : ∀ (L : List (Addr × List Int)), Vals (L.map fun q => V.ref q.1) (L.map fun q => Value.ref q.1)
  | [] => .nil
  | _ :: L => .cons rfl (vals_rows L)
section
variable {P : Program} {w : World} {A : Around} {E : Value → Shared → Prop} {s : Shared}
theorem pair_of {h : Heap} {q : Addr × List Int} {x y : Int} (t : IsT P w h q.2 q.1) (e : q.2 = [x, y]) : Srt.IsPair h (.ref q.1) x y := by
  obtain ⟨o, items, n, ho, hc, hd, hi⟩ := t
  rw [e] at hi
  have k := ints_of_items hi
  obtain ⟨l⟩ := items
  match l, k with
  | _, .cons _ t1 (.cons _ t2 .nil) => exact ⟨q.1, o, t1, t2, n, rfl, ho, hc, hd⟩
theorem call_sorted {a : Addr} {L : List (Addr × List Int)} {es : Array (Int × Value)} {ep : Nat} {t : SetTable} {Q : Value → Shared → Prop} (R : SetTR P w s.heap a L es ep t) (hh : A.handled = none) (two : ∀ q ∈ L, q.2 = [(asPair q).1, (asPair q).2])
    (hQ : ∀ (s' : Shared) (p : Addr) (c : Nat) (M : List (Addr × List Int)), (∀ b o, s.heap.get? b = some o → s'.heap.get? b = some o) → s'.gens = s.gens → s'.os = s.os → s.heap.objs.size ≤ p →
      s'.heap.get? p = some (seqObj "list" (M.map fun q => Value.ref q.1).toArray c) → M.Perm L → M.Pairwise (fun q r => SrtO.lexB (asPair r) (asPair q) = false) → Q (.ref p) s') :
    wpAny (model P w) A (call (.builtin "sorted") [.ref a]) Q E s := by
  obtain ⟨o, ho, hex, hd⟩ := R.ob
  have one : ∀ q ∈ L, ∀ r ∈ L, q.1 = r.1 → q = r := fun q hq r hr e => by
    have t1 := R.tup q hq
    have t2 := R.tup r hr
    rw [e] at t1
    exact Prod.ext e (t1.inj t2)
  have small : es.size < scanBound := by
    have z := R.size
    have f := R.few
    unfold scanBound
    omega
  refine Calls.call_function_entry kind_sorted plain_sorted entry_sorted (args_sorted1 _) ?_
  unfold Builtin.«sorted»
  refine wpAny_bind (m := checkCount "sorted" 1 1 _) (wpAny_pure ?_)
  refine wpAny_bind (collect_set (A := A.in1) hh ⟨o, ho, hex.1, hd⟩ R.fits small R.tab.ris R.led fun s1 vs k1 hz g1 o1 pm => ?_)
  rw [show es.toList.map (·.2) = L.map fun q => Value.ref q.1 by
    rw [R.rows, rowsOf, List.map_map]
    rfl] at pm
  have few : vs.length ≤ sizeLine := by
    have f := R.few
    rw [pm.length_eq, List.length_map, sizeLine_eq]
    omega
  refine wpAny_bind (wpAny_newList ?_ few)
  have hl : (s1.heap.push (seqObj "list" vs.toArray 0)).get? s1.heap.objs.size = some (seqObj "list" vs.toArray 0) := Heap.get?_push_size _ rfl
  have isRow : ∀ v ∈ vs, ∃ q ∈ L, v = Value.ref q.1 := fun v hv => by
    obtain ⟨q, hq, e⟩ := List.mem_map.mp (pm.mem_iff.mp hv)
    exact ⟨q, hq, e.symm⟩
  have prs : ∀ v ∈ vs, Srt.IsPair (s1.heap.push (seqObj "list" vs.toArray 0)) v (keyOf L v).1 (keyOf L v).2 := fun v hv => by
    obtain ⟨q, hq, rfl⟩ := isRow v hv
    rw [keyOf_row one hq]
    exact pair_of (isT_keep (R.tup q hq) fun b u e => Heap.get?_push_of_some _ (k1 b u e)) (two q hq)
  refine wpAny_bind (wpAny_holding (wpAny_call_entry slot_list_sort ⟨_, hl, rfl⟩ entry_list_sort (SrtO.list_sort_ord (SrtO.swo_lex (keyOf L)) hl few (fun h2 => SrtO.pairs_sortableO (s := { s1 with heap := s1.heap.push (seqObj "list" vs.toArray 0) }) (by omega) prs fun o e => ?_) fun out h1 h2 => ⟨_, rfl, ?_⟩) (args_list_sort _)))
  · cases hl.symm.trans e
    intro z
    exact absurd (Value.type.inj z) (by decide)
  · obtain ⟨c, hc⟩ := sortedHeap_at (vs := vs) (out := out.toArray) hl
    obtain ⟨M, eM, hM⟩ := rows_back (L := L) (vs := out) fun v hv => isRow v (h2.perm.mem_iff.mp hv)
    have nL : L.Nodup := nodup_of_map R.nd
    have inj : ∀ q ∈ L, ∀ r ∈ L, Value.ref q.1 = Value.ref r.1 → q = r := fun q hq r hr e => one q hq r hr (by injection e)
    have nv : (L.map fun q => Value.ref q.1).Nodup := List.pairwise_map.mpr (List.Pairwise.imp_of_mem (fun {q r} hq hr hne e => hne (inj q hq r hr e)) nL)
    have pM : (M.map fun q => Value.ref q.1).Perm (L.map fun q => Value.ref q.1) := by
      rw [← eM]
      exact h2.perm.trans pm
    have nM : M.Nodup := nodup_of_map (pM.nodup_iff.mpr nv)
    have perm : M.Perm L := (List.perm_ext_iff_of_nodup nM nL).mpr fun q => ⟨hM q, fun hq => by
      obtain ⟨r, hr, e⟩ := List.mem_map.mp (pM.mem_iff.mpr (List.mem_map.mpr ⟨q, hq, rfl⟩))
      rw [← inj r (hM r hr) q hq e]
      exact hr⟩
    refine wpAny_pure ⟨_, rfl, hQ _ s1.heap.objs.size c M (fun b u e => ?_) g1 o1 hz (by rw [← eM]; exact hc) perm ?_⟩
    · have old := k1 b u e
      have lo := Heap.lt_size old
      show (sortedHeap (s1.heap.push (seqObj "list" vs.toArray 0)) s1.heap.objs.size vs out.toArray).get? b = some u
      rw [sortedHeap_old (Nat.ne_of_lt lo) (by rw [size_push']; exact Nat.lt_succ_of_lt lo)]
      exact Heap.get?_push_of_some _ old
    · rw [eM] at h1
      refine List.Pairwise.imp_of_mem (fun {q r} hq hr k => ?_) (List.pairwise_map.mp h1)
      have k' : SrtO.lexB (keyOf L (.ref r.1)) (keyOf L (.ref q.1)) = false := k
      rw [keyOf_row one (hM q hq), keyOf_row one (hM r hr)] at k'
      exact k'
end
end LSt

namespace LD
open PySem PySem.Spec PyProof.Rows L2 Evl LSt
/-- sorted(s), s a set of pairs of ints -/
def rSortedSet (K : PySem.W.Frag) (P : Program) (w : World) : List V → Hp → VK → Prop := fun vs H Q => ∃ (a : Addr) (L : List (Addr × List Int)), vs = [V.ref a] ∧ H a = some (SetTO P w a L) ∧ (∀ q ∈ L, SqT K H q.1 (q.2.map V.int) ∧ q.2 = [(asPair q).1, (asPair q).2]) ∧
  ∀ (M : List (Addr × List Int)) (p : Addr), M.Perm L → (M.map (·.2)).Nodup → M.Pairwise (fun q r => SrtO.lexB (asPair r) (asPair q) = false) → H p = none → Q (.ref p) (upd H p (.lst (M.map fun q => V.ref q.1)))
section
variable {X : Cx}
theorem cr_sortedSet (hc : X.calm = true) : CallR X (.builtin "sorted") (rSortedSet X.K X.prog X.w) := by
  intro pins s σ H vs us Q I r h
  obtain ⟨a, L, rfl, ha, hk, q⟩ := h
  have R0 : SetT0 X.prog X.w s.heap a L := (I.hok a _ ha).1
  obtain ⟨es, ep, t, R⟩ := R0.full fun p hp => I.isT (hk p hp).1
  rw [Vals.ref1 r]
  refine LSt.call_sorted R (I.ok.hd hc) (fun p hp => (hk p hp).2) fun s' p c M k g o hp hM pm pw => ?_
  have few : (M.map fun q => V.ref q.1).length ≤ sizeLine := by
    have f := R.few
    rw [List.length_map, pm.length_eq, sizeLine_eq]
    omega
  have new : H p = none := I.hok.fresh hp
  have J : Inv X pins σ (upd H p (.lst (M.map fun q => V.ref q.1))) { s with heap := s'.heap, gens := s'.gens, drawn := s'.drawn, toks := s'.toks } :=
    I.call (ch := []) (Un.laid k hp new) (I.hok.laid k hp ⟨few, _, c, vals_rows M, hM⟩) (by rw [g]; exact I.bare) (fun _ z => nomatch z)
  have e : s' = { s with heap := s'.heap, gens := s'.gens, drawn := s'.drawn, toks := s'.toks } := by
    cases s'
    cases s
    cases o
    rfl
  rw [e]
  exact ⟨.ref p, _, J, rfl, q M p pm ((pm.map (·.2)).nodup_iff.mpr R.nd) pw new⟩
end
/-- a point's data -/
def ptD (p : Int × Int) : PyData := .tuple [.int p.1, .int p.2]
def ptsD (ps : List (Int × Int)) : PyData := .list (ps.map ptD)
section
variable {K : PySem.W.Frag} {H : Hp}
theorem Rp.pt {v : V} {p : Int × Int} (h : Rp K H v (ptD p)) : ∃ a, v = .ref a ∧ H a = some (.tup [.int p.1, .int p.2]) := by
  obtain ⟨a, xs, rfl, h1, h2⟩ := h.tup_inv
  obtain ⟨x, y, rfl, r1, r2⟩ := h2.pair
  rw [r1.int_inv, r2.int_inv] at h1
  exact ⟨a, rfl, h1⟩
theorem Rp.of_pt {a : Addr} {p : Int × Int} (h : H a = some (.tup [.int p.1, .int p.2])) : Rp K H (.ref a) (ptD p) := .tup h (.cons (.int _) (.cons (.int _) .nil))
/-- the addresses of a list's points -/
theorem RpAll.pts : ∀ {vs : List V} {ps : List (Int × Int)}, RpAll K H vs (ps.map ptD) → ∃ ks : List (Addr × List Int), vs = ks.map (fun q => V.ref q.1) ∧ ks.map asPair = ps ∧ ∀ q ∈ ks, H q.1 = some (.tup (q.2.map V.int)) ∧ q.2 = [(asPair q).1, (asPair q).2]
  | _, [], .nil => ⟨[], rfl, rfl, by simp⟩
  | _, p :: ps, .cons r t => by
    obtain ⟨a, rfl, ha⟩ := r.pt
    obtain ⟨ks, rfl, e2, h⟩ := RpAll.pts t
    refine ⟨(a, [p.1, p.2]) :: ks, rfl, by rw [List.map_cons, e2]; rfl, fun q hq => ?_⟩
    rcases List.mem_cons.mp hq with e | hq
    · subst e
      exact ⟨ha, rfl⟩
    · exact h q hq
theorem rows_pts : ∀ {ks : List (Addr × List Int)}, (∀ q ∈ ks, H q.1 = some (.tup (q.2.map V.int)) ∧ q.2 = [(asPair q).1, (asPair q).2]) → RpAll K H (ks.map fun q => V.ref q.1) ((ks.map asPair).map ptD)
  | [], _ => .nil
  | q :: ks, h => by
    refine .cons (Rp.of_pt ?_) (rows_pts fun r hr => h r (List.mem_cons_of_mem _ hr))
    obtain ⟨h1, h2⟩ := h q (by simp)
    rw [h2] at h1
    exact h1
theorem lfree_pts : ∀ (ps : List (Int × Int)), lfreeAll (ps.map ptD) = true
  | [] => rfl
  | p :: ps => by
    show (lfree (ptD p) && lfreeAll (ps.map ptD)) = true
    rw [lfree_pts ps]
    rfl
end
/-- sorted(set(points)) -/
theorem xf_sortedSet {K : PySem.W.Frag} {P : Program} {w : World} {env : SE} {te : TE} {ps rs : List (Int × Int)} (h : EvX K te env (ptsD ps)) (hn : ps.length < 64) (hr : ∀ m : List (Int × Int), m.Nodup → (∀ x, x ∈ m ↔ x ∈ ps) → m.Pairwise (fun p q => SrtO.lexB q p = false) → m = rs) :
    EvFX K (tCB (rSortedSet K P w) (tCons (tCB (rSetOfT K P w) (tCons te tNil)) tNil)) env (rs.map ptD) := fun Hb σ H s H1 e1 Q q =>
  h Hb σ H s H1 e1 _ fun v H2 e2 r => by
    obtain ⟨a, xs, rfl, ha, ra⟩ := r.lst_inv
    obtain ⟨ks, rfl, ek, hk⟩ := ra.pts
    refine ⟨a, ks, rfl, .inl (.inl ha), fun q hq => .inl (.inl (hk q hq).1), ?_, fun b L hb hL1 hL2 => ?_⟩
    · have := congrArg List.length ek
      rw [List.length_map] at this
      omega
    · have eb : Ex H2 (upd H2 b (SetTO P w b L)) := Ex.new hb
      have hkL : ∀ q ∈ L, H2 q.1 = some (.tup (q.2.map V.int)) ∧ q.2 = [(asPair q).1, (asPair q).2] := fun q hq => hk q (hL1 q hq)
      refine ⟨b, L, rfl, upd_same, fun q hq => ⟨.inl (.inl (eb _ _ (hkL q hq).1)), (hkL q hq).2⟩, fun M p pm nd pw hp => ?_⟩
      have hM : ∀ q ∈ M, H2 q.1 = some (.tup (q.2.map V.int)) ∧ q.2 = [(asPair q).1, (asPair q).2] := fun q hq => hkL q (pm.mem_iff.mp hq)
      have em : M.map asPair = rs := by
        refine hr _ ?_ (fun x => ?_) (List.pairwise_map.mpr pw)
        · rw [List.nodup_iff_pairwise_ne, List.pairwise_map] at nd ⊢
          refine List.Pairwise.imp_of_mem (fun {q r} hq hr' hne e => hne ?_) nd
          rw [(hM q hq).2, (hM r hr').2, e]
        · constructor
          · intro hx
            obtain ⟨q, hq, rfl⟩ := List.mem_map.mp hx
            rw [← ek]
            exact List.mem_map.mpr ⟨q, hL1 q (pm.mem_iff.mp hq), rfl⟩
          · intro hx
            rw [← ek] at hx
            obtain ⟨q, hq, rfl⟩ := List.mem_map.mp hx
            obtain ⟨r, hr', e⟩ := List.mem_map.mp (hL2 q hq)
            refine List.mem_map.mpr ⟨r, pm.mem_iff.mpr hr', ?_⟩
            unfold asPair
            rw [show r.2 = q.2 from e]
      have e3 : Ex (upd H2 b (SetTO P w b L)) (upd (upd H2 b (SetTO P w b L)) p (.lst (M.map fun q => V.ref q.1))) := Ex.new hp
      refine q p _ (upd H2 b (SetTO P w b L)) _ (fresh_back (e2.trans eb) hp) (e2.trans eb) e3 hp upd_same ?_
      rw [← em]
      exact (rows_pts hM).mono eb
end LD
/-! More values; the frame of a def. -/
namespace LD
open PySem PySem.Spec PyProof.Rows L2 Evl LSt
section
variable {K : PySem.W.Frag} {env : SE} {te ta tb : TE} {tr : TA} {d e : PyData} {ds es : List PyData}
/-- min, max of a list of ints -/
theorem ex_minL {ns : List Int} {m : Int} (h : EvX K te env (.list (ns.map .int))) (h0 : 0 < ns.length) (hm : ∀ x, x ∈ ns → (∀ y ∈ ns, x ≤ y) → x = m) : EvX K (tCB (rMin K) (tCons te tNil)) env (.int m) :=
  ex_cb (ea_cons h ea_nil) fun vs H r Q q => by
    obtain ⟨v, rfl, rv⟩ := r.one
    obtain ⟨a, xs, rfl, ha, ra⟩ := rv.lst_inv
    rw [ra.ints] at ha
    exact ⟨a, ns, rfl, .inl (.inl ha), h0, fun x hx hl => q _ H (Ex.refl _) (by rw [hm x hx hl]; exact .int m)⟩
theorem ex_maxL {ns : List Int} {m : Int} (h : EvX K te env (.list (ns.map .int))) (h0 : 0 < ns.length) (hm : ∀ x, x ∈ ns → (∀ y ∈ ns, y ≤ x) → x = m) : EvX K (tCB (rMax K) (tCons te tNil)) env (.int m) :=
  ex_cb (ea_cons h ea_nil) fun vs H r Q q => by
    obtain ⟨v, rfl, rv⟩ := r.one
    obtain ⟨a, xs, rfl, ha, ra⟩ := rv.lst_inv
    rw [ra.ints] at ha
    exact ⟨a, ns, rfl, .inl (.inl ha), h0, fun x hx hl => q _ H (Ex.refl _) (by rw [hm x hx hl]; exact .int m)⟩
theorem ex_min2 {i j : Int} (h : EvX K ta env (.int i)) (h2 : EvX K tb env (.int j)) : EvX K (tCB (fun xs H Q => ∃ i j, xs = [.int i, .int j] ∧ Q (.int (if j < i then j else i)) H) (tCons ta (tCons tb tNil))) env (.int (if j < i then j else i)) :=
  ex_cb (ea_cons h (ea_cons h2 ea_nil)) fun vs H r Q q => by
    obtain ⟨v, w, rfl, rv, rw⟩ := r.pair
    rw [rv.int_inv, rw.int_inv]
    exact ⟨i, j, rfl, q _ H (Ex.refl _) (.int _)⟩
theorem ex_max2 {i j : Int} (h : EvX K ta env (.int i)) (h2 : EvX K tb env (.int j)) : EvX K (tCB (fun xs H Q => ∃ i j, xs = [.int i, .int j] ∧ Q (.int (if j > i then j else i)) H) (tCons ta (tCons tb tNil))) env (.int (if j > i then j else i)) :=
  ex_cb (ea_cons h (ea_cons h2 ea_nil)) fun vs H r Q q => by
    obtain ⟨v, w, rfl, rv, rw⟩ := r.pair
    rw [rv.int_inv, rw.int_inv]
    exact ⟨i, j, rfl, q _ H (Ex.refl _) (.int _)⟩
/-- all of a list of truths -/
theorem ex_all {bs : List Bool} (h : EvX K te env (.list (bs.map .bool))) : EvX K (tCB (rAll K) (tCons te tNil)) env (.bool (bs.all id)) :=
  ex_cb (ea_cons h ea_nil) fun vs H r Q q => by
    obtain ⟨v, rfl, rv⟩ := r.one
    obtain ⟨a, xs, rfl, ha, ra⟩ := rv.lst_inv
    rw [ra.bools] at ha
    exact ⟨a, bs, rfl, .inl (.inl ha), q _ H (Ex.refl _) (.bl _)⟩
/-- int(flag), int(n) -/
theorem ex_intB {b : Bool} (h : EvX K te env (.bool b)) : EvX K (tCB (fun xs H Q => (∃ i, xs = [.int i] ∧ Q (.int i) H) ∨ ∃ k, xs = [.bl k] ∧ Q (.int (if k then 1 else 0)) H) (tCons te tNil)) env (.int (if b then 1 else 0)) :=
  ex_cb (ea_cons h ea_nil) fun vs H r Q q => by
    obtain ⟨v, rfl, rv⟩ := r.one
    rw [rv.bl_inv]
    exact .inr ⟨b, rfl, q _ H (Ex.refl _) (.int _)⟩
/-- the built-in class of data -/
def tyD : PyData → Option String
  | .none => some "NoneType"
  | .bool _ => some "bool"
  | .int _ => some "int"
  | .str _ => some "str"
  | .list _ => some "list"
  | .tuple _ => some "tuple"
  | .dict _ => none
theorem Rp.ty {H : Hp} {v : V} {t : String} (r : Rp K H v d) (h : tyD d = some t) : TyX K H v (.type t) := by
  cases r with
  | non => cases h; exact .base .non
  | bl b => cases h; exact .base (.bl b)
  | int i => cases h; exact .base (.int i)
  | str x => cases h; exact .base (.str x)
  | lst h1 _ => cases h; exact .base (.lst h1)
  | tup h1 _ => cases h; exact .base (.tup h1)
  | scr _ => cases h
/-- isinstance(x, T), T a built-in class -/
theorem ex_isi {t T : String} {b : Bool} (h : EvX K te env d) (ht : tyD d = some t) (k : PySem.W.kitOne K (.type t) (.type T) = some b) : EvX K (tCB (rIsi K) (tCons te (tCons (tC (.ty T)) tNil))) env (.bool b) := fun Hb σ H s H1 e1 Q q =>
  h Hb σ H s H1 e1 _ fun v H2 e2 r => ⟨v, .ty T, .type t, .type T, b, rfl, .ty T, r.ty ht, k, q _ H2 e2 (.bl b)⟩
/-- xs.index(x) -/
theorem ex_index {j : Nat} {z : PyData} (h : EvX K ta env (.list ds)) (hx : EvX K te env d) (s1 : SeqAt.shaped (.list ds) = true) (s2 : SeqAt.shaped d = true) (hj : ds[j]? = some z) (hz : PyData.eqv z d = true) (hn : ∀ (m : Nat) (z' : PyData), m < j → ds[m]? = some z' → PyData.eqv z' d = false) :
    EvX K (tBM K "list" (rIndexD K) ta (tCons te tNil)) env (.int (j : Nat)) := fun Hb σ H s H1 e1 Q q =>
  h Hb σ H s H1 e1 _ fun v H2 e2 r => by
    obtain ⟨a, xs, rfl, ha, ra⟩ := r.lst_inv
    refine ⟨.inl ⟨rfl, xs, .inl (.inl ha)⟩, hx Hb σ H s H2 (e1.trans e2) _ fun w H3 e3 rw => ?_⟩
    exact ⟨a, w, d, ds, j, z, rfl, rfl, (r.mono e3).dp (SeqAt.canLay_of_shaped s1), rw.dp (SeqAt.canLay_of_shaped s2), s1, s2, hj, hz, hn, q _ H3 (e2.trans e3) (.int _)⟩
/-- sorted(xs) of points, of ints -/
theorem xf_sortedP {ps rs : List (Int × Int)} (h : EvX K te env (ptsD ps)) (hr : ∀ m : List (Int × Int), m.Perm ps → m.Pairwise (fun p q => SrtO.lexB q p = false) → m = rs) : EvFX K (tCB (rSortedPO K) (tCons te tNil)) env (rs.map ptD) :=
  xf_cb (ea_cons h ea_nil) fun vs H r Q q => by
    obtain ⟨v, rfl, rv⟩ := r.one
    obtain ⟨a, xs, rfl, ha, ra⟩ := rv.lst_inv
    obtain ⟨ks, rfl, ek, hk⟩ := ra.pts
    -- the ints at an address, by the heap
    have kx : ∃ k : V → Int × Int, ∀ q ∈ ks, k (.ref q.1) = asPair q := by
      refine ⟨fun v => match v with
        | .ref b => (match H b with
          | some (.tup [.int x, .int y]) => (x, y)
          | _ => (0, 0))
        | _ => (0, 0), fun q hq => ?_⟩
      obtain ⟨h1, h2⟩ := hk q hq
      rw [h2] at h1
      show (match H q.1 with
          | some (.tup [.int x, .int y]) => (x, y)
          | _ => (0, 0)) = asPair q
      rw [h1]
      rfl
    obtain ⟨k, hkx⟩ := kx
    refine ⟨a, _, k, rfl, .inl (.inl ha), fun x hx => ?_, fun ys p hs hb hp => ?_⟩
    · obtain ⟨q, hq, rfl⟩ := List.mem_map.mp hx
      obtain ⟨h1, h2⟩ := hk q hq
      refine ⟨q.1, rfl, ?_⟩
      rw [hkx q hq]
      rw [h2] at h1
      exact h1
    · have hys : ∀ y ∈ ys, ∃ q ∈ ks, y = V.ref q.1 := fun y hy => by
        obtain ⟨q, hq, e⟩ := List.mem_map.mp (hb.perm.mem_iff.mp hy)
        exact ⟨q, hq, e.symm⟩
      have back : ∀ {zs : List V}, (∀ y ∈ zs, ∃ q ∈ ks, y = V.ref q.1) → ∃ M : List (Addr × List Int), zs = M.map (fun q => V.ref q.1) ∧ ∀ q ∈ M, q ∈ ks := by
        intro zs
        induction zs with
        | nil => intro _; exact ⟨[], rfl, by simp⟩
        | cons z zs ih =>
          intro hz
          obtain ⟨q, hq, e⟩ := hz z (by simp)
          obtain ⟨M, e1, h1⟩ := ih fun y hy => hz y (List.mem_cons_of_mem _ hy)
          refine ⟨q :: M, by rw [List.map_cons, ← e1, e], fun r hr => ?_⟩
          rcases List.mem_cons.mp hr with e | hr
          · rw [e]; exact hq
          · exact h1 r hr
      obtain ⟨M, rfl, hM⟩ := back hys
      have hM2 : ∀ q ∈ M, H q.1 = some (.tup (q.2.map V.int)) ∧ q.2 = [(asPair q).1, (asPair q).2] := fun q hq => hk q (hM q hq)
      have em : M.map asPair = rs := by
        refine hr _ ?_ ?_
        · have p1 := hb.perm.map k
          rw [List.map_map, List.map_map] at p1
          have e1 : M.map (k ∘ fun q => V.ref q.1) = M.map asPair := List.map_congr_left fun q hq => hkx q (hM q hq)
          have e2 : ks.map (k ∘ fun q => V.ref q.1) = ks.map asPair := List.map_congr_left fun q hq => hkx q hq
          rw [e1, e2, ek] at p1
          exact p1
        · refine List.pairwise_map.mpr (List.Pairwise.imp_of_mem (fun {q r} hq hr' z => ?_) (List.pairwise_map.mp hs))
          have z' : SrtO.lexB (k (.ref r.1)) (k (.ref q.1)) = false := z
          rw [hkx q (hM q hq), hkx r (hM r hr')] at z'
          exact z'
      refine q p _ H _ hp (Ex.refl _) (Ex.new hp) hp upd_same ?_
      rw [← em]
      exact rows_pts hM2
end
/-! ### the frame of a def -/
def env0 (n : Nat) (ds : List PyData) : SE := ds.map .dat ++ List.replicate (n - ds.length) .no
theorem std_start {K : PySem.W.Frag} {H : Hp} {N : List Str} {vs : List V} {ds : List PyData} (r : RpAll K H vs ds) : StD K H H (L2.start N vs) (env0 N.length ds) := by
  refine ⟨H, Ex.refl _, Ex.refl _, ?_, fun i s hi => ?_⟩
  · unfold L2.start env0
    rw [List.length_append, List.length_append, List.length_map, List.length_map, List.length_replicate, List.length_replicate, r.length]
  · unfold env0 at hi
    by_cases h : i < ds.length
    · rw [List.getElem?_append_left (by rw [List.length_map]; exact h), List.getElem?_map] at hi
      cases k : ds[i]? with
      | none => rw [k] at hi; cases hi
      | some d =>
        rw [k] at hi
        cases hi
        obtain ⟨v, hv, rv⟩ := r.get k
        refine ⟨v, ?_, rv⟩
        unfold L2.start
        rw [List.getElem?_append_left (by rw [List.length_map, r.length]; exact h), List.getElem?_map, hv]
        rfl
    · rw [List.getElem?_append_right (by rw [List.length_map]; omega)] at hi
      have : s = .no := List.eq_of_mem_replicate (List.mem_of_getElem? hi)
      subst this
      trivial
section
variable {P : Program} {w : World} {K : PySem.W.Frag} {mg : Str → Option Value} {base : Heap}
/-- a def that answers data -/
theorem ok_D {x qual : Str} {st : Stmt} {f : Addr} {fd : FuncData} {N ps : List Str} {k : Nat} {F : List PyData → PyData → Prop} (Fn : Fun K x qual st f fd) (S : FnScope N ps (defScope st)) (len : ∀ ds d, F ds d → ds.length = ps.length)
    (hbody : ∀ (cdv : Value) (A : Around) (outer : List Env) (s : Shared) (H : Hp) (E : XK), Room k (A.deeper (envOfC qual (defScope st) s.heap.objs.size f cdv)) → ∀ ds d, F ds d →
      ∃ t, PSs (cxOf CX0 P w K mg base N qual (defScope st) f cdv A outer s H E).nox (defBody st) t ∧ RunX K t (env0 N.length ds) (.rt d)) : FnOk P w K mg base CX0 (k + 1) f fd ps (spD K F) := by
  refine Fn.ok S (fun vs H Q E h => ?_) (fun cdv A outer s H vs Q E hr h => ?_)
  · obtain ⟨ds, d, r, hF, _⟩ := h
    rw [r.length, len ds d hF]
  · obtain ⟨ds, d, r, hF, q⟩ := h
    obtain ⟨t, ht, hx⟩ := hbody cdv A outer s H E hr ds d hF
    exact ⟨t, ht, hx H _ H _ (std_start r) q⟩
/-- a def that answers a new list -/
theorem ok_F {x qual : Str} {st : Stmt} {f : Addr} {fd : FuncData} {N ps : List Str} {k : Nat} {F : List PyData → List PyData → Prop} (Fn : Fun K x qual st f fd) (S : FnScope N ps (defScope st)) (len : ∀ ds d, F ds d → ds.length = ps.length)
    (hbody : ∀ (cdv : Value) (A : Around) (outer : List Env) (s : Shared) (H : Hp) (E : XK), Room k (A.deeper (envOfC qual (defScope st) s.heap.objs.size f cdv)) → ∀ ds es, F ds es →
      ∃ t, PSs (cxOf CX0 P w K mg base N qual (defScope st) f cdv A outer s H E).nox (defBody st) t ∧ RunX K t (env0 N.length ds) (.rf es)) : FnOk P w K mg base CX0 (k + 1) f fd ps (spF K F) := by
  refine Fn.ok S (fun vs H Q E h => ?_) (fun cdv A outer s H vs Q E hr h => ?_)
  · obtain ⟨ds, d, r, hF, _⟩ := h
    rw [r.length, len ds d hF]
  · obtain ⟨ds, es, r, hF, q⟩ := h
    obtain ⟨t, ht, hx⟩ := hbody cdv A outer s H E hr ds es hF
    exact ⟨t, ht, hx H _ H _ (std_start r) q⟩
/-- a def that answers None or a new list -/
theorem ok_O {x qual : Str} {st : Stmt} {f : Addr} {fd : FuncData} {N ps : List Str} {k : Nat} {F : List PyData → Option (List PyData) → Prop} (Fn : Fun K x qual st f fd) (S : FnScope N ps (defScope st)) (len : ∀ ds d, F ds d → ds.length = ps.length)
    (hbody : ∀ (cdv : Value) (A : Around) (outer : List Env) (s : Shared) (H : Hp) (E : XK), Room k (A.deeper (envOfC qual (defScope st) s.heap.objs.size f cdv)) → ∀ ds o, F ds o →
      ∃ t, PSs (cxOf CX0 P w K mg base N qual (defScope st) f cdv A outer s H E).nox (defBody st) t ∧ RunX K t (env0 N.length ds) (match o with | none => .rt .none | some es => .rf es)) : FnOk P w K mg base CX0 (k + 1) f fd ps (spO K F) := by
  refine Fn.ok S (fun vs H Q E h => ?_) (fun cdv A outer s H vs Q E hr h => ?_)
  · obtain ⟨ds, d, r, hF, _⟩ := h
    rw [r.length, len ds d hF]
  · obtain ⟨ds, o, r, hF, q1, q2⟩ := h
    obtain ⟨t, ht, hx⟩ := hbody cdv A outer s H E hr ds o hF
    refine ⟨t, ht, hx H _ H _ (std_start r) ?_⟩
    cases o with
    | none => exact fun v H' e rv => by rw [rv.non_inv]; exact q1 rfl H' e
    | some es => exact q2 es rfl
/-- a def whose answer is told by more than its data -/
theorem ok_R {x qual : Str} {st : Stmt} {f : Addr} {fd : FuncData} {N ps : List Str} {k : Nat} {F : List PyData → (Hp → V → Hp → Prop) → Prop} (Fn : Fun K x qual st f fd) (S : FnScope N ps (defScope st)) (len : ∀ ds d, F ds d → ds.length = ps.length)
    (hbody : ∀ (cdv : Value) (A : Around) (outer : List Env) (s : Shared) (H : Hp) (E : XK), Room k (A.deeper (envOfC qual (defScope st) s.heap.objs.size f cdv)) → ∀ ds R, F ds R →
      ∃ t, PSs (cxOf CX0 P w K mg base N qual (defScope st) f cdv A outer s H E).nox (defBody st) t ∧ RunX K t (env0 N.length ds) (.rq R)) : FnOk P w K mg base CX0 (k + 1) f fd ps (spR K F) := by
  refine Fn.ok S (fun vs H Q E h => ?_) (fun cdv A outer s H vs Q E hr h => ?_)
  · obtain ⟨ds, d, r, hF, _⟩ := h
    rw [r.length, len ds d hF]
  · obtain ⟨ds, R, r, hF, q⟩ := h
    obtain ⟨t, ht, hx⟩ := hbody cdv A outer s H E hr ds R hF
    exact ⟨t, ht, hx H _ H _ (std_start r) q⟩
/-- a def that falls off its end answers None -/
theorem rx_none {t : TS} {env e : SE} {H : Hp} {vs : List V} {N : List Str} {Q : VK} (h : RunX K t env (.nx e)) (s : StD K H H (L2.start N vs) env) (q : ∀ v H', Ex H H' → Rp K H' v .none → Q v H') : t { nx := fun _ H' => Q .non H', rt := Q } (L2.start N vs) H :=
  h H _ H _ s fun σ' H' s' => q .non H' s'.bot .non
/-- a def whose answer is None -/
theorem ok_N {x qual : Str} {st : Stmt} {f : Addr} {fd : FuncData} {N ps : List Str} {k : Nat} {F : List PyData → Prop} (Fn : Fun K x qual st f fd) (S : FnScope N ps (defScope st)) (len : ∀ ds, F ds → ds.length = ps.length)
    (hbody : ∀ (cdv : Value) (A : Around) (outer : List Env) (s : Shared) (H : Hp) (E : XK), Room k (A.deeper (envOfC qual (defScope st) s.heap.objs.size f cdv)) → ∀ ds, F ds →
      ∃ t, PSs (cxOf CX0 P w K mg base N qual (defScope st) f cdv A outer s H E).nox (defBody st) t ∧ ∃ e, RunX K t (env0 N.length ds) (.nx e)) : FnOk P w K mg base CX0 (k + 1) f fd ps (spD K fun ds d => F ds ∧ d = .none) := by
  refine Fn.ok S (fun vs H Q E h => ?_) (fun cdv A outer s H vs Q E hr h => ?_)
  · obtain ⟨ds, d, r, hF, _⟩ := h
    rw [r.length, len ds hF.1]
  · obtain ⟨ds, d, r, ⟨hF, rfl⟩, q⟩ := h
    obtain ⟨t, ht, e, hx⟩ := hbody cdv A outer s H E hr ds hF
    exact ⟨t, ht, rx_none hx (std_start r) q⟩
end
end LD
/-! Loops as folds and searches. -/
namespace LD
open PySem L2 Evl LSt
/-- the second frame asks less -/
inductive Wk : SE → SE → Prop
  | nil : Wk [] []
  | keep {s : Sl} {e e' : SE} : Wk e e' → Wk (s :: e) (s :: e')
  | drop {s : Sl} {e e' : SE} : Wk e e' → Wk (s :: e) (.no :: e')
  | data {ds : List PyData} {e e' : SE} : Wk e e' → Wk (.own ds :: e) (.no :: e')
theorem Wk.refl : ∀ (e : SE), Wk e e
  | [] => .nil
  | _ :: e => .keep (Wk.refl e)
theorem Wk.length {e e' : SE} (h : Wk e e') : e.length = e'.length := by
  induction h with
  | nil => rfl
  | keep _ ih => rw [List.length_cons, List.length_cons, ih]
  | drop _ ih => rw [List.length_cons, List.length_cons, ih]
  | data _ ih => rw [List.length_cons, List.length_cons, ih]
theorem Wk.get {e e' : SE} (h : Wk e e') : ∀ {i : Nat} {s : Sl}, e'[i]? = some s → s = .no ∨ e[i]? = some s := by
  induction h with
  | nil => intro i s h; simp at h
  | keep _ ih =>
    intro i s h
    cases i with
    | zero => exact .inr h
    | succ i => exact ih (by simpa using h)
  | drop _ ih =>
    intro i s h
    cases i with
    | zero => exact .inl (by simpa using h.symm)
    | succ i => exact ih (by simpa using h)
  | data _ ih =>
    intro i s h
    cases i with
    | zero => exact .inl (by simpa using h.symm)
    | succ i => exact ih (by simpa using h)
section
variable {K : PySem.W.Frag} {env env' e e' : SE} {t u : TS} {out : Out}
theorem StD.weak {Hb H : Hp} {σ : St} (h : StD K Hb H σ e) (k : Wk e e') : StD K Hb H σ e' := by
  obtain ⟨H0, s⟩ := h
  refine ⟨H0, s.base, s.up, by rw [s.len, k.length], fun i sl hi => ?_⟩
  rcases k.get hi with q | q
  · subst q; trivial
  · exact s.at_ i sl q
theorem rx_pre (k : Wk env env') (h : RunX K t env' out) : RunX K t env out := fun Hb σ H D s g => h Hb σ H D (s.weak k) g
theorem rx_post (h : RunX K t env (.nx e)) (k : Wk e e') : RunX K t env (.nx e') := fun Hb σ H D s g => h Hb σ H D s fun σ' H' s' => g σ' H' (s'.weak k)
theorem rx_postC (h : RunX K t env (.ct e)) (k : Wk e e') : RunX K t env (.ct e') := fun Hb σ H D s g => h Hb σ H D s fun σ' H' s' => g σ' H' (s'.weak k)
theorem fr_pre {g : TG} {tb : TS} {ds : List PyData} (k : Wk e e') (h : Fr K g tb ds e' (.nx env)) (kk : ∀ {d : PyData} {e1 : SE}, TgX K g e' d e1 → TgX K g e d e1) : ds ≠ [] → Fr K g tb ds e (.nx env) := by
  intro hne
  cases h with
  | done => exact absurd rfl hne
  | turn h1 h2 h3 => exact .turn (kk h1) h2 h3
  | cont h1 h2 h3 => exact .cont (kk h1) h2 h3
  | brk h1 h2 => exact .brk (kk h1) h2
/-- a loop that carries a value: its frame is envOf of the value -/
theorem fr_fold {α β : Type} {g : TG} {tb : TS} (inj : α → PyData) (envOf : β → SE) (f : β → α → β) (b0 : β) (items : List α)
    (h : ∀ (pre post : List α) (a : α), items = pre ++ a :: post → ∃ e1, TgX K g (envOf (pre.foldl f b0)) (inj a) e1 ∧ RunX K tb e1 (.nx (envOf (f (pre.foldl f b0) a)))) : Fr K g tb (items.map inj) (envOf b0) (.nx (envOf (items.foldl f b0))) := by
  have key : ∀ (post pre : List α), items = pre ++ post → Fr K g tb (post.map inj) (envOf (pre.foldl f b0)) (.nx (envOf (items.foldl f b0))) := by
    intro post
    induction post with
    | nil =>
      intro pre hp
      rw [List.append_nil] at hp
      rw [hp]
      exact .done
    | cons a post ih =>
      intro pre hp
      obtain ⟨e1, h1, h2⟩ := h pre post a hp
      refine .turn h1 h2 ?_
      have := ih (pre ++ [a]) (by rw [hp]; simp)
      rw [List.foldl_append] at this
      exact this
  exact key items [] rfl
/-- a loop that searches: the first item that answers ends it -/
theorem fr_find {α : Type} {g : TG} {tb : TS} (inj : α → PyData) (f : α → Option PyData) (env : SE) (items : List α)
    (h : ∀ a ∈ items, ∃ e1, TgX K g env (inj a) e1 ∧ (∀ d, f a = some d → RunX K tb e1 (.rt d)) ∧ (f a = none → RunX K tb e1 (.nx env))) :
    Fr K g tb (items.map inj) env (match items.findSome? f with | some d => .rt d | none => .nx env) := by
  induction items with
  | nil => exact .done
  | cons a items ih =>
    obtain ⟨e1, h1, h2, h3⟩ := h a (by simp)
    cases k : f a with
    | some d =>
      rw [List.findSome?_cons, k]
      exact .rt h1 (h2 d k)
    | none =>
      rw [List.findSome?_cons, k]
      exact .turn h1 (h3 k) (ih fun b hb => h b (List.mem_cons_of_mem _ hb))
/-- a search, and what stands behind it -/
theorem rx_find {α : Type} {f : α → Option PyData} {items : List α} (h : RunX K t env (match items.findSome? f with | some d => .rt d | none => .nx e)) (h1 : ∀ d, items.findSome? f = some d → out = .rt d) (h2 : items.findSome? f = none → RunX K u e out) : RunX K (tSeq t u) env out := by
  cases k : items.findSome? f with
  | some d =>
    rw [k] at h
    rw [h1 d k]
    exact rx_end h rfl
  | none =>
    rw [k] at h
    exact rx_seq h (h2 k)
/-- a while by a value that it carries, what holds of it, and a number that falls -/
theorem rx_whileP {α : Type} {tc : TT} {tb : TS} (envOf : α → SE) (P : α → Prop) (cond : α → Bool) (next : α → α) (m : α → Nat) (a0 : α) (h0 : P a0) (hc : ∀ a, P a → EvTX K tc (envOf a) (cond a))
    (hb : ∀ a, P a → cond a = true → RunX K tb (envOf a) (.nx (envOf (next a))) ∧ P (next a) ∧ m (next a) < m a) (hd : ∀ a, P a → cond a = false → Wk (envOf a) e) : RunX K (tWhile tc tb) (envOf a0) (.nx e) := by
  have key : ∀ (n : Nat) (a : α), m a ≤ n → P a → ∃ a', P a' ∧ cond a' = false ∧ Wh K tc tb n (envOf a) (.nx (envOf a')) := by
    intro n
    induction n with
    | zero =>
      intro a hm hp
      cases k : cond a with
      | false => exact ⟨a, hp, k, .stop (k ▸ hc a hp)⟩
      | true => have := (hb a hp k).2.2; omega
    | succ n ih =>
      intro a hm hp
      cases k : cond a with
      | false => exact ⟨a, hp, k, .stop (k ▸ hc a hp)⟩
      | true =>
        obtain ⟨h1, h2, h3⟩ := hb a hp k
        obtain ⟨a', p', c', w'⟩ := ih (next a) (by omega) h2
        exact ⟨a', p', c', .turn (k ▸ hc a hp) h1 w'⟩
  obtain ⟨a', p', c', w'⟩ := key _ a0 (Nat.le_refl _) h0
  exact rx_post (rx_while w') (hd a' p' c')
theorem rx_to {out' : Out} (e : out' = out) (h : RunX K t env out') : RunX K t env out := e ▸ h
/-- statements told together, the rest behind them -/
theorem rx_assoc {t1 t2 w : TS} (h : RunX K (tSeq t1 t2) env (.nx e)) (h2 : RunX K w e out) : RunX K (tSeq t1 (tSeq t2 w)) env out := fun Hb σ H D s g => h Hb σ H ⟨fun σ' H' => w D σ' H', D.rt, D.bk, D.ct⟩ s fun σ' H' s' => h2 Hb σ' H' D s' g
/-- an answer that is not told by the end of the loop: all turns go on -/
theorem fr_all {α : Type} {g : TG} {tb : TS} (inj : α → PyData) (env : SE) (items : List α) (h : ∀ a ∈ items, ∃ e1, TgX K g env (inj a) e1 ∧ RunX K tb e1 (.nx env)) : Fr K g tb (items.map inj) env (.nx env) := by
  have := fr_fold (g := g) (tb := tb) (K := K) inj (fun _ : Unit => env) (fun _ _ => ()) () items fun pre post a hp => h a (by rw [hp]; simp)
  exact this
theorem atI_two1 {α : Type} (l : List α) (x y : α) : atI (l ++ [x, y]) (-1) = some y := by
  have : l ++ [x, y] = (l ++ [x]) ++ [y] := by simp
  rw [this]
  exact atI_last _ _
theorem atI_two2 {α : Type} (l : List α) (x y : α) : atI (l ++ [x, y]) (-2) = some x := by
  unfold atI ixN
  rw [if_neg (by omega), if_pos (by rw [List.length_append]; simp only [List.length_cons, List.length_nil]; omega)]
  show (l ++ [x, y])[((-2 : Int) + ((l ++ [x, y]).length : Int)).toNat]? = some x
  rw [List.length_append, show ((-2 : Int) + ((l.length + [x, y].length : Nat) : Int)).toNat = l.length by simp only [List.length_cons, List.length_nil]; omega, List.getElem?_append_right (Nat.le_refl _), Nat.sub_self]
  rfl
end
end LD
/-! sorted(xs) of triples of ints; more of tuples. -/
namespace LD
open PySem PySem.Spec PyProof.Rows L2 Evl LSt
def bigB : Int := 1099511627776
def w3D (u : Int × Int × Int) : PyData := .tuple [.int u.1, .int u.2.1, .int u.2.2]
def asTri (q : Addr × List Int) : Int × Int × Int := (q.2.getD 0 0, q.2.getD 1 0, q.2.getD 2 0)
theorem lfree_w3s : ∀ (us : List (Int × Int × Int)), lfreeAll (us.map w3D) = true
  | [] => rfl
  | u :: us => by
    show (lfree (w3D u) && lfreeAll (us.map w3D)) = true
    rw [lfree_w3s us]
    rfl
theorem xt_true {K : PySem.W.Frag} {env : SE} : EvTX K tYes env true := fun Hb σ H s H1 e1 Q q => q H1 (Ex.refl _)
section
variable {K : PySem.W.Frag} {H : Hp}
theorem RpAll.w3s : ∀ {vs : List V} {us : List (Int × Int × Int)}, RpAll K H vs (us.map w3D) → ∃ ks : List (Addr × List Int), vs = ks.map (fun q => V.ref q.1) ∧ ks.map asTri = us ∧ ∀ q ∈ ks, H q.1 = some (.tup (q.2.map V.int)) ∧ q.2 = [(asTri q).1, (asTri q).2.1, (asTri q).2.2]
  | _, [], .nil => ⟨[], rfl, rfl, by simp⟩
  | _, u :: us, .cons r t => by
    obtain ⟨a, xs, rfl, ha, ra⟩ := r.tup_inv
    have hx : xs = [V.int u.1, V.int u.2.1, V.int u.2.2] := RpAll.ints (ns := [u.1, u.2.1, u.2.2]) ra
    rw [hx] at ha
    obtain ⟨ks, rfl, e2, h⟩ := RpAll.w3s t
    refine ⟨(a, [u.1, u.2.1, u.2.2]) :: ks, rfl, by rw [List.map_cons, e2]; rfl, fun q hq => ?_⟩
    rcases List.mem_cons.mp hq with e | hq
    · subst e
      exact ⟨ha, rfl⟩
    · exact h q hq
theorem rows_w3s : ∀ {ks : List (Addr × List Int)}, (∀ q ∈ ks, H q.1 = some (.tup (q.2.map V.int)) ∧ q.2 = [(asTri q).1, (asTri q).2.1, (asTri q).2.2]) → RpAll K H (ks.map fun q => V.ref q.1) ((ks.map asTri).map w3D)
  | [], _ => .nil
  | q :: ks, h => by
    refine .cons ?_ (rows_w3s fun r hr => h r (List.mem_cons_of_mem _ hr))
    obtain ⟨h1, h2⟩ := h q (by simp)
    rw [h2] at h1
    exact .tup h1 (.cons (.int _) (.cons (.int _) (.cons (.int _) .nil)))
theorem refs_back : ∀ {ks : List (Addr × List Int)} {zs : List V}, (∀ y ∈ zs, ∃ q ∈ ks, y = V.ref q.1) → ∃ M : List (Addr × List Int), zs = M.map (fun q => V.ref q.1) ∧ ∀ q ∈ M, q ∈ ks
  | ks, [], _ => ⟨[], rfl, by simp⟩
  | ks, z :: zs, hz => by
    obtain ⟨q, hq, e⟩ := hz z (by simp)
    obtain ⟨M, e1, h1⟩ := refs_back (zs := zs) fun y hy => hz y (List.mem_cons_of_mem _ hy)
    refine ⟨q :: M, by rw [List.map_cons, ← e1, e], fun r hr => ?_⟩
    rcases List.mem_cons.mp hr with e | hr
    · rw [e]; exact hq
    · exact h1 r hr
/-- sorted(xs) of triples, few and within bounds -/
theorem xf_sortedW {env : SE} {te : TE} {us rs : List (Int × Int × Int)} (h : EvX K te env (.list (us.map w3D))) (hn : us.length < 64) (hb : ∀ u ∈ us, (0 ≤ u.1 ∧ u.1 < bigB) ∧ (0 ≤ u.2.1 ∧ u.2.1 < bigB) ∧ (0 ≤ u.2.2 ∧ u.2.2 < bigB))
    (hr : ∀ m : List (Int × Int × Int), m.Perm us → m.Pairwise (fun u v => TS.code bigB [u.1, u.2.1, u.2.2] ≤ TS.code bigB [v.1, v.2.1, v.2.2]) → m = rs) : EvFX K (tCB (rSortU K 3 bigB) (tCons te tNil)) env (rs.map w3D) :=
  xf_cb (ea_cons h ea_nil) fun vs H r Q q => by
    obtain ⟨v, rfl, rv⟩ := r.one
    obtain ⟨a, xs, rfl, ha, ra⟩ := rv.lst_inv
    obtain ⟨ks, rfl, ek, hk⟩ := ra.w3s
    have tup : ∀ q ∈ ks, TupI K H (.ref q.1) q.2 := fun q hq => ⟨q.1, rfl, .inl (.inl (hk q hq).1)⟩
    refine ⟨a, _, rfl, .inl (.inl ha), ?_, fun x hx => ?_, fun ys p hp hs hnone => ?_⟩
    · rw [List.length_map]
      have := congrArg List.length ek
      rw [List.length_map] at this
      omega
    · obtain ⟨q, hq, rfl⟩ := List.mem_map.mp hx
      have h2 := (hk q hq).2
      refine ⟨q.2, tup q hq, by rw [h2]; rfl, ?_⟩
      have hu := hb (asTri q) (by rw [← ek]; exact List.mem_map.mpr ⟨q, hq, rfl⟩)
      rw [h2]
      intro m hm
      simp only [List.mem_cons, List.not_mem_nil, or_false] at hm
      rcases hm with e | e | e <;> subst e
      · exact hu.1
      · exact hu.2.1
      · exact hu.2.2
    · obtain ⟨M, rfl, hM⟩ := refs_back (ks := ks) (zs := ys) fun y hy => by
        obtain ⟨q, hq, e⟩ := List.mem_map.mp (hp.mem_iff.mp hy)
        exact ⟨q, hq, e.symm⟩
      have hM2 : ∀ q ∈ M, H q.1 = some (.tup (q.2.map V.int)) ∧ q.2 = [(asTri q).1, (asTri q).2.1, (asTri q).2.2] := fun q hq => hk q (hM q hq)
      have em : M.map asTri = rs := by
        refine hr _ ?_ ?_
        · -- by what stands at the addresses
          let f : V → Int × Int × Int := fun v => match v with
            | .ref b => (match H b with
              | some (.tup [.int x, .int y, .int z]) => (x, y, z)
              | _ => (0, 0, 0))
            | _ => (0, 0, 0)
          have fx : ∀ q ∈ ks, f (.ref q.1) = asTri q := fun q hq => by
            obtain ⟨h1, h2⟩ := hk q hq
            rw [h2] at h1
            show (match H q.1 with
              | some (.tup [.int x, .int y, .int z]) => (x, y, z)
              | _ => (0, 0, 0)) = asTri q
            rw [h1]
            rfl
          have p1 := hp.map f
          rw [List.map_map, List.map_map] at p1
          have e1 : M.map (f ∘ fun q => V.ref q.1) = M.map asTri := List.map_congr_left fun q hq => fx q (hM q hq)
          have e2 : ks.map (f ∘ fun q => V.ref q.1) = ks.map asTri := List.map_congr_left fun q hq => fx q hq
          rw [e1, e2, ek] at p1
          exact p1
        · refine List.pairwise_map.mpr (List.Pairwise.imp_of_mem (fun {q r} hq hr' z => ?_) (List.pairwise_map.mp hs))
          have k := z _ _ (tup q (hM q hq)) (tup r (hM r hr'))
          rw [(hk q (hM q hq)).2, (hk r (hM r hr')).2] at k
          exact k
      refine q p _ H _ hnone (Ex.refl _) (Ex.new hnone) hnone upd_same ?_
      rw [← em]
      exact rows_w3s hM2
end
/-! ### comprehensions whose parts speak of the block -/
section
variable {X : Cx}
abbrev Blk (α : Type) : Type := Shared → Hp → Addr → List (Str × Addr) → List Addr → α
abbrev Blk.at0 {α : Type} (X : Cx) (f : Blk α) : α := f X.s_0 X.H_0 0 [] []
theorem pe_lcA {elt tg iter : Expr} {ifs : List Expr} {scope : Scope} {own : List (Str × Nat)} {pos : Pos} {wi : TI} {g : Blk TG} {tt : Blk TT} {te : Blk TE} (hc : X.calm = true) (hN : X.N.Nodup) (hi : PI X tg iter wi) (ok : BlkOk X.N X.env.scope scope own)
    (hg : ∀ (s : Shared) (H : Hp) (C : Addr) (cl : List (Str × Addr)) (fp : List Addr), PG (X.blk s H scope (compEnvC scope cl C X.env) fp) tg (g s H C cl fp)) (ht : ∀ (s : Shared) (H : Hp) (C : Addr) (cl : List (Str × Addr)) (fp : List Addr), PTs (X.blk s H scope (compEnvC scope cl C X.env) fp) ifs (tt s H C cl fp))
    (he : ∀ (s : Shared) (H : Hp) (C : Addr) (cl : List (Str × Addr)) (fp : List Addr), PE (X.blk s H scope (compEnvC scope cl C X.env) fp) elt (te s H C cl fp)) (hs : ∀ x, foldedSetIterable iter X.env x = pure x := by intro _; rfl)
    (eg : ∀ s H C cl fp, g s H C cl fp = Blk.at0 X g := by intro _ _ _ _ _; rfl) (et : ∀ s H C cl fp, tt s H C cl fp = Blk.at0 X tt := by intro _ _ _ _ _; rfl) (ee : ∀ s H C cl fp, te s H C cl fp = Blk.at0 X te := by intro _ _ _ _ _; rfl) :
    PE X (.ListComp elt [⟨tg, iter, ifs, 0⟩] scope pos) (tLc wi (Blk.at0 X g) (Blk.at0 X tt) (Blk.at0 X te) (own.map (·.2))) :=
  pe_lc hc hN hi ok (fun s H C cl fp => eg s H C cl fp ▸ hg s H C cl fp) (fun s H C cl fp => et s H C cl fp ▸ ht s H C cl fp) (fun s H C cl fp => ee s H C cl fp ▸ he s H C cl fp) hs
theorem ps_setLcA {i : Nat} {y : Str} {py : Pos} {elt tg iter : Expr} {ifs : List Expr} {scope : Scope} {own : List (Str × Nat)} {pos spos : Pos} {wi : TI} {g : Blk TG} {tt : Blk TT} {te : Blk TE} (hc : X.calm = true) (hN : X.N.Nodup) (hy : X.N[i]? = some y) (hyl : X.env.scope.names.lookup y = some .local)
    (hsw : swapsWith (.ListComp elt [⟨tg, iter, ifs, 0⟩] scope pos) (some (.Name y py)) spos.line X.env = pure true) (hi : PI X tg iter wi) (ok : BlkOk X.N X.env.scope scope own)
    (hg : ∀ (s : Shared) (H : Hp) (C : Addr) (cl : List (Str × Addr)) (fp : List Addr), PG (X.blk s H scope (compEnvC scope cl C X.env) fp) tg (g s H C cl fp)) (ht : ∀ (s : Shared) (H : Hp) (C : Addr) (cl : List (Str × Addr)) (fp : List Addr), PTs (X.blk s H scope (compEnvC scope cl C X.env) fp) ifs (tt s H C cl fp))
    (he : ∀ (s : Shared) (H : Hp) (C : Addr) (cl : List (Str × Addr)) (fp : List Addr), PE (X.blk s H scope (compEnvC scope cl C X.env) fp) elt (te s H C cl fp)) (hs : ∀ x, foldedSetIterable iter X.env x = pure x := by intro _; rfl)
    (eg : ∀ s H C cl fp, g s H C cl fp = Blk.at0 X g := by intro _ _ _ _ _; rfl) (et : ∀ s H C cl fp, tt s H C cl fp = Blk.at0 X tt := by intro _ _ _ _ _; rfl) (ee : ∀ s H C cl fp, te s H C cl fp = Blk.at0 X te := by intro _ _ _ _ _; rfl) :
    PS X (.Assign [.Name y py] (.ListComp elt [⟨tg, iter, ifs, 0⟩] scope pos) spos) (tAsg (tLc wi (Blk.at0 X g) (Blk.at0 X tt) (Blk.at0 X te) (own.map (·.2))) (gName i)) :=
  ps_setLc hc hN hy hyl hsw hi ok (fun s H C cl fp => eg s H C cl fp ▸ hg s H C cl fp) (fun s H C cl fp => et s H C cl fp ▸ ht s H C cl fp) (fun s H C cl fp => ee s H C cl fp ▸ he s H C cl fp) hs
end
end LD
/-! Answers that hold new lists of their own, and what a caller does to these lists. -/
namespace LD
open PySem PySem.Spec L2 Evl LSt
abbrev Part := PyData ⊕ List PyData
def Part.toD : Part → PyData
  | .inl d => d
  | .inr ds => .list ds
/-- a tuple's items: data without lists, or lists that were not there before -/
inductive PsOk (K : PySem.W.Frag) (Hb H : Hp) : List Addr → List V → List Part → Prop
  | nil : PsOk K Hb H [] [] []
  | dat {L : List Addr} {v : V} {vs : List V} {d : PyData} {ps : List Part} : Rp K H v d → lfree d = true → PsOk K Hb H L vs ps → PsOk K Hb H L (v :: vs) (.inl d :: ps)
  | own {L : List Addr} {l : Addr} {xs vs : List V} {ds : List PyData} {ps : List Part} : Hb l = none → H l = some (.lst xs) → RpAll K H xs ds → lfreeAll ds = true → l ∉ L → PsOk K Hb H L vs ps → PsOk K Hb H (l :: L) (.ref l :: vs) (.inr ds :: ps)
section
variable {K : PySem.W.Frag} {Hb Hb0 H H' : Hp} {L : List Addr} {vs : List V} {ps : List Part}
theorem PsOk.rpAll (h : PsOk K Hb H L vs ps) : RpAll K H vs (ps.map Part.toD) := by
  induction h with
  | nil => exact .nil
  | dat r _ _ ih => exact .cons r ih
  | own _ h1 r _ _ _ ih => exact .cons (.lst h1 r) ih
theorem PsOk.mono (e : Ex H H') (h : PsOk K Hb H L vs ps) : PsOk K Hb H' L vs ps := by
  induction h with
  | nil => exact .nil
  | dat r f _ ih => exact .dat (r.mono e) f ih
  | own h0 h1 r f n _ ih => exact .own h0 (e _ _ h1) (r.mono e) f n ih
theorem PsOk.base (e : Ex Hb0 Hb) (h : PsOk K Hb H L vs ps) : PsOk K Hb0 H L vs ps := by
  induction h with
  | nil => exact .nil
  | dat r f _ ih => exact .dat r f ih
  | own h0 h1 r f n _ ih => exact .own (fresh_back e h0) h1 r f n ih
theorem PsOk.keep {l : Addr} {xs : List V} {o : HO} (hl : H l = some (.lst xs)) (h : PsOk K Hb H L vs ps) (n : l ∉ L) : PsOk K Hb (upd H l o) L vs ps := by
  induction h with
  | nil => exact .nil
  | dat r f _ ih => exact .dat (rp_upd hl r f) f (ih n)
  | own h0 h1 r f k _ ih =>
    have n1 : _ ≠ l := fun e => n (by rw [← e]; exact List.mem_cons_self)
    exact .own h0 (by rw [upd_ne n1]; exact h1) (rpAll_upd hl r f) f k (ih fun m => n (List.mem_cons_of_mem _ m))
theorem PsOk.get {j : Nat} {ds : List PyData} (h : PsOk K Hb H L vs ps) (hj : ps[j]? = some (.inr ds)) : ∃ l xs, vs[j]? = some (.ref l) ∧ l ∈ L ∧ Hb l = none ∧ H l = some (.lst xs) ∧ RpAll K H xs ds ∧
    ∀ (y : V) (d : PyData), Rp K H y d → lfree d = true → PsOk K Hb (upd H l (.lst (xs ++ [y]))) L vs (ps.set j (.inr (ds ++ [d]))) := by
  induction h generalizing j with
  | nil => simp at hj
  | dat r f k ih =>
    cases j with
    | zero => simp at hj
    | succ j =>
      obtain ⟨l, xs, h1, h2, h3, h4, h5, h6⟩ := ih (j := j) (by simpa using hj)
      exact ⟨l, xs, by simpa using h1, h2, h3, h4, h5, fun y d ry fd => .dat (rp_upd h4 r f) f (h6 y d ry fd)⟩
  | own h0 h1 r f n k ih =>
    cases j with
    | zero =>
      simp at hj
      subst hj
      refine ⟨_, _, rfl, List.mem_cons_self, h0, h1, r, fun y d ry fd => ?_⟩
      refine .own h0 upd_same (RpAll.append (rpAll_upd h1 r f) (.cons (rp_upd h1 ry fd) .nil)) ?_ n (k.keep h1 n)
      rw [lfreeAll_app, f, Bool.true_and]
      show (lfree d && true) = true
      rw [fd]; rfl
    | succ j =>
      obtain ⟨l, xs, g1, g2, g3, g4, g5, g6⟩ := ih (j := j) (by simpa using hj)
      refine ⟨l, xs, by simpa using g1, List.mem_cons_of_mem _ g2, g3, g4, g5, fun y d ry fd => ?_⟩
      have n1 : ∀ z, z ∉ _ → z ≠ l := fun z hz e => hz (e ▸ g2)
      exact .own h0 (by rw [upd_ne (n1 _ n)]; exact h1) (rpAll_upd g4 r f) f n (g6 y d ry fd)
end
/-- the items of a tuple that is built -/
def EvPX (K : PySem.W.Frag) (ta : TA) (env : SE) (o : Bool) (ps : List Part) : Prop := ∀ Hb σ H, StD K Hb H σ env → ∀ H1, Ex H H1 → ∀ Q : List V → Hp → Prop, (∀ L vs H2, Ex H1 H2 → PsOk K Hb H2 L vs ps → (∀ l ∈ L, (o = true ∧ ownAt σ env l) ∨ H1 l = none) → Q vs H2) → ta σ H1 Q
section
variable {K : PySem.W.Frag} {env : SE} {te : TE} {tr : TA} {d : PyData} {ds : List PyData} {ps : List Part} {o : Bool} {t u w : TS} {tt : TT} {out : Out}
theorem ep_nil : EvPX K tNil env false [] := fun Hb σ H s H1 e1 Q q => q [] [] H1 (Ex.refl _) .nil fun l hl => by simp at hl
theorem ep_dat (h : EvX K te env d) (f : lfree d = true) (r : EvPX K tr env o ps) : EvPX K (tCons te tr) env o (.inl d :: ps) := fun Hb σ H s H1 e1 Q q =>
  h Hb σ H s H1 e1 _ fun x H2 e2 rx => r Hb σ H s H2 (e1.trans e2) _ fun L vs H3 e3 k hL => q L _ H3 (e2.trans e3) (.dat (rx.mono e3) f k) fun l hl => (hL l hl).imp id fun z => fresh_back e2 z
theorem ep_new (h : EvFX K te env ds) (f : lfreeAll ds = true) (r : EvPX K tr env o ps) : EvPX K (tCons te tr) env o (.inr ds :: ps) := fun Hb σ H s H1 e1 Q q =>
  h Hb σ H s H1 e1 _ fun p xs Hm H2 hp e2 e3 hm h2 rx => r Hb σ H s H2 ((e1.trans e2).trans e3) _ fun L vs H3 e4 k hL => by
    refine q (p :: L) _ H3 ((e2.trans e3).trans e4) (.own (fresh_back (s.bot.trans e1) hp) (e4 _ _ h2) (rx.mono (e3.trans e4)) f ?_ k) fun l hl => ?_
    · intro m
      rcases hL p m with ⟨_, z⟩ | z
      · obtain ⟨H0, s0⟩ := s
        obtain ⟨_, ys, hy⟩ := s0.own_none z
        have := e1 _ _ hy
        rw [hp] at this
        cases this
      · rw [h2] at z; cases z
    · rcases List.mem_cons.mp hl with e | m
      · subst e; exact .inr hp
      · exact (hL l m).imp id fun z => fresh_back (e2.trans e3) z
theorem ep_own {i : Nat} (h : env[i]? = some (.own ds)) (f : lfreeAll ds = true) (r : EvPX K tr env false ps) : EvPX K (tCons (tVar i) tr) env true (.inr ds :: ps) := fun Hb σ H s H1 e1 Q q => by
  obtain ⟨H0, s0⟩ := id s
  obtain ⟨l, xs, hv, hx, hn, hl, rx⟩ := own_slot s0 h
  refine ⟨.ref l, hv, r Hb σ H s H1 e1 _ fun L vs H3 e4 k hL => q (l :: L) _ H3 e4 (.own (fresh_back s0.base hn) (e4 _ _ (e1 _ _ hl)) ((rx.mono s0.up).mono (e1.trans e4)) f ?_ k) fun m hm => ?_⟩
  · intro m
    rcases hL l m with ⟨z, _⟩ | z
    · cases z
    · rw [e1 _ _ hl] at z; cases z
  · rcases List.mem_cons.mp hm with e | m'
    · subst e
      exact .inl ⟨rfl, i, ds, h, hx⟩
    · rcases hL m m' with ⟨z, _⟩ | z
      · cases z
      · exact .inr z
/-- an answer: a tuple of such items -/
def RT (K : PySem.W.Frag) (ps : List Part) : Hp → V → Hp → Prop := fun Hm v H => ∃ t L vs, v = .ref t ∧ H t = some (.tup vs) ∧ PsOk K Hm H L vs ps
theorem RT.rp {Hm H : Hp} {v : V} (h : RT K ps Hm v H) : Rp K H v (.tuple (ps.map Part.toD)) := by
  obtain ⟨t, L, vs, rfl, h1, h2⟩ := h
  exact .tup h1 h2.rpAll
theorem rx_retT (h : EvPX K tr env o ps) (hl : ps.length ≤ 100000) : RunX K (tRet (tTup tr)) env (.rq (RT K ps)) := fun Hb σ H D s g =>
  h Hb σ H s H (Ex.refl _) _ fun L vs H2 e2 k _ => by
    have e := k.rpAll.length
    rw [List.length_map] at e
    exact ⟨sz_of (by rw [e]; exact hl), fun p hp => g Hb _ _ (Ex.refl _) ((s.bot.trans e2).trans (Ex.new hp)) ⟨p, L, vs, rfl, upd_same, k.mono (Ex.new hp)⟩⟩
/-- the caller's frame: slot i holds the answer, its lists are the caller's own -/
def MutS (K : PySem.W.Frag) (Hb : Hp) (env : SE) (i : Nat) (ps : List Part) (σ : St) (H : Hp) : Prop := ∃ Hp t L vs, StD K Hb Hp σ env ∧ Ex Hp H ∧ σ[i]? = some (some (.ref t)) ∧ H t = some (.tup vs) ∧ PsOk K Hp H L vs ps
def RunM (K : PySem.W.Frag) (u : TS) (env : SE) (i : Nat) (ps : List Part) (out : Out) : Prop := ∀ Hb σ H D, MutS K Hb env i ps σ H → Good K Hb D out → u D σ H
theorem MutS.grow {Hb H H' : Hp} {i : Nat} {σ : St} (e : Ex H H') (h : MutS K Hb env i ps σ H) : MutS K Hb env i ps σ H' := by
  obtain ⟨Hp, t, L, vs, h1, h2, h3, h4, h5⟩ := h
  exact ⟨Hp, t, L, vs, h1, h2.trans e, h3, e _ _ h4, h5.mono e⟩
theorem MutS.dat {Hb H : Hp} {i : Nat} {σ : St} (no : noOwn env = true) (h : MutS K Hb env i ps σ H) : StD K Hb H σ (env.set i (.dat (.tuple (ps.map Part.toD)))) := by
  obtain ⟨Hp, t, L, vs, ⟨H0, s⟩, h2, h3, h4, h5⟩ := h
  refine ⟨H, (s.base.trans s.up).trans h2, Ex.refl _, by rw [List.length_set]; exact s.len, fun j sl hj => ?_⟩
  by_cases e : i = j
  · subst e
    have hl : i < env.length := by
      rw [← s.len]
      exact (List.getElem?_eq_some_iff.mp h3).1
    rw [List.getElem?_set_self hl] at hj
    cases hj
    exact ⟨.ref t, by rw [h3]; rfl, .tup h4 h5.rpAll⟩
  · rw [List.getElem?_set_ne e] at hj
    have q := s.at_ j sl hj
    cases sl with
    | no => trivial
    | dat d =>
      obtain ⟨x, q1, q2⟩ := q
      exact ⟨x, q1, q2.mono (s.up.trans h2)⟩
    | own ds =>
      exfalso
      unfold noOwn at no
      rw [List.all_eq_true] at no
      have := no _ (List.mem_of_getElem? hj)
      simp [Sl.isOwn] at this
theorem rx_asgM {i : Nat} (h : EvRX K te env (RT K ps)) (hi : i < env.length) (k : RunM K u (env.set i .no) i ps out) : RunX K (tSeq (tAsg te (gName i)) u) env out := fun Hb σ H D s g =>
  h Hb σ H s _ fun Hm v H' e1 e2 r => by
    obtain ⟨t, L, vs, rfl, ht, pk⟩ := r
    refine k Hb (σ.set i (some (.ref t))) H' D ⟨H, t, L, vs, ?_, e1.trans e2, ?_, ht, pk.base e1⟩ g
    · obtain ⟨H0, s0⟩ := s
      exact ⟨H0, s0.forget⟩
    · obtain ⟨H0, s0⟩ := s
      rw [List.getElem?_set_self (by rw [s0.len]; exact hi)]
theorem rm_ifS {i : Nat} {b : Bool} (no : noOwn env = true) (h : EvTX K tt (env.set i (.dat (.tuple (ps.map Part.toD)))) b) (h1 : b = true → RunM K (tSeq t w) env i ps out) (h2 : b = false → RunM K (tSeq u w) env i ps out) : RunM K (tSeq (tIfS tt t u) w) env i ps out := fun Hb σ H D s g =>
  h Hb σ H (s.dat no) H (Ex.refl H) _ fun H1 e => by
    cases b with
    | true =>
      show tSeq t w D σ H1
      exact h1 rfl Hb σ H1 D (s.grow e) g
    | false =>
      show tSeq u w D σ H1
      exact h2 rfl Hb σ H1 D (s.grow e) g
theorem rm_nextS {i : Nat} (h : RunM K w env i ps out) : RunM K (tSeq tNext w) env i ps out := h
theorem rm_drop {i : Nat} (h : RunX K u env out) : RunM K u env i ps out := fun Hb σ H D s g => by
  obtain ⟨Hp, t, L, vs, h1, h2, _⟩ := s
  exact h Hb σ H D (h1.grow h2) g
theorem rm_dat {i : Nat} (no : noOwn env = true) (h : RunX K u (env.set i (.dat (.tuple (ps.map Part.toD)))) out) : RunM K u env i ps out := fun Hb σ H D s g => h Hb σ H D (s.dat no) g
theorem rm_app {i j : Nat} (hj : ps[j]? = some (.inr ds)) (no : noOwn env = true) (he : EvX K te (env.set i (.dat (.tuple (ps.map Part.toD)))) d) (hd : lfree d = true) (hz : ds.length < 100000) (k : RunM K u env i (ps.set j (.inr (ds ++ [d]))) out) :
    RunM K (tSeq (tDrop (tBM K "list" rAppend (tOp (rIx K) (tVar i) (tC (.int (j : Nat)))) (tCons te tNil))) u) env i ps out := fun Hb σ H D s g => by
  obtain ⟨Hp, t, L, vs, h1, h2, h3, h4, h5⟩ := id s
  obtain ⟨l, xs, g1, g2, g3, g4, g5, _⟩ := h5.get hj
  refine ⟨.ref t, h3, ?_⟩
  refine .inr (.inl ⟨t, vs, (j : Nat), .ref l, rfl, rfl, .inl (.inl h4), atI_nat g1, ?_⟩)
  refine ⟨.inl ⟨rfl, xs, .inl (.inl g4)⟩, he Hb σ H (s.dat no) H (Ex.refl H) _ fun y H1 e ry => ?_⟩
  obtain ⟨l', xs', k1, k2, k3, k4, k5, k6⟩ := (h5.mono e).get hj
  rw [g1] at k1
  cases k1
  refine ⟨l, xs', y, rfl, rfl, k4, sz_lt (by rw [k5.length]; exact hz), k Hb σ _ D ⟨Hp, t, L, vs, h1, Ex.mut (h2.trans e) g3, h3, ?_, k6 y d ry hd⟩ g⟩
  rw [upd_ne]
  · exact e _ _ h4
  · intro z
    subst z
    rw [h4] at g4
    cases g4
end
section
variable {K : PySem.W.Frag} {env : SE} {te tl : TE} {tt : TT} {ds es : List PyData} {t u : TS} {out : Out}
/-- [elt for target in tuple if ..] -/
theorem xf_lcT {α : Type} {g : TG} {vs : List Nat} (items : List α) (inj : α → PyData) (f : α → Bool) (h : α → PyData) (envb : α → SE) (hl : EvX K tl env (.tuple (items.map inj))) (no : noOwn env = true) (hz : items.length < 100000)
    (hg : ∀ a ∈ items, CgX K g vs (wipeE env vs) (inj a) (envb a)) (ht : ∀ a ∈ items, EvTX K tt (envb a) (f a)) (he : ∀ a ∈ items, f a = true → EvX K te (envb a) (h a)) (hf : ∀ a ∈ items, f a = true → lfree (h a) = true) :
    EvFX K (tLc (iTup K tl) g tt te vs) env (lcRes f h items) := fun Hb σ H s H1 e1 Q q =>
  hl Hb σ H s H1 e1 _ fun v H2 e2 r => by
    have sg := ((s.grow e1).grow e2).widen
    obtain ⟨a, xs, rfl, ha, ra⟩ := (rp_ground sg r (by rw [no, Bool.true_or])).tup_inv
    have eg : Ex (cutH H2 (ownAt σ env)) H2 := cutH_ex
    have ge : cutH H2 (ownAt σ env) = H2 := by
      funext b
      exact cutH_out (noOwn_not no)
    rw [ge] at sg ha ra
    refine ⟨a, rfl, ⟨xs, .inl (.inl ha)⟩, fun Dl hD => ?_⟩
    refine lc_tup (xs := xs) (fun i H' => Ex H2 H' ∧ ∃ ys, H' Dl = some (.lst ys) ∧ RpAll K H' ys (lcRes f h (items.take i))) ⟨Ex.new hD, [], upd_same, .nil⟩ ?_ ?_ ?_
    · rintro i H' _ ⟨e, _⟩
      exact .inl (.inl (e _ _ ha))
    · rintro i x H' hi ⟨e, hacc⟩
      obtain ⟨d, hd, rd⟩ := ra.getV hi
      rw [List.getElem?_map] at hd
      cases ka : items[i]? with
      | none => rw [ka] at hd; cases hd
      | some b =>
        rw [ka] at hd
        cases hd
        have hb : b ∈ items := List.mem_of_getElem? ka
        have es : lcRes f h (items.take (i + 1)) = lcRes f h (items.take i) ++ if f b = true then [h b] else [] := by rw [take_snoc ka, lcRes_snoc]
        rw [es]
        refine lc_turn (items := items) (i := i) sg e hD hacc (lfree_lcRes fun c hc => hf c (List.mem_of_mem_take hc)) ?_ no rd (hg b hb) (ht b hb) (he b hb) (hf b hb) (fun acc H' => Ex H2 H' ∧ ∃ ys, H' Dl = some (.lst ys) ∧ RpAll K H' ys acc) fun H3 e3 h3 => ⟨e3, h3⟩
        refine Nat.lt_of_le_of_lt (Nat.le_trans (lcRes_len f h _) ?_) hz
        rw [List.length_take]
        omega
    · rintro H' ⟨e, ys, hy, ry⟩
      have hx := ra.length
      rw [List.length_map] at hx
      rw [hx, List.take_length] at ry
      refine q Dl ys (cutH H' fun b => b = Dl) H' (fresh_back e2 hD) ?_ cutH_ex (cutH_in rfl) hy ?_
      · intro b o hb
        rw [cutH_out]
        · exact e _ _ (e2 _ _ hb)
        · intro k
          subst k
          rw [e2 _ _ hb] at hD
          cases hD
      · refine ry.cut (fun b zs hb => ?_) (lfree_lcRes hf)
        rw [cutH_out]
        · exact hb
        · intro k
          subst k
          rw [hy] at hb
          cases hb
/-- the frame's own list as data: it grows no more -/
theorem rx_settle {i : Nat} (h : env[i]? = some (.own ds)) (one : noOwn (env.set i .no) = true) (k : RunX K t (env.set i (.dat (.list ds))) out) : RunX K t env out := fun Hb σ H D s g => by
  refine k Hb σ H D ?_ g
  obtain ⟨H0, s0⟩ := s
  refine ⟨H, s0.base.trans s0.up, Ex.refl _, by rw [List.length_set]; exact s0.len, fun j sl hj => ?_⟩
  by_cases e : i = j
  · subst e
    have hl : i < env.length := (List.getElem?_eq_some_iff.mp h).1
    rw [List.getElem?_set_self hl] at hj
    cases hj
    obtain ⟨l, xs, hx, hn, h1, r⟩ := s0.at_ i _ h
    exact ⟨.ref l, hx, .lst h1 (r.mono s0.up)⟩
  · rw [List.getElem?_set_ne e] at hj
    have q := s0.at_ j sl hj
    cases sl with
    | no => trivial
    | dat d =>
      obtain ⟨x, q1, q2⟩ := q
      exact ⟨x, q1, q2.mono s0.up⟩
    | own ds =>
      exfalso
      unfold noOwn at one
      rw [List.all_eq_true] at one
      have := one (.own ds) (List.mem_of_getElem? (i := j) (by rw [List.getElem?_set_ne e]; exact hj))
      simp [Sl.isOwn] at this
/-- a statement that leaves something of which only a property counts -/
theorem rx_seqE {α : Type} {P : α → Prop} {e : α → SE} (h : ∃ a, P a ∧ RunX K t env (.nx (e a))) (k : ∀ a, P a → RunX K u (e a) out) : RunX K (tSeq t u) env out := by
  obtain ⟨a, h1, h2⟩ := h
  exact rx_seq h2 (k a h1)
/-- a list of ints, or the script -/
def SeqI (ns : List Int) (d : PyData) : Prop := d = scrD ns ∨ d = .list (ns.map .int)
theorem ex_ixI {ta tb : TE} {d : PyData} {ns : List Int} {i n : Int} (hs : SeqI ns d) (ha : EvX K ta env d) (hb : EvX K tb env (.int i)) (h : atI ns i = some n) : EvX K (tOp (rIx K) ta tb) env (.int n) := by
  rcases hs with e | e
  · subst e
    exact ex_ixScr ha hb h
  · subst e
    refine ex_ixL ha hb ?_
    unfold atI at *
    rw [List.length_map]
    cases k : ixN ns.length i with
    | none => rw [k] at h; cases h
    | some j =>
      rw [k] at h
      show (ns.map PyData.int)[j]? = _
      rw [List.getElem?_map]
      have h' : ns[j]? = some n := h
      rw [h']
      rfl
theorem ex_lenI {d : PyData} {ns : List Int} (hs : SeqI ns d) (ha : EvX K te env d) : EvX K (tCB (fun xs H Q => ∃ x n, xs = [x] ∧ LenV K x H n ∧ Q (.int n) H) (tCons te tNil)) env (.int ns.length) := by
  rcases hs with e | e
  · subst e
    refine ex_len ha ?_
    unfold scrD lenD
    simp
  · subst e
    refine ex_len ha ?_
    unfold lenD
    simp
/-- xs.insert(j, e), xs the frame's one own list -/
theorem rx_ins {i : Nat} {j : Int} {d : PyData} {ti : TE} (h : env[i]? = some (.own ds)) (hi : EvX K ti env (.int j)) (he : EvX K te env d) (hj : 0 ≤ j ∧ j < 1000000) (hd : lfree d = true) (hz : ds.length < 100000) (one : noOwn (env.set i .no) = true) :
    RunX K (tDrop (tBM K "list" (fun x vs H Q => ∃ (l : Addr) (xs : List V) (i : Int) (y : V), x = .ref l ∧ vs = [.int i, y] ∧ H l = some (.lst xs) ∧ xs.length < sizeLine ∧ 0 ≤ i ∧ i < 2 ^ 63 ∧ Q .non (upd H l (.lst (xs.take i.toNat ++ [y] ++ xs.drop i.toNat)))) (tVar i) (tCons ti (tCons te tNil)))) env (.nx (env.set i (.own (ds.take j.toNat ++ [d] ++ ds.drop j.toNat)))) := fun Hb σ H D s g => by
  have s0 := s.widen
  obtain ⟨l, xs, hv, hx, hn, hl, r⟩ := own_slot s0 h
  refine ⟨.ref l, hv, .inl ⟨rfl, xs, .inl (.inl hl)⟩, hi Hb σ H s H (Ex.refl H) _ fun w H0 e0 rw => he Hb σ H s H0 e0 _ fun v H1 e rv => ?_⟩
  have s1 := (s.grow (e0.trans e)).widen
  obtain ⟨l', xs', hv', hx', hn', hl', r'⟩ := own_slot s1 h
  rw [hv] at hv'
  cases hv'
  rw [rw.int_inv]
  refine ⟨l, xs', j, v, rfl, rfl, hl', sz_lt (by rw [r'.length]; exact hz), hj.1, by omega, g _ _ ⟨_, s1.store hx hn' ?_ one (((r'.take j.toNat).append (.cons (rp_ground s1 rv (by rw [hd, Bool.or_true])) .nil)).append (r'.drop j.toNat))⟩⟩
  exact (List.getElem?_eq_some_iff.mp h).1
theorem StD.settle {Hb H : Hp} {σ : St} {i : Nat} (h : env[i]? = some (.own ds)) (one : noOwn (env.set i .no) = true) (s : StD K Hb H σ env) : StD K Hb H σ (env.set i (.dat (.list ds))) := by
  obtain ⟨H0, s0⟩ := s
  refine ⟨H, s0.base.trans s0.up, Ex.refl _, by rw [List.length_set]; exact s0.len, fun j sl hj => ?_⟩
  by_cases e : i = j
  · subst e
    have hl : i < env.length := (List.getElem?_eq_some_iff.mp h).1
    rw [List.getElem?_set_self hl] at hj
    cases hj
    obtain ⟨l, xs, hx, hn, h1, r⟩ := s0.at_ i _ h
    exact ⟨.ref l, hx, .lst h1 (r.mono s0.up)⟩
  · rw [List.getElem?_set_ne e] at hj
    have q := s0.at_ j sl hj
    cases sl with
    | no => trivial
    | dat d =>
      obtain ⟨x, q1, q2⟩ := q
      exact ⟨x, q1, q2.mono s0.up⟩
    | own ds =>
      exfalso
      unfold noOwn at one
      rw [List.all_eq_true] at one
      have := one (.own ds) (List.mem_of_getElem? (i := j) (by rw [List.getElem?_set_ne e]; exact hj))
      simp [Sl.isOwn] at this
/-- a value reckoned beside the frame's own list -/
theorem ex_settle {i : Nat} {d : PyData} (h : env[i]? = some (.own ds)) (one : noOwn (env.set i .no) = true) (k : EvX K te (env.set i (.dat (.list ds))) d) : EvX K te env d := fun Hb σ H s => k Hb σ H (s.settle h one)
theorem xf_settle {i : Nat} (h : env[i]? = some (.own ds)) (one : noOwn (env.set i .no) = true) (k : EvFX K te (env.set i (.dat (.list ds))) es) : EvFX K te env es := fun Hb σ H s => k Hb σ H (s.settle h one)
/-- a new list as data, beside the frame's own list -/
theorem rx_asgN {i : Nat} (h : EvFX K te env es) (f : lfreeAll es = true) : RunX K (tAsg te (gName i)) env (.nx (env.set i (.dat (.list es)))) := fun Hb σ H D s g =>
  h Hb σ H s H (Ex.refl H) _ fun p xs Hm H1 hp e1 e2 hm h1 r => by
    have sg := ((s.grow e1).grow e2).widen
    refine g _ H1 ⟨_, sg.set (s := .dat (.list es)) ⟨.ref p, rfl, .lst ?_ (rpAll_ground sg (r.mono e2) (by rw [f, Bool.or_true]))⟩⟩
    rw [cutH_out]
    · exact h1
    · intro q
      obtain ⟨H0, s0⟩ := s
      obtain ⟨_, ys, hy⟩ := s0.own_none q
      rw [hp] at hy
      cases hy
/-- an answer: none, or a tuple of such items -/
def RO (K : PySem.W.Frag) : Option (List Part) → Hp → V → Hp → Prop
  | none => fun _ v _ => v = .non
  | some ps => RT K ps
abbrev outR (K : PySem.W.Frag) (o : Option (List Part)) (e : SE) : Out := match o with
  | some ps => .rq (RT K ps)
  | none => .nx e
/-- found = ..; if found is not None: return found -/
theorem rx_foundR {i : Nat} {o : Option (List Part)} (h : EvRX K te env (RO K o)) (hi : i < env.length) :
    RunX K (tSeq (tAsg te (gName i)) (tIfS (tTest (tOp (fun x y H Q => y = .non ∧ Q (.bl (!decide (x = .non))) H) (tVar i) (tC .non))) (tRet (tVar i)) tNext)) env (outR K o (env.set i .no)) := fun Hb σ H D s g =>
  h Hb σ H s _ fun Hm v H' e1 e2 r => by
    have hs : (σ.set i (some v))[i]? = some (some v) := by
      obtain ⟨H0, s0⟩ := s
      rw [List.getElem?_set_self (by rw [s0.len]; exact hi)]
    cases o with
    | none =>
      have hv : v = .non := r
      subst hv
      refine ⟨.non, hs, rfl, false, rfl, g _ _ ?_⟩
      obtain ⟨H0, s0⟩ := s.grow (e1.trans e2)
      exact ⟨H0, s0.forget⟩
    | some ps =>
      obtain ⟨t, L, vs, rfl, ht, pk⟩ := r
      refine ⟨.ref t, hs, rfl, true, rfl, .ref t, hs, g Hb _ _ (Ex.refl _) ((s.bot.trans e1).trans e2) ⟨t, L, vs, rfl, ht, pk.base (s.bot.trans e1)⟩⟩
theorem fr_findR {α : Type} {g : TG} {tb : TS} (inj : α → PyData) (f : α → Option (List Part)) (env : SE) (items : List α)
    (h : ∀ a ∈ items, ∃ e1, TgX K g env (inj a) e1 ∧ RunX K tb e1 (outR K (f a) env)) : Fr K g tb (items.map inj) env (outR K (items.findSome? f) env) := by
  induction items with
  | nil => exact .done
  | cons a items ih =>
    obtain ⟨e1, h1, h2⟩ := h a (by simp)
    rw [List.findSome?_cons]
    cases k : f a with
    | some d =>
      rw [k] at h2
      exact .rq h1 h2
    | none =>
      rw [k] at h2
      exact .turn h1 h2 (ih fun b hb => h b (List.mem_cons_of_mem _ hb))
theorem rx_postR {e e' : SE} {o : Option (List Part)} (h : RunX K t env (outR K o e)) (k : ∀ Hb H σ, StD K Hb H σ e → StD K Hb H σ e') : RunX K t env (outR K o e') := by
  cases o with
  | none => exact fun Hb σ H D s g => h Hb σ H D s fun σ' H' s' => g σ' H' (k _ _ _ s')
  | some d => exact h
/-- a search, then what stands behind it -/
theorem rx_findR {e : SE} {o : Option (List Part)} (h : RunX K t env (outR K o e)) (h1 : ∀ ps, o = some ps → out = .rq (RT K ps)) (h2 : o = none → RunX K u e out) : RunX K (tSeq t u) env out := by
  cases o with
  | some d =>
    rw [h1 d rfl]
    exact rx_end h rfl
  | none => exact rx_seq h (h2 rfl)
/-- y = [..]; return (text, data, x, y): x and y the frame's own lists -/
theorem rx_two {i j : Nat} {x : Str} {t1 : TE} {d : PyData} (h : env[i]? = some (.own ds)) (f : lfreeAll ds = true) (hij : i ≠ j) (hj : j < env.length) (h2 : EvFX K te env es) (f2 : lfreeAll es = true) (h1 : EvX K t1 (env.set j .no) d) (f1 : lfree d = true) :
    RunX K (tSeq (tAsg te (gName j)) (tRet (tTup (tCons (tC (.str x)) (tCons t1 (tCons (tVar i) (tCons (tVar j) tNil))))))) env (.rq (RT K [.inl (.str x), .inl d, .inr ds, .inr es])) := fun Hb σ H D s g =>
  h2 Hb σ H s H (Ex.refl H) _ fun p xs Hm H1 hp e1 e2 hm hx rx => by
    obtain ⟨H0, s0⟩ := id s
    obtain ⟨l, ys, hv, hvj, hn, hl, ry⟩ := own_slot s0 h
    have hi' : (σ.set j (some (.ref p)))[i]? = some (some (.ref l)) := by rw [List.getElem?_set_ne (Ne.symm hij)]; exact hv
    have hj' : (σ.set j (some (.ref p)))[j]? = some (some (.ref p)) := by rw [List.getElem?_set_self (by rw [s0.len]; exact hj)]
    have st : StD K Hb H1 (σ.set j (some (.ref p))) (env.set j .no) := by
      obtain ⟨H0', s1⟩ := s.grow (e1.trans e2)
      exact ⟨H0', s1.forget⟩
    refine h1 Hb _ H1 st H1 (Ex.refl _) _ fun v H2 e3 rv => ?_
    refine ⟨.ref l, hi', .ref p, hj', sz_of (by simp), fun q hq => ?_⟩
    have e4 : Ex H (upd H2 q (.tup [.str x, v, .ref l, .ref p])) := ((e1.trans e2).trans e3).trans (Ex.new hq)
    have e5 : Ex H1 (upd H2 q (.tup [.str x, v, .ref l, .ref p])) := e3.trans (Ex.new hq)
    refine g Hb _ _ (Ex.refl _) (s.bot.trans e4) ⟨q, [l, p], _, rfl, upd_same, ?_⟩
    refine .dat (.str x) rfl (.dat (rv.mono (Ex.new hq)) f1 (.own (fresh_back s0.base hn) (e4 _ _ hl) ((ry.mono s0.up).mono e4) f ?_ (.own (fresh_back s.bot hp) (e5 _ _ hx) (rx.mono (e2.trans e5)) f2 (by simp) .nil)))
    intro m
    rw [List.mem_singleton.mp m, hp] at hl
    cases hl
end
end LD
namespace LD
open PySem PySem.Spec L2 Evl LSt
theorem rm_assoc {K : PySem.W.Frag} {env : SE} {t u w : TS} {i : Nat} {ps : List Part} {out : Out} (h : RunM K (tSeq t (tSeq u w)) env i ps out) : RunM K (tSeq (tSeq t u) w) env i ps out := h
theorem rx_assocL {K : PySem.W.Frag} {env : SE} {t u w : TS} {out : Out} (h : RunX K (tSeq t (tSeq u w)) env out) : RunX K (tSeq (tSeq t u) w) env out := h
end LD
namespace LD
open PySem PySem.Spec L2 Evl LSt
/-- t[lo:hi] of a tuple, not the whole of it -/
theorem ex_slT {K : PySem.W.Frag} {env : SE} {te : TE} {ds : List PyData} {tl th : TO} {lo hi : Option Int} (h : EvX K te env (.tuple ds)) (h1 : EvOX K tl env lo) (h2 : EvOX K th env hi) (hn : ¬ (HT.sIx ds.length 0 lo = 0 ∧ HT.sIx ds.length ds.length hi = ds.length)) : EvX K (tSl (rSlT K) te tl th) env (.tuple (cutD ds lo hi)) := fun Hb σ H s H1 e1 Q q =>
  h Hb σ H s H1 e1 _ fun v H2 e2 r => h1 Hb σ H s H2 (e1.trans e2) _ fun H3 e3 => h2 Hb σ H s H3 ((e1.trans e2).trans e3) _ fun H4 e4 => by
    obtain ⟨a, xs, rfl, hv, rx⟩ := r.tup_inv
    have hv4 := e4 _ _ (e3 _ _ hv)
    refine ⟨a, xs, rfl, .inl (.inl hv4), by rw [rx.length]; exact hn, fun p hp => q _ _ (((e2.trans e3).trans e4).trans (Ex.new hp)) (.tup upd_same ?_)⟩
    have r4 := (rx.mono (e3.trans e4)).mono (Ex.new (o := .tup (cutV xs lo hi)) hp)
    have hl := rx.length
    unfold cutD
    rw [← hl]
    exact (r4.drop _).take _
end LD
/-! A loop over a literal list of lists of ints, each the turn's own. -/
namespace LD
open PySem PySem.Spec L2 Evl LSt
inductive LitOk (H : Hp) : List Addr → List (List Int) → Prop
  | nil : LitOk H [] []
  | cons {l : Addr} {ls : List Addr} {ns : List Int} {lits : List (List Int)} : H l = some (.lst (ns.map V.int)) → LitOk H ls lits → LitOk H (l :: ls) (ns :: lits)
theorem LitOk.mono {H H' : Hp} (e : Ex H H') {ls : List Addr} {lits : List (List Int)} (h : LitOk H ls lits) : LitOk H' ls lits := by
  induction h with
  | nil => exact .nil
  | cons h _ ih => exact .cons (e _ _ h) ih
theorem LitOk.length {H : Hp} {ls : List Addr} {lits : List (List Int)} (h : LitOk H ls lits) : ls.length = lits.length := by
  induction h with
  | nil => rfl
  | cons _ _ ih => rw [List.length_cons, List.length_cons, ih]
theorem LitOk.get {H : Hp} {ls : List Addr} {lits : List (List Int)} (h : LitOk H ls lits) : ∀ {k : Nat} {l : Addr}, ls[k]? = some l → ∃ ns, lits[k]? = some ns ∧ H l = some (.lst (ns.map V.int)) := by
  induction h with
  | nil => intro k l h; simp at h
  | cons h _ ih =>
    intro k l hk
    cases k with
    | zero =>
      simp at hk
      subst hk
      exact ⟨_, rfl, h⟩
    | succ k =>
      obtain ⟨ns, h1, h2⟩ := ih (k := k) (by simpa using hk)
      exact ⟨ns, by simpa using h1, h2⟩
theorem LitOk.cut {H : Hp} {l : Addr} {ls : List Addr} {lits : List (List Int)} (h : LitOk H ls lits) (n : ∀ l' ∈ ls, l' ≠ l) : LitOk (cutH H fun b => b = l) ls lits := by
  induction h with
  | nil => exact .nil
  | cons h _ ih =>
    refine .cons ?_ (ih fun l' hl' => n l' (List.mem_cons_of_mem _ hl'))
    rw [cutH_out (L := fun b => b = l) (n _ List.mem_cons_self)]
    exact h
def EvLL (K : PySem.W.Frag) (ta : TA) (env : SE) (lits : List (List Int)) : Prop := ∀ Hb σ H, StD K Hb H σ env → ∀ H1, Ex H H1 → ∀ Q : List V → Hp → Prop, (∀ ls H2, Ex H1 H2 → ls.Nodup → (∀ l ∈ ls, H1 l = none) → LitOk H2 ls lits → Q (ls.map V.ref) H2) → ta σ H1 Q
section
variable {K : PySem.W.Frag} {env : SE} {te : TE} {tr ta : TA} {tb : TS} {lits : List (List Int)} {ns : List Int}
theorem el_nil : EvLL K tNil env [] := fun Hb σ H s H1 e1 Q q => q [] H1 (Ex.refl _) List.nodup_nil (fun l hl => by simp at hl) .nil
theorem el_cons (h : EvFX K te env (ns.map PyData.int)) (r : EvLL K tr env lits) : EvLL K (tCons te tr) env (ns :: lits) := fun Hb σ H s H1 e1 Q q =>
  h Hb σ H s H1 e1 _ fun p xs Hm H2 hp e2 e3 hm h2 rx => r Hb σ H s H2 ((e1.trans e2).trans e3) _ fun ls H3 e4 nd fr ok => by
    rw [rx.ints] at h2
    refine q (p :: ls) H3 ((e2.trans e3).trans e4) (List.nodup_cons.mpr ⟨fun m => ?_, nd⟩) (fun l hl => ?_) (.cons (e4 _ _ h2) ok)
    · have := fr p m
      rw [h2] at this
      cases this
    · rcases List.mem_cons.mp hl with e | m
      · rw [e]; exact hp
      · exact fresh_back (e2.trans e3) (fr l m)
/-- points stand without a list that holds ints -/
theorem rp_pts_cut {H : Hp} {v : V} {ps : List (Int × Int)} {l : Addr} {ns : List Int} (hl : H l = some (.lst (ns.map V.int))) (hn : ns ≠ []) (r : Rp K H v (ptsD ps)) : Rp K (cutH H fun b => b = l) v (ptsD ps) := by
  obtain ⟨a, xs, rfl, ha, rx⟩ := r.lst_inv
  have tup : ∀ a xs, H a = some (.tup xs) → cutH H (fun b => b = l) a = some (.tup xs) := fun b ys hb => by
    rw [cutH_out]
    · exact hb
    · intro e
      rw [e, hl] at hb
      cases hb
  refine .lst (a := a) (xs := xs) ?_ (rx.cut tup (lfree_pts ps))
  rw [cutH_out]
  · exact ha
  · intro e
    rw [e, hl] at ha
    cases ns with
    | nil => exact hn rfl
    | cons n ns =>
      have hx : xs = V.int n :: ns.map V.int := by
        injection ha with ha
        injection ha with ha
        exact ha.symm
      subst hx
      cases ps with
      | nil => cases rx
      | cons p ps =>
        cases rx with
        | cons r _ =>
          obtain ⟨b, hb, _⟩ := Rp.pt r
          cases hb
/-- a frame of points alone -/
def ptsOnly (env : SE) : Prop := ∀ s ∈ env, s = .no ∨ ∃ ps, s = .dat (ptsD ps)
theorem rx_forL {i : Nat} {f : List Int → Option (List Part)} (h : EvLL K ta env lits) (po : ptsOnly env) (hl : lits.length ≤ 1000) (hi : env[i]? = some .no) (hne : ∀ ns ∈ lits, ns ≠ []) (hb : ∀ ns ∈ lits, RunX K tb (env.set i (.own (ns.map PyData.int))) (outR K (f ns) env)) :
    RunX K (tFor (iList K (tLst ta)) (gName i) tb) env (outR K (lits.findSome? f) env) := fun Hb σ H D s gd =>
  h Hb σ H s H (Ex.refl H) _ fun ls H2 e2 nd fr ok => by
    have hlen := ok.length
    refine ⟨sz_of (by rw [List.length_map]; omega), fun a hal => ?_⟩
    refine ⟨a, rfl, ⟨ls.map V.ref, .inl (.inl upd_same)⟩, ?_⟩
    have e3 : Ex H2 (upd H2 a (.lst (ls.map V.ref))) := Ex.new hal
    have hbn : ∀ l ∈ ls, Hb l = none := fun l hl => fresh_back s.bot (fr l hl)
    refine for_list (xs := ls.map V.ref) (fun k σ' H' => StD K Hb H' σ' env ∧ H' a = some (.lst (ls.map V.ref)) ∧ LitOk H' (ls.drop k) (lits.drop k) ∧ (lits.drop k).findSome? f = lits.findSome? f) ⟨s.grow (e2.trans e3), upd_same, by rw [List.drop_zero, List.drop_zero]; exact ok.mono e3, by rw [List.drop_zero]⟩ ?_ ?_ ?_
    · rintro k σ' H' _ ⟨_, h1, _⟩
      exact .inl (.inl h1)
    · rintro k v σ' H' hk ⟨st, h1, okk, hf⟩
      rw [List.getElem?_map] at hk
      cases hlk : ls[k]? with
      | none => rw [hlk] at hk; cases hk
      | some l =>
        rw [hlk] at hk
        cases hk
        have hkl : k < ls.length := (List.getElem?_eq_some_iff.mp hlk).1
        have ek : ls.drop k = l :: ls.drop (k + 1) := by
          rw [List.drop_eq_getElem_cons hkl]
          congr 1
          exact (List.getElem?_eq_some_iff.mp hlk).2
        have hkt : k < lits.length := by omega
        have et : lits.drop k = lits[k] :: lits.drop (k + 1) := List.drop_eq_getElem_cons hkt
        rw [ek, et] at okk
        rw [et, List.findSome?_cons] at hf
        have hmem : lits[k] ∈ lits := List.getElem_mem hkt
        generalize lits[k] = ns at okk hf hmem
        cases okk with
        | cons hl' okr =>
          have lm : l ∈ ls := List.mem_of_getElem? hlk
          have lne : ∀ l' ∈ ls.drop (k + 1), l' ≠ l := fun l' hl2 e => by
            have nd2 : (ls.drop k).Nodup := List.Nodup.sublist (List.drop_sublist _ _) nd
            rw [ek] at nd2
            exact (List.nodup_cons.mp nd2).1 (e ▸ hl2)
          have hal' : a ≠ l := fun e => by
            rw [e, hl'] at h1
            cases ns with
            | nil => exact hne [] hmem rfl
            | cons n ns =>
              injection h1 with h1
              injection h1 with h1
              cases ls with
              | nil => simp at lm
              | cons z zs => injection h1 with h1 _; cases h1
          obtain ⟨H0, s0⟩ := id st
          have eB : Ex (cutH H' fun b => b = l) H' := cutH_ex
          have eHbB : Ex Hb (cutH H' fun b => b = l) := fun b o hbo => by
            rw [cutH_out]
            · exact st.bot _ _ hbo
            · intro e
              rw [e, hbn l lm] at hbo
              cases hbo
          have hil : i < env.length := (List.getElem?_eq_some_iff.mp hi).1
          have stB : StD K (cutH H' fun b => b = l) H' (σ'.set i (some (.ref l))) (env.set i (.own (ns.map PyData.int))) := by
            refine ⟨cutH H' fun b => b = l, Ex.refl _, eB, by rw [List.length_set, List.length_set]; exact s0.len, fun j sl hj => ?_⟩
            by_cases e : i = j
            · subst e
              rw [List.getElem?_set_self hil] at hj
              cases hj
              exact ⟨l, ns.map V.int, join_set_same (by rw [s0.len]; exact hil), cutH_in rfl, hl', RpAll.of_ints ns⟩
            · rw [List.getElem?_set_ne e] at hj
              rw [join_set_ne e]
              have q := s0.at_ j sl hj
              rcases po sl (List.mem_of_getElem? hj) with e2 | ⟨ps, e2⟩
              · subst e2; trivial
              · subst e2
                obtain ⟨x, q1, q2⟩ := q
                exact ⟨x, q1, rp_pts_cut hl' (hne ns hmem) (q2.mono s0.up)⟩
          have keepOk : ∀ {H'' : Hp}, Ex (cutH H' fun b => b = l) H'' → LitOk H'' (ls.drop (k + 1)) (lits.drop (k + 1)) := fun {H''} e => (okr.cut lne).mono e
          refine hb ns hmem (cutH H' fun b => b = l) (σ'.set i (some (.ref l))) H' _ stB ?_
          cases hfn : f ns with
          | none =>
            rw [hfn] at hf
            intro σ2 H3 s3
            refine ⟨s3.base eHbB, ?_, keepOk s3.bot, hf⟩
            refine s3.bot _ _ ?_
            rw [cutH_out (L := fun b => b = l) hal']
            exact h1
          | some ps =>
            rw [hfn] at hf
            rw [← hf] at gd
            intro Hm v H3 a1 a2 r
            exact gd Hm v H3 (eHbB.trans a1) a2 r
    · rintro σ' H' ⟨st, h1, okk, hf⟩
      rw [List.length_map, hlen, List.drop_length] at hf
      rw [← hf] at gd
      exact gd σ' H' st
/-- an answer of such items beside the frame's own lists -/
theorem rx_asgP {i : Nat} {ps : List Part} (h : EvRX K te env (RT K ps)) : RunX K (tAsg te (gName i)) env (.nx (env.set i (.dat (.tuple (ps.map Part.toD))))) := fun Hb σ H D s g =>
  h Hb σ H s _ fun Hm v H' e1 e2 r => by
    obtain ⟨t, L, vs, rfl, ht, pk⟩ := r
    have sg := (s.grow (e1.trans e2)).widen
    have noOwnT : ∀ b xs, H' b = some (.tup xs) → cutH H' (ownAt σ env) b = some (.tup xs) := fun b xs hb => by
      rw [cutH_out]
      · exact hb
      · intro q
        obtain ⟨_, ys, hy⟩ := sg.own_none q
        rw [hb] at hy
        cases hy
    have notOwn : ∀ l, Hm l = none → ¬ ownAt σ env l := fun l hl q => by
      obtain ⟨H0, s0⟩ := id s
      obtain ⟨_, ys, hy⟩ := s0.own_none q
      rw [e1 _ _ hy] at hl
      cases hl
    have all : ∀ {L : List Addr} {vs : List V} {ps : List Part}, PsOk K Hm H' L vs ps → RpAll K (cutH H' (ownAt σ env)) vs (ps.map Part.toD) := fun pk => by
      induction pk with
      | nil => exact .nil
      | dat r f _ ih => exact .cons (r.cut noOwnT f) ih
      | own h0 h1 r f _ _ ih => exact .cons (.lst (by rw [cutH_out (notOwn _ h0)]; exact h1) (r.cut noOwnT f)) ih
    exact g _ H' ⟨_, sg.set (s := .dat (.tuple (ps.map Part.toD))) ⟨.ref t, rfl, .tup (noOwnT _ _ ht) (all pk)⟩⟩
theorem ints_inj : ∀ (xs ys : List Int), xs.map V.int = ys.map V.int → xs = ys
  | [], [], _ => rfl
  | [], _ :: _, h => by cases h
  | _ :: _, [], h => by cases h
  | x :: xs, y :: ys, h => by
    injection h with h1 h2
    injection h1 with h1
    rw [h1, ints_inj xs ys h2]
/-- two of the frame's own lists that hold other ints -/
theorem ep_own2 {i j : Nat} {ms : List Int} {ps : List Part} (h1 : env[i]? = some (.own (ns.map PyData.int))) (h2 : env[j]? = some (.own (ms.map PyData.int))) (hne : ns ≠ ms) (r : EvPX K tr env false ps) : EvPX K (tCons (tVar i) (tCons (tVar j) tr)) env true (.inr (ns.map PyData.int) :: .inr (ms.map PyData.int) :: ps) := fun Hb σ H s H1 e1 Q q => by
  obtain ⟨H0, s0⟩ := id s
  obtain ⟨l, xs, hv, hx, hn, hl, rx⟩ := own_slot s0 h1
  obtain ⟨p, ys, hv2, hx2, hn2, hl2, ry⟩ := own_slot s0 h2
  have fr : ∀ zs : List Int, lfreeAll (zs.map PyData.int) = true := fun zs => by
    induction zs with
    | nil => rfl
    | cons z zs ih => exact ih
  have hlp : l ≠ p := fun e => by
    subst e
    rw [hl] at hl2
    have : xs = ys := by injection hl2 with hl2; injection hl2
    rw [rx.ints, ry.ints] at this
    exact hne (ints_inj _ _ this)
  refine ⟨.ref l, hv, .ref p, hv2, r Hb σ H s H1 e1 _ fun L vs H3 e4 k hL => q (l :: p :: L) _ H3 e4 (.own (fresh_back s0.base hn) (e4 _ _ (e1 _ _ hl)) ((rx.mono s0.up).mono (e1.trans e4)) (fr _) ?_ (.own (fresh_back s0.base hn2) (e4 _ _ (e1 _ _ hl2)) ((ry.mono s0.up).mono (e1.trans e4)) (fr _) ?_ k)) fun m hm => ?_⟩
  · intro m
    rcases List.mem_cons.mp m with e | m
    · exact hlp e
    · rcases hL l m with ⟨z, _⟩ | z
      · cases z
      · rw [e1 _ _ hl] at z; cases z
  · intro m
    rcases hL p m with ⟨z, _⟩ | z
    · cases z
    · rw [e1 _ _ hl2] at z; cases z
  · rcases List.mem_cons.mp hm with e | k1
    · subst e
      exact .inl ⟨rfl, i, _, h1, hx⟩
    · rcases List.mem_cons.mp k1 with e | k2
      · subst e
        exact .inl ⟨rfl, j, _, h2, hx2⟩
      · rcases hL m k2 with ⟨z, _⟩ | z
        · cases z
        · exact .inr z
/-- the frame's own lists as data -/
def settleE (env : SE) : SE := env.map fun s => match s with
  | .own ds => .dat (.list ds)
  | s => s
theorem StD.settleA {Hb H : Hp} {σ : St} (s : StD K Hb H σ env) : StD K Hb H σ (settleE env) := by
  obtain ⟨H0, s0⟩ := s
  refine ⟨H, s0.base.trans s0.up, Ex.refl _, by unfold settleE; rw [List.length_map]; exact s0.len, fun j sl hj => ?_⟩
  unfold settleE at hj
  rw [List.getElem?_map] at hj
  cases he : env[j]? with
  | none => rw [he] at hj; cases hj
  | some s1 =>
    rw [he] at hj
    cases hj
    have q := s0.at_ j s1 he
    cases s1 with
    | no => trivial
    | dat d =>
      obtain ⟨x, q1, q2⟩ := q
      exact ⟨x, q1, q2.mono s0.up⟩
    | own ds =>
      obtain ⟨l, xs, q1, _, q3, q4⟩ := q
      exact ⟨.ref l, q1, .lst q3 (q4.mono s0.up)⟩
theorem er_settleA {R : Hp → V → Hp → Prop} (k : EvRX K te (settleE env) R) : EvRX K te env R := fun Hb σ H s => k Hb σ H s.settleA
theorem xf_settleA {es : List PyData} (k : EvFX K te (settleE env) es) : EvFX K te env es := fun Hb σ H s => k Hb σ H s.settleA
end
end LD
namespace LD
open PySem PySem.Spec L2 Evl LSt
section
variable {K : PySem.W.Frag} {env : SE} {te : TE} {t u w : TS} {tt : TT} {out : Out} {ps : List Part} {d : PyData}
/-- lists that hold ints ahead -/
def IntLists (H : Hp) (L : Addr → Prop) : Prop := ∀ l, L l → ∃ (n : Int) (ns : List V), H l = some (.lst (.int n :: ns))
theorem tup_cut {H : Hp} {L : Addr → Prop} (hL : IntLists H L) : ∀ a xs, H a = some (.tup xs) → cutH H L a = some (.tup xs) := fun a xs ha => by
  rw [cutH_out]
  · exact ha
  · intro k
    obtain ⟨n, ns, e⟩ := hL a k
    rw [ha] at e
    cases e
theorem cut_pts {H : Hp} {v : V} {qs : List (Int × Int)} {L : Addr → Prop} (hL : IntLists H L) (r : Rp K H v (ptsD qs)) : Rp K (cutH H L) v (ptsD qs) := by
  obtain ⟨a, xs, rfl, ha, rx⟩ := r.lst_inv
  refine .lst (a := a) (xs := xs) ?_ (rx.cut (tup_cut hL) (lfree_pts qs))
  rw [cutH_out]
  · exact ha
  · intro k
    obtain ⟨n, ns, e⟩ := hL a k
    rw [ha] at e
    have hx : xs = V.int n :: ns := by injection e with e; injection e
    subst hx
    cases qs with
    | nil => cases rx
    | cons p qs =>
      cases rx with
      | cons r _ =>
        obtain ⟨b, hb, _⟩ := Rp.pt r
        cases hb
theorem cut_ptss {H : Hp} {v : V} {qss : List (List (Int × Int))} {L : Addr → Prop} (hL : IntLists H L) (r : Rp K H v (.list (qss.map ptsD))) : Rp K (cutH H L) v (.list (qss.map ptsD)) := by
  obtain ⟨a, xs, rfl, ha, rx⟩ := r.lst_inv
  have all : ∀ {xs : List V} {qss : List (List (Int × Int))}, RpAll K H xs (qss.map ptsD) → RpAll K (cutH H L) xs (qss.map ptsD) := by
    intro xs qss
    induction qss generalizing xs with
    | nil => intro h; cases h; exact .nil
    | cons qs qss ih =>
      intro h
      cases h with
      | cons r t => exact .cons (cut_pts hL r) (ih t)
  refine .lst (a := a) (xs := xs) ?_ (all rx)
  rw [cutH_out]
  · exact ha
  · intro k
    obtain ⟨n, ns, e⟩ := hL a k
    rw [ha] at e
    have hx : xs = V.int n :: ns := by injection e with e; injection e
    subst hx
    cases qss with
    | nil => cases rx
    | cons p qs =>
      cases rx with
      | cons r _ =>
        obtain ⟨b, ys, hb, _⟩ := Rp.lst_inv r
        cases hb
theorem PsOk.ints {Hb H : Hp} {L : List Addr} {vs : List V} {ps : List Part} (h : PsOk K Hb H L vs ps) (hi : ∀ ds, .inr ds ∈ ps → ∃ (n : Int) (ms : List PyData), ds = .int n :: ms) : IntLists H (fun b => b ∈ L) := by
  induction h with
  | nil => intro l hl; cases hl
  | dat r f _ ih => exact ih fun ds hd => hi ds (List.mem_cons_of_mem _ hd)
  | own h0 h1 r f n _ ih =>
    intro l hl
    rcases List.mem_cons.mp hl with e | m
    · subst e
      obtain ⟨n, ms, e⟩ := hi _ List.mem_cons_self
      subst e
      cases r with
      | cons r1 _ =>
        rw [r1.int_inv] at h1
        exact ⟨n, _, h1⟩
    · exact ih (fun ds hd => hi ds (List.mem_cons_of_mem _ hd)) l m
theorem PsOk.ground {Hb H : Hp} {L : List Addr} {vs : List V} {ps : List Part} (h : PsOk K Hb H L vs ps) : ∀ {M : List Addr}, (∀ l ∈ L, l ∈ M) → PsOk K (cutH H fun b => b ∈ M) H L vs ps := by
  induction h with
  | nil => intro _ _; exact .nil
  | dat r f _ ih => intro M hM; exact .dat r f (ih hM)
  | own h0 h1 r f n _ ih => intro M hM; exact .own (cutH_in (hM _ List.mem_cons_self)) h1 r f n (ih fun l hl => hM l (List.mem_cons_of_mem _ hl))
theorem PsOk.fresh {Hb H : Hp} {L : List Addr} {vs : List V} {ps : List Part} (h : PsOk K Hb H L vs ps) : ∀ l ∈ L, Hb l = none := by
  induction h with
  | nil => intro l hl; cases hl
  | dat r f _ ih => exact ih
  | own h0 h1 r f n _ ih =>
    intro l hl
    rcases List.mem_cons.mp hl with e | m
    · rw [e]; exact h0
    · exact ih l m
/-- a slot is stored while an answer's lists are the caller's own -/
theorem rm_asgX {i j : Nat} (no : noOwn env = true) (h : EvX K te (env.set i (.dat (.tuple (ps.map Part.toD)))) d) (hc : ∀ {H : Hp} {v : V} {L : Addr → Prop}, IntLists H L → Rp K H v d → Rp K (cutH H L) v d) (hi : ∀ ds, .inr ds ∈ ps → ∃ (n : Int) (ms : List PyData), ds = .int n :: ms) (hij : i ≠ j)
    (k : RunM K u (env.set j (.dat d)) i ps out) : RunM K (tSeq (tAsg te (gName j)) u) env i ps out := fun Hb σ H D s g =>
  h Hb σ H (s.dat no) H (Ex.refl H) _ fun v H2 e2 rv => by
    obtain ⟨Hp, t, L, vs, h1, h3, h4, h5, h6⟩ := s.grow e2
    have e : Ex Hp (cutH H2 fun b => b ∈ L) := fun b o hb => by
      rw [cutH_out]
      · exact h3 _ _ hb
      · intro m
        rw [h6.fresh b m] at hb
        cases hb
    refine k Hb (σ.set j (some v)) H2 D ⟨cutH H2 fun b => b ∈ L, t, L, vs, ?_, cutH_ex, ?_, h5, h6.ground fun l hl => hl⟩ g
    · obtain ⟨H0, s0⟩ := h1
      have s1 : SOk K Hb (cutH H2 fun b => b ∈ L) (cutH H2 fun b => b ∈ L) σ env := by
        refine ⟨(s0.base.trans s0.up).trans e, Ex.refl _, s0.len, fun m sl hm => ?_⟩
        have q := s0.at_ m sl hm
        cases sl with
        | no => trivial
        | dat d =>
          obtain ⟨x, q1, q2⟩ := q
          exact ⟨x, q1, q2.mono (s0.up.trans e)⟩
        | own ds =>
          exfalso
          unfold noOwn at no
          rw [List.all_eq_true] at no
          have := no _ (List.mem_of_getElem? hm)
          simp [Sl.isOwn] at this
      exact ⟨_, s1.set (s := .dat d) ⟨v, rfl, hc (h6.ints hi) rv⟩⟩
    · rw [List.getElem?_set_ne (Ne.symm hij)]
      exact h4
/-- sorted(xs) of ints -/
theorem xf_sortedI {env : SE} {te : TE} {ns rs : List Int} (h : EvX K te env (.list (ns.map .int))) (hn : ns.length < 64) (hr : ∀ m : List Int, m.Perm ns → m.Pairwise (· ≤ ·) → m = rs) : EvFX K (tCB (rSorted K) (tCons te tNil)) env (rs.map .int) :=
  xf_cb (ea_cons h ea_nil) fun vs H r Q q => by
    obtain ⟨v, rfl, rv⟩ := r.one
    obtain ⟨a, xs, rfl, ha, ra⟩ := rv.lst_inv
    rw [ra.ints] at ha
    refine ⟨a, ns, rfl, .inl (.inl ha), hn, fun ns' p hp hs hnone => ?_⟩
    rw [hr ns' hp hs]
    exact q p _ H _ hnone (Ex.refl _) (Ex.new hnone) hnone upd_same (RpAll.of_ints rs)
end
end LD
/-! Texts. -/
namespace LD
open PySem PySem.Spec L2 Evl LSt
section
variable {K : PySem.W.Frag} {env : SE} {te to ta tb' : TE} {tb : TS} {out : Out}
theorem RpAll.strs {H : Hp} : ∀ {vs : List V} {xs : List Str}, RpAll K H vs (xs.map PyData.str) → vs = xs.map V.str
  | _, [], .nil => rfl
  | _, n :: ns, .cons r t => by
    rw [r.str_inv, RpAll.strs t]
    rfl
theorem RpAll.of_strs {H : Hp} : ∀ (xs : List Str), RpAll K H (xs.map V.str) (xs.map PyData.str)
  | [] => .nil
  | n :: ns => .cons (.str n) (RpAll.of_strs ns)
theorem lfree_strs : ∀ xs : List Str, lfreeAll (xs.map PyData.str) = true
  | [] => rfl
  | _ :: xs => lfree_strs xs
theorem ex_join {a : Str} {ys : List Str} (h1 : EvX K to env (.str a)) (h2 : EvX K te env (.list (ys.map .str))) (hb : (ys.map (·.length)).sum + ys.length * a.length ≤ 16777216) :
    EvX K (tM1 (fun x xs H Q => ∃ a p, ∃ ys : List Str, x = .str a ∧ xs = [.ref p] ∧ (SqL K H p (ys.map V.str) ∨ SqT K H p (ys.map V.str)) ∧ (ys.map (·.length)).sum + ys.length * a.length ≤ 16777216 ∧ Q (.str (Txt.join a ys)) H) to te) env (.str (Txt.join a ys)) := fun Hb σ H s H1 e1 Q q =>
  h1 Hb σ H s H1 e1 _ fun v H2 e2 r => by
    rw [r.str_inv]
    refine ⟨⟨a, rfl⟩, h2 Hb σ H s H2 (e1.trans e2) _ fun w H3 e3 rw => ?_⟩
    obtain ⟨p, xs, rfl, hp, rx⟩ := rw.lst_inv
    rw [rx.strs] at hp
    exact ⟨a, p, ys, rfl, rfl, .inl (.inl (.inl hp)), hb, q _ H3 (e2.trans e3) (.str _)⟩
theorem xf_split {a b : Str} (h1 : EvX K to env (.str a)) (h2 : EvX K te env (.str b)) (hb : (b.length == 0) = false) (ha : a.length + 2 ≤ sizeLine) :
    EvFX K (tM1 (fun x xs H Q => ∃ a b, x = .str a ∧ xs = [.str b] ∧ (b.length == 0) = false ∧ a.length + 2 ≤ sizeLine ∧ rNewStrs (Txt.split a b) H Q) to te) env ((Txt.split a b).map .str) := fun Hb σ H s H1 e1 Q q =>
  h1 Hb σ H s H1 e1 _ fun v H2 e2 r => by
    rw [r.str_inv]
    refine ⟨⟨a, rfl⟩, h2 Hb σ H s H2 (e1.trans e2) _ fun w H3 e3 rw => ?_⟩
    rw [rw.str_inv]
    exact ⟨a, b, rfl, rfl, hb, ha, fun p hp => q p _ H3 _ (fresh_back (e2.trans e3) hp) (e2.trans e3) (Ex.new hp) hp upd_same (RpAll.of_strs _)⟩
def sI (i : Int) : Str := toString i
theorem ex_strI {i : Int} (h : EvX K te env (.int i)) (hb : i.natAbs.log2 < 1920) : EvX K (tCB (fun xs H Q => ∃ i : Int, xs = [.int i] ∧ i.natAbs.log2 < 1920 ∧ Q (.str (toString i)) H) (tCons te tNil)) env (.str (sI i)) :=
  ex_cb (ea_cons h ea_nil) fun vs H r Q q => by
    obtain ⟨v, rfl, rv⟩ := r.one
    rw [rv.int_inv]
    exact ⟨i, rfl, hb, q _ H (Ex.refl _) (.str _)⟩
theorem ex_intS {a : Str} {n : Int} (h : EvX K te env (.str a)) (hn : PySem.intText? a = some n) (hl : a.length ≤ 640) : EvX K (tCB (fun xs H Q => ∃ a n, xs = [.str a] ∧ PySem.intText? a = some n ∧ a.length ≤ 640 ∧ Q (.int n) H) (tCons te tNil)) env (.int n) :=
  ex_cb (ea_cons h ea_nil) fun vs H r Q q => by
    obtain ⟨v, rfl, rv⟩ := r.one
    rw [rv.str_inv]
    exact ⟨a, n, rfl, hn, hl, q _ H (Ex.refl _) (.int _)⟩
theorem ex_catS {a b : Str} (h1 : EvX K ta env (.str a)) (h2 : EvX K tb' env (.str b)) (hl : a.length + b.length ≤ sizeLine) : EvX K (tOp (fun x y H Q => ∃ i j, x = .str i ∧ y = .str j ∧ i.length + j.length ≤ sizeLine ∧ Q (.str (i ++ j)) H) ta tb') env (.str (a ++ b)) :=
  ex_two h1 h2 fun x y H rx ry Q q => by
    rw [rx.str_inv, ry.str_inv]
    exact ⟨a, b, rfl, rfl, hl, q _ H (Ex.refl _) (.str _)⟩
theorem ex_slS {z : Str} {tl th : TO} {lo hi : Option Int} (h : EvX K te env (.str z)) (h1 : EvOX K tl env lo) (h2 : EvOX K th env hi) (hz : z.length ≤ sizeLine) : EvX K (tSl rSlS te tl th) env (.str (cutS z lo hi)) := fun Hb σ H s H1 e1 Q q =>
  h Hb σ H s H1 e1 _ fun v H2 e2 r => h1 Hb σ H s H2 (e1.trans e2) _ fun H3 e3 => h2 Hb σ H s H3 ((e1.trans e2).trans e3) _ fun H4 e4 => by
    rw [r.str_inv]
    exact ⟨z, rfl, hz, q _ H4 ((e2.trans e3).trans e4) (.str _)⟩
theorem ex_ixStr {z : Str} {i : Int} {c : Nat} (h1 : EvX K ta env (.str z)) (h2 : EvX K tb' env (.int i)) (hz : z.length ≤ sizeLine) (h : atI z.cps.toList i = some c) : EvX K (tOp (rIx K) ta tb') env (.str ⟨#[c]⟩) :=
  ex_two h1 h2 fun x y H rx ry Q q => by
    rw [rx.str_inv, ry.int_inv]
    exact .inr (.inr ⟨z, i, c, rfl, rfl, hz, h, q _ H (Ex.refl _) (.str _)⟩)
theorem ex_notInS {c : Nat} {z : Str} (h1 : EvX K ta env (.str ⟨#[c]⟩)) (h2 : EvX K tb' env (.str z)) : EvX K (tOp (fun x y H Q => ∃ (c : Nat) (z : Str), x = .str ⟨#[c]⟩ ∧ y = .str z ∧ Q (.bl (!decide (c ∈ z.cps.toList))) H) ta tb') env (.bool (!decide (c ∈ z.cps.toList))) :=
  ex_two h1 h2 fun x y H rx ry Q q => by
    rw [rx.str_inv, ry.str_inv]
    exact ⟨c, z, rfl, rfl, q _ H (Ex.refl _) (.bl _)⟩
theorem ex_lenS {x : Str} (h : EvX K te env (.str x)) (hx : x.length ≤ 100000) : EvX K (tCB (fun xs H Q => ∃ x n, xs = [x] ∧ LenV K x H n ∧ Q (.int n) H) (tCons te tNil)) env (.int x.length) :=
  ex_len h (by show (if x.length ≤ 100000 then some x.length else none) = _; rw [if_pos hx])
/-- for .. in a text -/
theorem rx_forS {g : TG} {z : Str} (h : EvX K te env (.str z)) (f : Fr K g tb (z.cps.toList.map fun c => PyData.str ⟨#[c]⟩) env out) : RunX K (tFor (iStr te) g tb) env out := fun Hb σ H D s gd =>
  h Hb σ H s H (Ex.refl H) _ fun v H1 e r => by
    rw [r.str_inv]
    generalize hds : (z.cps.toList.map fun c => PyData.str ⟨#[c]⟩) = ds at f
    have hlen : ds.length = z.cps.size := by rw [← hds, List.length_map, Array.length_toList]
    refine ⟨z, rfl, fun i m σ' H' => m = z.cps.size - i ∧ i ≤ z.cps.size ∧ ∃ e, StD K Hb H' σ' e ∧ Fr K g tb (ds.drop i) e out, ⟨_, rfl, Nat.zero_le _, env, s.grow e, by rw [List.drop_zero]; exact f⟩, ?_⟩
    rintro i m σ' H' ⟨rfl, hi, e', st, fr⟩
    by_cases hlt : i < z.cps.size
    · refine .inr ⟨hlt, fun σ2 H2 => ∃ e, StD K Hb H2 σ2 e ∧ Fr K g tb (ds.drop (i + 1)) e out, fun σ2 H2 p => ⟨z.cps.size - (i + 1), by omega, rfl, hlt, p⟩, fun x H2 y => ?_⟩
      obtain ⟨rfl, c, hc, rfl⟩ := y
      have hd : ds[i]? = some (PyData.str ⟨#[c]⟩) := by
        rw [← hds, List.getElem?_map, Array.getElem?_toList, hc]
        rfl
      have hlt' := (List.getElem?_eq_some_iff.mp hd).1
      have ed : ds.drop i = PyData.str ⟨#[c]⟩ :: ds.drop (i + 1) := by
        rw [List.drop_eq_getElem_cons hlt']
        congr 1
        exact (List.getElem?_eq_some_iff.mp hd).2
      rw [ed] at fr
      obtain ⟨H0, s0⟩ := st
      exact fr.step (Pv := fun l σ2 H2 => ∃ e, StD K Hb H2 σ2 e ∧ Fr K g tb (ds.drop (i + 1)) e out) gd s0 (.str _) fun e2 f2 σ2 H2 s2 => ⟨e2, s2, f2⟩
    · refine .inl ⟨by show z.cps.size ≤ i; omega, ?_⟩
      rw [List.drop_eq_nil_of_le (by omega)] at fr
      cases fr
      exact gd σ' H' st
end
end LD
/-! Refusals: defs that surely raise, the suite that catches, what is asked of the caught one. -/
namespace LD
open PySem PySem.Spec PyProof.Rows L2 Evl LSt

/-! ### what surely raises C -/
section
variable {K : PySem.W.Frag} {W : WX} {C : Addr} {n : Nat} {env e1 : SE} {te : TE} {tt : TT} {t u w : TS} {ta : TA} {ds : List PyData}
/-- the wish: C may be let out over what stood -/
def Wish (W : WX) (C : Addr) (n : Nat) : Hp → Prop := fun H => ∀ σ : L2.St, σ.length = n → W (.ref C) none σ H
def EvE (K : PySem.W.Frag) (W : WX) (C : Addr) (n : Nat) (te : TE) (env : SE) : Prop := ∀ Hb σ H, StD K Hb H σ env → (∀ H', Ex Hb H' → Wish W C n H') → ∀ H1, Ex H H1 → ∀ Q, te σ H1 Q
abbrev RunE (K : PySem.W.Frag) (W : WX) (C : Addr) (n : Nat) (t : TS) (env : SE) : Prop := RunX K t env (.ex (Wish W C n))
theorem re_seq (h1 : RunX K t env (.nx e1)) (h2 : RunE K W C n u e1) : RunE K W C n (tSeq t u) env := rx_seq h1 h2
theorem re_end (h : RunE K W C n t env) : RunE K W C n (tSeq t u) env := rx_end h rfl
theorem re_if {b : Bool} (h : EvTX K tt env b) (h1 : b = true → RunE K W C n t env) (h2 : b = false → RunE K W C n u env) : RunE K W C n (tIfS tt t u) env := rx_if h h1 h2
theorem re_ifS {b : Bool} (h : EvTX K tt env b) (h1 : b = true → RunE K W C n (tSeq t w) env) (h2 : b = false → RunE K W C n (tSeq u w) env) : RunE K W C n (tSeq (tIfS tt t u) w) env := rx_ifS h h1 h2
theorem re_nextS (h : RunE K W C n w env) : RunE K W C n (tSeq tNext w) env := rx_nextS h
theorem re_drop (h : EvE K W C n te env) : RunE K W C n (tDrop te) env := fun Hb σ H D s g => h Hb σ H s g H (Ex.refl H) _
theorem re_ret (h : EvE K W C n te env) : RunE K W C n (tRet te) env := fun Hb σ H D s g => h Hb σ H s g H (Ex.refl H) _
theorem re_asg {g : TG} (h : EvE K W C n te env) : RunE K W C n (tAsg te g) env := fun Hb σ H D s gw => h Hb σ H s gw H (Ex.refl H) _
/-- raise C(..) -/
def tRaise (C : Addr) (W : WX) : TS := fun _ σ H => (fun (_ : L2.St) (H : Hp) (Q : XK) => Q (.ref C) none H) σ H fun cls d H' => W cls d σ H'
theorem re_raise (hn : env.length = n) : RunE K W C n (tRaise C W) env := fun Hb σ H D s g => g H s.bot σ (by obtain ⟨_, k⟩ := s; rw [k.len, hn])
/-- a def that raises C at the arguments that B tells -/
def spB (K : PySem.W.Frag) (C : Addr) (B : List PyData → Prop) : Sp := fun vs H _ E => ∃ ds, RpAll K H vs ds ∧ B ds ∧ ∀ H', Ex H H' → E (.ref C) none H'
theorem ee_call {B : List PyData → Prop} (h : EvAX K ta env ds) (hB : B ds) (hn : env.length = n) : EvE K W C n (tCallS (spB K C B) (L2.WE W) ta) env := fun Hb σ H s g H1 e1 Q =>
  h Hb σ H s H1 e1 _ fun vs H2 e2 rv => ⟨ds, rv, hB, fun H3 e3 => g H3 (((s.bot.trans e1).trans e2).trans e3) σ (by obtain ⟨_, k⟩ := s; rw [k.len, hn])⟩
/-- either -/
def spX (sp : Sp) (K : PySem.W.Frag) (C : Addr) (B : List PyData → Prop) : Sp := fun vs H Q E => sp vs H Q E ∨ spB K C B vs H Q E
theorem ee_callX {B : List PyData → Prop} {sp : Sp} (h : EvAX K ta env ds) (hB : B ds) (hn : env.length = n) : EvE K W C n (tCallS (spX sp K C B) (L2.WE W) ta) env := fun Hb σ H s g H1 e1 Q =>
  h Hb σ H s H1 e1 _ fun vs H2 e2 rv => .inr ⟨ds, rv, hB, fun H3 e3 => g H3 (((s.bot.trans e1).trans e2).trans e3) σ (by obtain ⟨_, k⟩ := s; rw [k.len, hn])⟩
theorem ex_callX {B : List PyData → Prop} {F : List PyData → PyData → Prop} {E : L2.St → XK} {d : PyData} (h : EvAX K ta env ds) (hF : F ds d) : EvX K (tCallS (spX (spD K F) K C B) E ta) env d := fun Hb σ H s H1 e1 Q q =>
  h Hb σ H s H1 e1 _ fun vs H2 e2 rv => .inl ⟨ds, d, rv, hF, fun v H3 e3 r => q v H3 (e2.trans e3) r⟩
theorem PS.nox {X : Cx} {st : Stmt} {t : TS} (h : PS X.nox st t) : PS X st t := ⟨fun pins s σ H D I hw =>
  wpAny_mono (h.run pins s σ H D (I.wish _) hw) (fun _ _ q => q.unwish) fun _ _ z => False.elim z⟩
end

/-! ### defs that raise -/
section
variable {P : Program} {w : World} {K : PySem.W.Frag} {mg : Str → Option Value} {base : Heap}
theorem ok_B {x qual : Str} {st : Stmt} {f C : Addr} {fd : FuncData} {N ps : List Str} {k : Nat} {B : List PyData → Prop} (Fn : Fun K x qual st f fd) (S : FnScope N ps (defScope st)) (len : ∀ ds, B ds → ds.length = ps.length)
    (hbody : ∀ (cdv : Value) (A : Around) (outer : List Env) (s : Shared) (H : Hp) (E : XK), Room k (A.deeper (envOfC qual (defScope st) s.heap.objs.size f cdv)) → ∀ ds, B ds →
      ∃ t, PSs (cxOf (L2N.CX P w) P w K mg base N qual (defScope st) f cdv A outer s H E) (defBody st) t ∧ RunE K (fun cls d _ H => E cls d H) C N.length t (env0 N.length ds)) : FnOk P w K mg base (L2N.CX P w) (k + 1) f fd ps (spB K C B) := by
  obtain ⟨oc, od, kV, doc, pm, an, cdv, ct, osl, rfl, lk, hcd⟩ := Fn.ex
  refine fn_of lk hcd S (fun vs H Q E h => ?_) fun A outer s H vs Q E hr h => ?_
  · obtain ⟨ds, r, hB, _⟩ := h
    rw [r.length, len ds hB]
  · obtain ⟨ds, r, hB, q⟩ := h
    obtain ⟨t, ht, hx⟩ := hbody cdv A outer s H E hr ds hB
    exact ⟨t, ht, hx H _ H _ (std_start r) fun H' e _ _ => q H' e⟩
/-- what raises nothing may stand where something may be raised -/
theorem FnOk.lift {f : Addr} {fd : FuncData} {ps : List Str} {k : Nat} {sp : Sp} {CX : CXT} (F : FnOk P w K mg base CX0 k f fd ps sp) : FnOk P w K mg base CX k f fd ps sp :=
  ⟨F.len, fun A outer s H args us vs Q E hr he hb hv hs => codeAny_mono (F.run A outer s H args us vs Q E hr he hb hv hs) fun r s' q => by
    cases r with
    | error e => exact False.elim q
    | ok fl => cases fl <;> exact q⟩
theorem FnOk.either {f C : Addr} {fd : FuncData} {ps : List Str} {k : Nat} {sp : Sp} {B : List PyData → Prop} (F : FnOk P w K mg base CX0 k f fd ps sp) (G : FnOk P w K mg base (L2N.CX P w) k f fd ps (spB K C B)) : FnOk P w K mg base (L2N.CX P w) k f fd ps (spX sp K C B) :=
  ⟨fun vs H Q E h => h.elim (F.len vs H Q E) (G.len vs H Q E), fun A outer s H args us vs Q E hr he hb hv hs =>
    hs.elim ((FnOk.lift F).run A outer s H args us vs Q E hr he hb hv) (G.run A outer s H args us vs Q E hr he hb hv)⟩
theorem FnOk.both {f : Addr} {fd : FuncData} {ps : List Str} {k : Nat} {sp sp' : Sp} {CX : CXT} (F : FnOk P w K mg base CX k f fd ps sp) (G : FnOk P w K mg base CX k f fd ps sp') : FnOk P w K mg base CX k f fd ps (fun vs H Q E => sp vs H Q E ∨ sp' vs H Q E) :=
  ⟨fun vs H Q E h => h.elim (F.len vs H Q E) (G.len vs H Q E), fun A outer s H args us vs Q E hr he hb hv hs =>
    hs.elim (F.run A outer s H args us vs Q E hr he hb hv) (G.run A outer s H args us vs Q E hr he hb hv)⟩
theorem FnOk.bothD {f : Addr} {fd : FuncData} {ps : List Str} {k : Nat} {F1 F2 : List PyData → PyData → Prop} (F : FnOk P w K mg base CX0 k f fd ps (spD K F1)) (G : FnOk P w K mg base CX0 k f fd ps (spD K F2)) :
    FnOk P w K mg base CX0 k f fd ps (spD K fun ds d => F1 ds d ∨ F2 ds d) :=
  (FnOk.both F G).imp fun vs H Q E ⟨ds, d, r, h, q⟩ => h.elim (fun h => .inl ⟨ds, d, r, h, q⟩) fun h => .inr ⟨ds, d, r, h, q⟩
theorem FnOk.bothB {f C : Addr} {fd : FuncData} {ps : List Str} {k : Nat} {CX : CXT} {B1 B2 : List PyData → Prop} (F : FnOk P w K mg base CX k f fd ps (spB K C B1)) (G : FnOk P w K mg base CX k f fd ps (spB K C B2)) :
    FnOk P w K mg base CX k f fd ps (spB K C fun ds => B1 ds ∨ B2 ds) :=
  (FnOk.both F G).imp fun vs H Q E ⟨ds, r, h, q⟩ => h.elim (fun h => .inl ⟨ds, r, h, q⟩) fun h => .inr ⟨ds, r, h, q⟩
end

/-! ### a def called within an except suite -/
abbrev SpP := Addr × Obj → List V → Hp → VK → Prop
structure FnP (P : Program) (w : World) (K : PySem.W.Frag) (mg : Str → Option Value) (base : Heap) (k : Nat) (f : Addr) (fd : FuncData) (ps : List Str) (sp : SpP) : Prop where
  len : ∀ p vs H Q, sp p vs H Q → vs.length = ps.length
  run : ∀ (p : Addr × Obj) (A : Around) (outer : List Env) (s : Shared) (H : Hp) (args : Args) (us : List Value) (vs : List V) (Q : VK), L2H.RoomH k A → L2H.PinOk outer H s p → Env0 P w K mg base A outer s H → BindsTo s fd args (ps.zip us) → Vals vs us → sp p vs H Q →
    codeAny (model P w) A (.call (.ref f) args) (CR CX0 outer P w H s Q E0) s
/-- its body -/
theorem fnP_of {P : Program} {w : World} {K : PySem.W.Frag} {mg : Str → Option Value} {base : Heap} {x qual : Str} {st : Stmt} {f : Addr} {fd : FuncData} {N ps : List Str} {k : Nat} {sp : SpP} (Fn : Fun K x qual st f fd) (S : FnScope N ps (defScope st))
    (len : ∀ p vs H Q, sp p vs H Q → vs.length = ps.length)
    (hbody : ∀ (cdv : Value) (p : Addr × Obj) (A : Around) (outer : List Env) (s : Shared) (H : Hp) (vs : List V) (Q : VK), L2H.RoomH k (A.deeper (envOfC qual (defScope st) s.heap.objs.size f cdv)) → sp p vs H Q →
      ∃ t, PSs (L2H.cxH CX0 P w K mg base N qual (defScope st) f cdv A outer s H E0 p).nox (defBody st) t ∧ t { nx := fun _ H' => Q .non H', rt := Q } (L2.start N vs) H) :
    FnP P w K mg base (k + 1) f fd ps sp := by
  obtain ⟨oc, od, kV, doc, pm, an, cdv, ct, osl, rfl, lk, hcd⟩ := Fn.ex
  refine ⟨len, ?_⟩
  intro p A outer s H args us vs Q hr hpin e0 hb r hsp
  have inH : K.In s.heap := e0.mod.kin.keeps fun b o q => (e0.bs b o q).1
  have lim : s.heap.NoLimit := e0.mod.nolimit.keeps fun b o q => (e0.bs b o q).1
  have par : ∀ y ∈ ps.zip us, (defScope st).names.lookup y.1 = some .local ∨ ((defScope st).names.lookup y.1 = some .cell ∧ ((cellsFrom (s.heap.objs.size + 1) (defScope st).names []).lookup y.1).isSome = true) := by
    rintro ⟨n, v⟩ hy
    exact (S.par n (List.of_mem_zip hy).1).imp id fun q => ⟨q, PySem.W.cellsFrom_some _ _ _ (.inl q)⟩
  obtain ⟨t, ht, hq⟩ := hbody cdv p A outer s H vs Q (hr.deeper _) hsp
  refine codeAny_call_function hr.depth (inH _ _ lk) rfl S.co S.gen rfl (PySem.W.codeRec_of inH hcd) (hb _ _ _ _ (wpAny_newFunctionEnv_cells S.kind par ?_))
  rintro env rfl s1 x
  have I := L2H.inv_startH (CX := CX0) (E := E0) (qual := qual) (f := f) (cd := cdv) S hpin e0 (len _ _ _ _ hsp) r x
  refine ⟨lim.keeps x.toInCall.keep, codeAny_func (wpAny_mono (ht.nox.run [] s1 _ H _ I hq) ?_ fun _ _ z => z)⟩
  intro fl s' hs
  cases fl with
  | ret u =>
    obtain ⟨v, σ', H', J, rv, q⟩ := hs
    exact ⟨v, H', J.os, J.bare, J.base, J.hok, rv, q⟩
  | next =>
    obtain ⟨σ', H', J, q⟩ := hs
    exact ⟨.non, H', J.os, J.bare, J.base, J.hok, rfl, q⟩
  | brk => exact hs.elim fun _ h => h.elim fun _ h => h.2.elim
  | cont => exact hs.elim fun _ h => h.elim fun _ h => h.2.elim
theorem pe_callP {X : Cx} {k : Nat} {f : Addr} {fd : FuncData} {ps : List Str} {sp : SpP} {x : Str} {q pos : Pos} {e : Expr} {es : List Expr} {ta : TA} {p : Addr × Obj} {R : List V → Hp → VK → Prop} (hR : ∀ vs H Q, R vs H Q → sp p vs H Q) (F : FnP X.prog X.w X.K X.mg X.base k f fd ps sp) (hr : L2H.RoomH k X.A) (hp : p ∈ X.pn)
    (hg : Gl X x) (hm : X.mg x = some (.ref f)) (hk : PySem.W.keepIn X.K (.ref f) = true) (hb : Binds X.K fd ps []) (ha : PA X (e :: es) ta)
    (hdb : (x == ("__debug__" : Str)) = false := by decide) (he : starEach (e :: es) X.env = (false, eval e X.env) :: starEach es X.env := by rfl) (hpl : (backTo pos (starEach es X.env)).any (·.1) = false := by rfl) :
    PE X (.Call (.Name x q) (e :: es) [] pos) (fun σ H Q => ta σ H fun vs H1 => R vs H1 Q) := by
  refine ⟨fun pins s σ H Q I h => wpAny_Call_Name_kw (ld_glob I hg hm ?_ hdb)⟩
  refine PySem.W.callWith_K (h₀ := X.base) I.ok.mod.kin hk (thn (ha.run pos pins s σ H _ I h) ?_) he hpl
  rintro us s1 ⟨vs, H1, I1, r, zR⟩
  have z := hR _ _ _ zR
  refine ⟨I1.kIn, ?_⟩
  have pin := I1.pin p (List.mem_append_left _ hp)
  have ok : L2H.PinOk X.stack H1 s1 p := ⟨pin.1, pin.2.1, fun hm => (List.mem_cons.mp (I1.stkSub p.1 hm)).elim pin.2.2.1 pin.2.2.2.1, pin.2.2.2.2⟩
  have b := hb s1 us I1.kIn (by rw [List.append_nil, ← r.length]; exact F.len _ _ _ _ z)
  rw [List.append_nil] at b
  refine wpAny_call (codeAny_mono (F.run p X.A X.stack s1 H1 ⟨us, []⟩ us vs Q hr ok I1.env0 b r z) fun res s' hq => ?_)
  match res, hq with
  | .ok (.ret u), hq => exact I1.after hq

/-! ### isinstance of the caught one -/
/-- isinstance(e, c), e pinned -/
theorem call_isP {X : Cx} {a D : Addr} {oe : Obj} (hp : (a, oe) ∈ X.pn) (T : ExcC X.K D) (hz : Zc (.ref D) none oe) (hf : ∃ vs, oe.data = .fields vs) : CallR X (.builtin "isinstance") (rIsE X.K D a) := by
  intro pins s σ H xs us Q I r h
  obtain ⟨c, cv, b, rfl, hcv, e, q⟩ := h
  obtain ⟨vs, hv⟩ := hf
  match us, r with
  | [_, ut], .cons rx (.cons rt .nil) =>
    cases rx
    rw [hcv _ rt]
    have J : PySem.W.InstAt s.heap a oe D none := by
      have got := (I.pin (a, oe) (List.mem_append_left _ hp)).1
      obtain ⟨oc, od, oda, osl⟩ := oe
      obtain ⟨h1, h2⟩ := hz
      simp only at h1 h2 hv
      subst h1 h2 hv
      exact ⟨got, rfl, rfl, trivial⟩
    exact PySem.W.kia_one (PySem.W.handS_kitx_exc T.hg T.hk T.hs T.hd T.ha T.hn T.ht T.hm) I.kIn J e (fun z => nomatch z) fun tk => ⟨.bl b, H, I.kept (t' := tk) fun _ _ z => z, rfl, q⟩

/-! ### xs.count(True) -/
def rCntB (K : PySem.W.Frag) : V → List V → Hp → VK → Prop := fun x xs H Q => ∃ (p : Addr) (bs : List Bool) (k : Bool), x = .ref p ∧ xs = [.bl k] ∧ SqL K H p (bs.map V.bl) ∧ Q (.int (bs.count k : Nat)) H
theorem bools_eq {k : Bool} : ∀ {us : List Value} {bs : List Bool}, Vals (bs.map V.bl) us → us = bs.map Value.bool
  | _, [], .nil => rfl
  | _, b :: bs, .cons r t => by
    rw [bools_eq (k := k) t, show _ = Value.bool b from r]
    rfl
theorem count_bools {k : Bool} : ∀ bs : List Bool, (bs.map Value.bool).countP (PyProof.Rows.isBoolOf k) = bs.count k
  | [] => rfl
  | b :: bs => by
    rw [List.map_cons, List.countP_cons, List.count_cons, count_bools bs]
    rfl
theorem mt_lcountB {X : Cx} : MtR X "list.count" (rCntB X.K) := by
  intro pins s σ H x xs v us Q I rx rxs h
  obtain ⟨p, bs, k, rfl, rfl, hs, q⟩ := h
  cases rx
  obtain ⟨u, rfl, ru⟩ := rxs.one
  rw [show u = Value.bool k from ru]
  obtain ⟨its, rv, ⟨⟨cls, dd, data, sl⟩, n, ho, hc, hdn, hd⟩, hlen⟩ := I.list hs
  simp only at hc hd
  subst hc hd
  obtain rfl := bools_eq (k := k) rv
  refine call_meets PySem.F.slot_list_count ⟨_, ho, rfl⟩ PySem.F.entry_list_count (PySem.F.args_list_count_2 _ _)
    (SeqAt.list_countAt p (bs.map Value.bool).toArray n dd sl (.bool k) (PyProof.Rows.isBoolOf k)) ⟨ho, fun y hy => ?_, ?_⟩
  · have hy' : y ∈ bs.map Value.bool := by simpa using hy
    obtain ⟨b, _, rfl⟩ := List.mem_map.mp hy'
    exact SeqAt.EqAt.bool_bool b k
  · refine ⟨.int (bs.count k : Nat), H, I.tok _, ⟨s.toks, ?_⟩, q⟩
    rw [count_bools]
theorem ex_countB {K : PySem.W.Frag} {env : SE} {to : TE} {bs : List Bool} {k : Bool} (h : EvX K to env (.list (bs.map .bool))) : EvX K (tBM K "list" (rCntB K) to (tCons (tC (.bl k)) tNil)) env (.int (bs.count k : Nat)) := fun Hb σ H s H1 e1 Q q =>
  h Hb σ H s H1 e1 _ fun v H2 e2 r => by
    obtain ⟨a, xs, rfl, ha, ra⟩ := r.lst_inv
    rw [ra.bools] at ha
    exact ⟨.inl ⟨rfl, _, .inl (.inl ha)⟩, a, bs, k, rfl, rfl, .inl (.inl ha), q _ H2 e2 (.int _)⟩

/-! ### the classes of refusals -/
abbrev veMro : List Value := [.type "ValueError", .type "Exception", .type "BaseException", .type "object"]
structure RCls (K : PySem.W.Frag) (C : Addr) : Prop where
  e : PySem.W.excIn K C veMro "ValueError.__new__" = true
  k : PySem.W.keepIn K (.ref C) = true
  b : PySem.W.subIn K (.ref C) (.type "BaseException") = some true
  t : PySem.W.typeIn K (.ref C) = some (.type "type")
  i : PySem.W.isClsIn K C = true
  s : PySem.W.subIn K (.ref C) (.ref C) = some true
  v : PySem.W.subIn K (.ref C) (.type "ValueError") = some true
  x : ExcC K C
section
variable {K : PySem.W.Frag} {C D : Addr}
theorem kit_self : PySem.W.kitOne K (.ref D) (.ref D) = some true := by
  unfold PySem.W.kitOne
  rw [if_pos (beq_self_eq_true _)]
theorem kit_no (T : RCls K C) (h : PySem.W.subIn K (.ref D) (.ref C) = some false) : PySem.W.kitOne K (.ref D) (.ref C) = some false := by
  have ne : ¬ (Value.ref D == Value.ref C) = true := fun q => by
    have q' : Value.ref D = Value.ref C := beq_iff_eq.mp q
    rw [q', T.s] at h
    cases h
  have ti : ((PySem.W.clsIn K C).isSome && PySem.W.typeIn K (.ref C) == some (.type "type")) = true := by
    rw [show (PySem.W.clsIn K C).isSome = true from T.i, T.t]
    rfl
  unfold PySem.W.kitOne PySem.W.kitCls
  rw [if_neg ne]
  simp only [ti, if_true]
  exact h
theorem kit_ve (T : RCls K D) : PySem.W.kitOne K (.ref D) (.type "ValueError") = some true := by
  have m : PySem.W.kitMeta "ValueError" = true := by decide +kernel
  unfold PySem.W.kitOne PySem.W.kitCls
  rw [if_neg (show ¬ (Value.ref D == Value.type "ValueError") = true from fun q => by cases beq_iff_eq.mp q)]
  simp only [m, if_true]
  exact T.v
theorem exm_own (T : RCls K C) (h : PySem.W.subIn K (.ref D) (.ref C) = some true) : PySem.W.exmOne K (.ref D) (.ref C) = some true := PySem.W.exm_ref T.b T.x.hd T.t h
theorem exm_no (T : RCls K C) (h : PySem.W.subIn K (.ref D) (.ref C) = some false) : PySem.W.exmOne K (.ref D) (.ref C) = some false := PySem.W.exm_ref T.b T.x.hd T.t h
end

/-! ### which refusal it was -/
section
variable {K : PySem.W.Frag} {C : Addr}
/-- what a def that is handed the caught one promises -/
def spKind (K : PySem.W.Frag) (C : Addr) (z : Str) : SpP := fun p vs H Q => vs = [.ref p.1] ∧ Zc (.ref C) none p.2 ∧ (∃ fs, p.2.data = .fields fs) ∧ ∀ H', Ex H H' → Q (.str z) H'
theorem is_run {a D : Addr} {σ : L2.St} {H : Hp} {Q : VK} {c : V} {cv : Value} {b : Bool} (h0 : σ[0]? = some (some (.ref a))) (hc : ∀ u, RelV c u → u = cv) (e : PySem.W.kitOne K (.ref D) cv = some b) (q : Q (.bl b) H) : tCB (rIsE K D a) (tCons (tVar 0) (tCons (tC c) tNil)) σ H Q :=
  ⟨.ref a, h0, c, cv, b, rfl, hc, e, q⟩
abbrev tIs (K : PySem.W.Frag) (D a : Addr) (c : V) : TE := tCB (rIsE K D a) (tCons (tVar 0) (tCons (tC c) tNil))
theorem kind_run {a D : Addr} {c1 c2 c3 c4 c5 : Addr} {b1 b2 b3 b4 b5 : Bool} {z z1 z2 z3 z4 z5 : Str} {j : Nat} {H : Hp} {D' : Ends}
    (h1 : PySem.W.kitOne K (.ref D) (.ref c1) = some b1) (h2 : PySem.W.kitOne K (.ref D) (.ref c2) = some b2) (h3 : PySem.W.kitOne K (.ref D) (.ref c3) = some b3) (h4 : PySem.W.kitOne K (.ref D) (.ref c4) = some b4) (h5 : PySem.W.kitOne K (.ref D) (.ref c5) = some b5)
    (hv : PySem.W.kitOne K (.ref D) (.type "ValueError") = some true) (hc : [b1, b2, b3, b4, b5].count true = 1) (hj : ([b1, b2, b3, b4, b5] : List Bool)[j]? = some true) (hn : (([b1, b2, b3, b4, b5] : List Bool).take j).all (fun b => !b) = true) (hz : ([z1, z2, z3, z4, z5] : List Str)[j]? = some z)
    (q : ∀ H', Ex H H' → D'.rt (.str z) H') :
    tSeq (tAsg (tLst (tCons (tIs K D a (.ref c1)) (tCons (tIs K D a (.ref c2)) (tCons (tIs K D a (.ref c3)) (tCons (tIs K D a (.ref c4)) tNil))))) (gName 1)) (tSeq (tDrop (tBM K "list" rAppend (tVar 1) (tCons (tIs K D a (.ref c5)) tNil)))
      (tSeq (tIfS (tOr (tNot (tB (tIs K D a (.ty "ValueError")))) (tTest (tOp (rNeD K) (tBM K "list" (rCntB K) (tVar 1) (tCons (tC (.bl true)) tNil)) (tC (.int 1))))) (tRet (tC (.str "other"))) tNext)
        (tRet (tOp (rIx K) (tLst (tCons (tC (.str z1)) (tCons (tC (.str z2)) (tCons (tC (.str z3)) (tCons (tC (.str z4)) (tCons (tC (.str z5)) tNil)))))) (tBM K "list" (rIndexD K) (tVar 1) (tCons (tC (.bl true)) tNil))))))
      D' [some (.ref a), none] H := by
  have rr : ∀ c : Addr, ∀ u, RelV (.ref c) u → u = .ref c := fun _ _ r => r
  refine is_run rfl (rr _) h1 (is_run rfl (rr _) h2 (is_run rfl (rr _) h3 (is_run rfl (rr _) h4 ⟨by rw [sizeLine_eq]; exact Nat.le_of_ble_eq_true rfl, fun p hp => ?_⟩)))
  refine ⟨.ref p, rfl, .inl ⟨rfl, _, .inl (.inl upd_same)⟩, is_run rfl (rr _) h5 ⟨p, _, _, rfl, rfl, upd_same, by rw [sizeLine_eq]; exact Nat.le_of_ble_eq_true rfl, ?_⟩⟩
  have up : Ex H (upd (upd H p (.lst [.bl b1, .bl b2, .bl b3, .bl b4])) p (.lst ([.bl b1, .bl b2, .bl b3, .bl b4] ++ [.bl b5]))) := fun b o e => by
    have ne : b ≠ p := fun y => by rw [y, hp] at e; cases e
    rw [upd_ne ne, upd_ne ne]
    exact e
  have s : StD K H (upd (upd H p (.lst [.bl b1, .bl b2, .bl b3, .bl b4])) p (.lst ([.bl b1, .bl b2, .bl b3, .bl b4] ++ [.bl b5]))) [some (.ref a), some (.ref p)] [.no, .own ([b1, b2, b3, b4, b5].map .bool)] := by
    refine ⟨H, Ex.refl _, up, rfl, fun i sl hi => ?_⟩
    match i, hi with
    | 0, hi => cases hi; trivial
    | 1, hi =>
      cases hi
      exact ⟨p, _, rfl, hp, upd_same, .cons (.bl _) (.cons (.bl _) (.cons (.bl _) (.cons (.bl _) (.cons (.bl _) .nil))))⟩
    | i + 2, hi => cases hi
  refine is_run rfl (fun u r => r) hv ⟨true, rfl, ?_⟩
  have cnt : EvTX K (tTest (tOp (rNeD K) (tBM K "list" (rCntB K) (tVar 1) (tCons (tC (.bl true)) tNil)) (tC (.int 1)))) [.no, .own ([b1, b2, b3, b4, b5].map .bool)] false :=
    xt_is (xt_test (ex_ne (ex_countB (ex_own rfl)) ex_int rfl rfl)) (by rw [hc]; rfl)
  refine cnt _ _ _ s _ (Ex.refl _) _ fun H3 e3 => ?_
  have ans : EvX K (tOp (rIx K) (tLst (tCons (tC (.str z1)) (tCons (tC (.str z2)) (tCons (tC (.str z3)) (tCons (tC (.str z4)) (tCons (tC (.str z5)) tNil)))))) (tBM K "list" (rIndexD K) (tVar 1) (tCons (tC (.bl true)) tNil))) [.no, .own ([b1, b2, b3, b4, b5].map .bool)] (.str z) := by
    refine ex_ixL (i := (j : Nat)) (ds := [.str z1, .str z2, .str z3, .str z4, .str z5]) (ex_new (xf_lst (ea_cons ex_str (ea_cons ex_str (ea_cons ex_str (ea_cons ex_str (ea_cons ex_str ea_nil))))) (Nat.le_of_ble_eq_true rfl))) (ex_index (j := j) (z := .bool true) (ex_own rfl) ex_bl rfl rfl ?_ rfl ?_) ?_
    · rw [List.getElem?_map, hj]
      rfl
    · intro m y hm hy
      rw [List.getElem?_map] at hy
      cases e : ([b1, b2, b3, b4, b5] : List Bool)[m]? with
      | none => rw [e] at hy; cases hy
      | some b =>
        rw [e] at hy
        cases hy
        have q := List.all_eq_true.mp hn b (List.mem_of_getElem? (i := m) (by rw [List.getElem?_take_of_lt hm]; exact e))
        cases b with
        | true => cases q
        | false => rfl
    · refine atI_nat ?_
      have e : ([PyData.str z1, .str z2, .str z3, .str z4, .str z5] : List PyData) = [z1, z2, z3, z4, z5].map .str := rfl
      rw [e, List.getElem?_map, hz]
      rfl
  exact ans _ _ _ (s.grow e3) _ (Ex.refl _) _ fun v H4 e4 r => by
    rw [r.str_inv]
    exact q H4 ((up.trans e3).trans e4)
end

/-! ### try: .. except X as e: return kind(e) -/
section
variable {X : Cx} {x m : Str} {cH : Addr} {i : Nat} {body suite : List Stmt} {b₀ : Stmt} {np pos pos' : Pos} {tb : WX → TS} {C : Addr} {ts : Addr → TS}
def onlyC (C : Addr) (ts : Addr → TS) : Addr → Value → Option Addr → TS := fun a cls d D σ H => cls = .ref C ∧ d = none ∧ ts a D σ H
def tTried (K : PySem.W.Frag) (cH : Addr) (i : Nat) (C : Addr) (tb : WX → TS) (ts : Addr → TS) : TS := fun D σ H => tb (wAs K (.ref cH) i (onlyC C ts) (fun _ _ _ _ => False) D) D σ H
theorem ps_tried (hs : X.stack = X.env :: X.outer) (hf : X.env.frame = some X.env.locals) (hN : X.N.Nodup) (hi : X.N[i]? = some m) (hln : X.env.kindOf m = some .local) (hg : Gl X x) (hm : X.mg x = some (.ref cH))
    (hb : ∀ (W : WX) (pn : List (Addr × Obj)) (xe : Value → Shared → Prop), L2N.Takes (X.tr pn xe) W → PassesOwn (model X.prog X.w) X.A X.env xe → PSs (X.tr pn xe) body (tb W))
    (hsu : ∀ (a : Addr) (oe : Obj) (pn : List (Addr × Obj)), Zc (.ref C) none oe → (∃ vs, oe.data = .fields vs) → PSs (X.suite a ((a, oe) :: pn)) (b₀ :: suite) (ts a)) (hdb : (x == ("__debug__" : Str)) = false := by decide) :
    PS X (.Try body [.ExceptHandler (some (.Name x np)) (some m) (b₀ :: suite) pos'] [] [] pos) (tTried X.K cH i C tb ts) := by
  refine L2N.ps_try_as (Wout := fun _ _ _ _ => False) (ts := onlyC C ts) hs hf hN hi hln ⟨hg, hdb, .inl hm⟩ (fun u s' z => ?_) hb fun a oe cls d pn hz hd => ?_
  · obtain ⟨_, _, _, _, _, _, _, _, _, _, _, _, _, _, _, _, z⟩ := z
    exact z.elim
  · refine ⟨fun pins s σ H D I h => ?_⟩
    obtain ⟨rfl, rfl, h⟩ := h
    exact (hsu a oe pn hz.zc hd).run pins s σ H D I h
end
theorem rx_tried {K : PySem.W.Frag} {cH C : Addr} {i : Nat} {tb : WX → TS} {ts : Addr → TS} {env : SE} {d : PyData} (hb : ∀ W, RunE K W C env.length (tb W) env) (hi : i < env.length) (he : PySem.W.exmOne K (.ref C) (.ref cH) = some true)
    (hts : ∀ (a : Addr) (D : Ends) (σ : L2.St) (H : Hp), σ[i]? = some (some (.ref a)) → (∀ v H', Ex H H' → Rp K H' v d → D.rt v H') → ts a D σ H) : RunX K (tTried K cH i C tb ts) env (.rt d) := fun Hb σ H D s g =>
  hb _ Hb σ H D s fun H' e σ' hl => ⟨true, he, fun _ a na => ⟨rfl, rfl, hts a _ _ H' (List.getElem?_set_self (by rw [hl]; exact hi)) fun v H2 e2 r => g v H2 (e.trans e2) r⟩, fun z => by cases z⟩
/-- the suite's call -/
def tKind (a : Addr) (z : Str) (te : TE) : TE := fun σ H Q => tCons te tNil σ H fun vs H1 => vs = [.ref a] ∧ ∀ H', Ex H1 H' → Q (.str z) H'
theorem pe_kind {X : Cx} {k : Nat} {f C a : Addr} {fd : FuncData} {ps : List Str} {x : Str} {q pos : Pos} {e : Expr} {te : TE} {oe : Obj} {z : Str} {pn : List (Addr × Obj)} (F : FnP X.prog X.w X.K X.mg X.base k f fd ps (spKind X.K C z)) (hr : L2H.RoomH k X.A)
    (hg : Gl X x) (hm : X.mg x = some (.ref f)) (hk : PySem.W.keepIn X.K (.ref f) = true) (hb : Binds X.K fd ps []) (hz : Zc (.ref C) none oe) (hd : ∃ vs, oe.data = .fields vs) (he : PE (X.suite a ((a, oe) :: pn)) e te)
    (hdb : (x == ("__debug__" : Str)) = false := by decide) (hst : starEach [e] X.env = [(false, eval e X.env)] := by rfl) :
    PE (X.suite a ((a, oe) :: pn)) (.Call (.Name x q) [e] [] pos) (tKind a z te) :=
  pe_callP (X := X.suite a ((a, oe) :: pn)) (p := (a, oe)) (R := fun vs H Q => vs = [.ref a] ∧ ∀ H', Ex H H' → Q (.str z) H') (fun vs H Q h => ⟨h.1, hz, hd, h.2⟩) F ⟨hr.dp, hr.un⟩ List.mem_cons_self hg hm hk hb (pa_cons he pa_nil (hs := hst)) hdb hst rfl
theorem rx_triedK {K : PySem.W.Frag} {cH C : Addr} {i : Nat} {tb : WX → TS} {env : SE} {z : Str} (hb : ∀ W, RunE K W C env.length (tb W) env) (hi : i < env.length) (he : PySem.W.exmOne K (.ref C) (.ref cH) = some true) :
    RunX K (tTried K cH i C tb (fun a => tRet (tKind a z (tVar i)))) env (.rt (.str z)) :=
  rx_tried hb hi he fun a D σ H h q => ⟨.ref a, h, rfl, fun H' e => q _ H' e (.str z)⟩
theorem un64H {k : Nat} {A : Around} (r : L2H.RoomH k A) : A.units + 64 < cLine := by have := r.un; omega
theorem un65H {k : Nat} {A : Around} (r : L2H.RoomH k A) : A.units + 65 < cLine := by have := r.un; omega
theorem op_eqK {X : Cx} {K : PySem.W.Frag} (hK : X.K = K) (hu : X.A.units + 64 < cLine) : OpR X (compareOp .Eq) (rEqD K) := by
  subst hK
  exact op_eqD hu
section
variable {K : PySem.W.Frag} {env : SE} {te ta tb : TE} {R : Hp → V → Hp → Prop} {d : PyData} {ds es : List PyData}
/-- any value -/
abbrev RAny : Hp → V → Hp → Prop := fun _ _ _ => True
theorem er_anyD (h : EvX K te env d) : EvRX K te env RAny := fun Hb σ H s Q q => h Hb σ H s H (Ex.refl H) Q fun v H2 e _ => q H v H2 (Ex.refl H) e trivial
theorem er_anyF (h : EvFX K te env ds) : EvRX K te env RAny := er_anyD (ex_new h)
theorem er_anyR (h : EvRX K te env R) : EvRX K te env RAny := fun Hb σ H s Q q => h Hb σ H s Q fun Hm v H' e1 e2 _ => q Hm v H' e1 e2 trivial
theorem rx_dropR (h : EvRX K te env R) : RunX K (tDrop te) env (.nx env) := fun Hb σ H D s g => h Hb σ H s _ fun Hm v H' e1 e2 _ => g σ H' (s.grow (e1.trans e2))
/-- xs * n -/
theorem xf_rep {k : Int} (ha : EvX K ta env (.list ds)) (hb : EvX K tb env (.int k)) (hk : 0 ≤ k ∧ k < 1000) (hl : ds.length * k.toNat ≤ 100000) : EvFX K (tOp rRep ta tb) env (List.replicate k.toNat ds).flatten := fun Hb σ H s H1 e1 Q q =>
  ha Hb σ H s H1 e1 _ fun v H2 e2 r => by
    obtain ⟨a, xs, rfl, h1, r1⟩ := r.lst_inv
    refine hb Hb σ H s H2 (e1.trans e2) _ fun w H3 e3 r2 => ?_
    rw [r2.int_inv]
    refine ⟨a, k, xs, rfl, rfl, e3 _ _ h1, by omega, by omega, ?_, fun p hp => ?_⟩
    · rw [r1.length, sizeLine_eq]
      omega
    · have rr : ∀ m : Nat, RpAll K H3 (List.replicate m xs).flatten (List.replicate m ds).flatten := fun m => by
        induction m with
        | zero => exact .nil
        | succ m ih =>
          rw [List.replicate_succ, List.replicate_succ, List.flatten_cons, List.flatten_cons]
          exact RpAll.append (r1.mono e3) ih
      exact q p _ H3 _ (fresh_back (e2.trans e3) hp) (e2.trans e3) (Ex.new hp) hp upd_same (rr _)
end
end LD
/-! An exception that leaves a list comprehension. -/
namespace LD
open PySem PySem.Spec PyProof.Rows L2 Evl LSt

/-! ### the library's level: the block only raises -/
/-- what is to hold where the block's loop ends with x -/
def Thrown (M : Model) (A : Around) (E : Value → Shared → Prop) (ce : Env) (r : Result) (s' : Shared) : Prop :=
  match r with
  | .ok _ => False
  | .error x => ∃ m, s'.heap.Ns ce.locals m ∧ ∀ h', Heap.SameBut ce.locals s'.heap h' → wpAny M A (passOn "comprehension.variables-let-go" x ce : Sem Value) (fun _ _ => False) E { s' with heap := h' }
theorem comp_thrown {M : Model} {A : Around} {E : Value → Shared → Prop} {s : Shared} {env : Env} {e : Expr} {scope : Scope} {pos : Pos} {newAcc first : Sem Value} {g : Comprehension} {gs : List Comprehension} {cl : List (Str × Addr)} {use : Option (Value → Sem Unit)} {Q : Value → Shared → Prop}
    (hcl : clausesOf e = g :: gs) (hs : ∀ x, foldedSetIterable g.iter env x = pure x) (hclos : closureFor scope env = pure cl) (hkind : scope.kind = .function) (hnames : ∀ x ∈ scope.names, x.2 = .local → scope.names.lookup x.1 = some .local)
    (h : wpAny M A first (fun x s₁ => wpAny M A (pyIter x) (fun it s₂ => wpAny M A newAcc (fun acc s₃ => wpAny M A (newFunctionEnv scope env.globals cl [] env.qual none .none (some env)) (fun cenv s₄ =>
      codeAny M A (.compStart e 0 it acc { cenv with scope := relabel scope env }) (Thrown M A E { cenv with scope := relabel scope env }) s₄) E s₃) E s₂) E s₁) E s) :
    wpAny M A (comprehension e scope env pos newAcc false first use) Q E s := by
  unfold comprehension
  rw [hclos, hcl]
  refine wpAny_bind (wpAny_mono h ?_ fun _ _ q => q)
  intro x s₁ h₁
  refine wpAny_bind (wpAny_standAt (wpAny_bind (wpAny_of_eq (hs x) (wpAny_bind (wpAny_holding (wpAny_mono h₁ ?_ fun _ _ q => q))))))
  intro it s₂ h₂
  refine wpAny_standIf (wpAny_bind (wpAny_mono h₂ ?_ fun _ _ q => q))
  intro acc s₃ h₃
  refine wpAny_bind (wpAny_pure (wpAny_bind (wpAny_mono h₃ ?_ fun _ _ q => q)))
  intro cenv s₄ h₄
  dsimp only
  refine wpAny_holding (wpAny_bind (wpAny_attempt (wpAny_holding (wpAny_run (codeAny_mono h₄ ?_)))))
  intro r s' hr
  match r, hr with
  | .error x, hr =>
    obtain ⟨m, hn, hr⟩ := hr
    refine wpAny_bind (wpAny_holding (wpAny_comp_letGo (cenv := { cenv with scope := relabel scope env }) hkind _ s' m (fun y hy hl => ?_) hn fun h' m' _ hs' => wpAny_mono (hr h' hs') (fun _ _ f => f.elim) fun _ _ q => q))
    exact lookup_relabel_local (hnames y (List.mem_filter.mp (List.mem_reverse.mp hy)).1 hl)

/-! ### an exception that this frame holds -/
section
variable {X : Cx} {pins : List (Addr × Obj)} {σ : L2.St} {H H' : Hp} {s s' : Shared} {B : Heap} {W : WX} {a : Addr} {cls : Value} {d : Option Addr}
/-- the ground that a raising callee leaves, and the exception noted at this frame -/
theorem xe_held (I : Inv X pins σ H s) (held : HandSPX.HeldZ B X.stack a (L2N.Zn cls d) X.env.locals s'.heap) (hok : HOk X.prog X.w H' B) (ub : UB (frs X.stack) H H' s.heap B s'.heap) (na : H' a = none) (os : s'.os = s.os) (ag : AllBare s'.gens) (hW : W cls d σ H') :
    L2N.XE X W (.ref a) s' := by
  have st : B.StaysIn s'.heap := held.1
  obtain ⟨G, in_, out_⟩ := restrict s'.heap fun b => (B.get? b).isSome || decide (b ∈ frs X.stack)
  have ofB : ∀ b o, B.get? b = some o → G.get? b = some o := fun b o e => (in_ b (by rw [e]; rfl)).trans (st b o e)
  have ofF : ∀ b ∈ frs X.stack, G.get? b = s'.heap.get? b := fun b hb => in_ b (by rw [decide_eq_true hb, Bool.or_true])
  have inG : ∀ b o, G.get? b = some o → s'.heap.get? b = some o ∧ ((B.get? b).isSome = true ∨ b ∈ frs X.stack) := by
    intro b o e
    by_cases q : ((B.get? b).isSome || decide (b ∈ frs X.stack)) = true
    · exact ⟨(in_ b q).symm.trans e, (Bool.or_eq_true_iff.mp q).imp id of_decide_eq_true⟩
    · rw [out_ b (Bool.eq_false_iff.mpr q)] at e
      cases e
  have J : Inv X pins σ H' { s with heap := G, gens := s'.gens, drawn := s'.drawn, toks := s'.toks } := by
    refine I.call (ch := []) ⟨fun b o e n hb _ => ofB b o (ub.keep b o e n hb), ?_, fun b o e n _ => ub.free b o e n, ?_, ub.tups, ub.frzs, ub.tbls⟩ (hok.kept ofB) ag (fun _ z => nomatch z)
    · intro b o e n hb _
      obtain ⟨sl, q⟩ := ub.slot b o e hb
      exact ⟨sl, (ofF b hb).trans q⟩
    · intro b o e _
      by_cases hb : b ∈ frs X.stack
      · obtain ⟨sl, q⟩ := ub.slot b o e hb
        exact ⟨_, (ofF b hb).trans q⟩
      · obtain ⟨o', q⟩ := ub.there b o e hb
        exact ⟨o', ofB b o' q⟩
  refine ⟨a, B, _, pins, σ, H', cls, d, rfl, J, ?_, Heap.UpToSlots.of_keeps fun b o e => (inG b o e).1, .inr (.inr held), na, os, ag, hW⟩
  intro b o e hb
  obtain ⟨e', q | q⟩ := inG b o e
  · obtain ⟨o', q⟩ := Option.isSome_iff_exists.mp q
    rw [st b o' q] at e'
    exact e' ▸ q
  · exact absurd q hb
/-- frames stand when a foreign object changes -/
theorem frames_but {base B h h' : Heap} {C : Addr} (hs : ∀ b, b ≠ C → h'.get? b = h.get? b) (hB : ∀ L, base.get? L = none → B.get? L = none) : ∀ {l : List Env}, C ∉ frs l → h.FunFrames base l → h'.FunFrames B l
  | [], _, _ => trivial
  | env :: l, hC, ⟨hk, ⟨L, o, hf, hb, ho, hd⟩, hr⟩ => by
    have hC' : C ∉ frs l := fun z => hC (by
      unfold frs at z ⊢
      rw [List.filterMap_cons, hf]
      exact List.mem_cons_of_mem _ z)
    have ne : L ≠ C := fun z => hC (by
      unfold frs
      rw [List.filterMap_cons, hf, z]
      exact List.mem_cons_self)
    exact ⟨hk, ⟨L, o, hf, hB L hb, (hs L ne).trans ho, hd⟩, frames_but hs hB hC' hr⟩
end
section
variable {X : Cx} {pins : List (Addr × Obj)} {σ : L2.St} {H' : Hp} {s0 s' : Shared} {E : XK} {ce : Env} {C : Addr} {u : Value} {m0 : Str → Option Value}
/-- a callee within the block raised: noted at the frame, the block's names let go, handed on -/
theorem block_out (hs : X.stack = X.env :: X.outer) (hf : X.env.frame = some X.env.locals) (tk : L2N.Takes X (fun cls d _ H => E cls d H)) (I : Inv X pins σ H' s0) (hcl : ce.locals = C) (hcf : ce.frame = X.env.frame) (hC : s0.heap.Ns C m0) (fp : FpOk X pins H' C) (nst : C ∉ frs X.stack)
    (c : L2N.CX X.prog X.w X.stack H' s0 E u s') {Er : Value → Shared → Prop} : wpAny (model X.prog X.w) X.A (noteFrame u ce) (fun _ s'' => Thrown (model X.prog X.w) X.A X.xe ce (.error u) s'') Er s' := by
  obtain ⟨a, B, H2, cls, d, rfl, fl, hok, ub, na, os, ag, hE⟩ := c
  obtain ⟨f0, f1, f2, f3, f4, f5⟩ := fp
  have hfr : X.A.frames = some (X.env :: X.outer) := by rw [I.ok.frames, hs]
  have en : noteFrame (.ref a) ce = noteFrame (.ref a) X.env := by
    unfold noteFrame PySem.frameOf
    rw [hcf]
  rw [en]
  rw [hs] at fl
  refine PXN.looks_onZ L2N.Zn.steady hfr hf fl fun h1 hh up1 => ?_
  obtain ⟨oC, eC⟩ : ∃ oC, s0.heap.get? C = some oC := by
    obtain ⟨o, _, _, e, _⟩ := hC
    exact ⟨o, e⟩
  have BC : B.get? C = some oC := ub.keep C oC eC f0 nst
  refine ⟨m0, ?_, ?_⟩
  · rw [hcl]
    exact Heap.Ns.at hC fun o e => hh.1 C o (ub.keep C o e f0 nst)
  · rw [hcl]
    intro h2 sb
    obtain ⟨k1, k2, k3, oe, vs, T, oT, ts, he, hz, hd, hv1, hnT, hTe, hT, hdT, hv3⟩ := hh
    have aC : a ≠ C := fun z => by rw [z, BC] at k2; cases k2
    have tC : T ≠ C := fun z => by rw [z, BC] at hnT; cases hnT
    obtain ⟨B', i1, i2⟩ := restrict B fun b => decide (b ≠ C)
    have bTo : ∀ b, b ≠ C → B'.get? b = B.get? b := fun b ne => i1 b (decide_eq_true ne)
    have bC : B'.get? C = none := i2 C (by simp)
    have bNone : ∀ b, B.get? b = none → B'.get? b = none := fun b e => by
      by_cases ne : b = C
      · rw [ne]; exact bC
      · exact (bTo b ne).trans e
    have ofB' : ∀ b o, B'.get? b = some o → b ≠ C ∧ B.get? b = some o := fun b o e => by
      have ne : b ≠ C := fun z => by rw [z, bC] at e; cases e
      exact ⟨ne, (bTo b ne).symm.trans e⟩
    have held : HandSPX.HeldZ B' (X.env :: X.outer) a (L2N.Zn cls d) X.env.locals h2 := by
      refine ⟨fun b o e => ?_, bNone a k2, frames_but (C := C) sb.2 bNone (by rw [← hs]; exact nst) k3, oe, vs, T, oT, ts, (sb.2 a aC).trans he, hz, hd, hv1, bNone T hnT, hTe, (sb.2 T tC).trans hT, hdT, hv3⟩
      obtain ⟨ne, e'⟩ := ofB' b o e
      exact (sb.2 b ne).trans (k1 b o e')
    unfold PySem.passOn
    refine wpAny_bind (wpAny_field ((sb.2 a aC).trans he) hd hv1 ?_)
    rw [if_neg (show ¬ ((Value.ref T == Value.none) = true) from by simp)]
    rw [hcf, hf]
    have fin : wpAny (model X.prog X.w) X.A (setFlight (.ref a) (some X.env.locals)) (fun _ s4 => wpAny (model X.prog X.w) X.A (throw (.ref a) : Sem Value) (fun _ _ => False) X.xe s4) X.xe { s' with heap := h2 } := by
      refine HandSPX.setFlight_onZ held fun h4 hh4 up4 => wpAny_throw (tk _ _ ?_)
      obtain ⟨G, g1, g2⟩ := restrict s0.heap fun b => decide (b ≠ C)
      have ofG : ∀ b o, G.get? b = some o → b ≠ C ∧ s0.heap.get? b = some o := fun b o e => by
        have ne : b ≠ C := fun z => by rw [z, g2 C (by simp)] at e; cases e
        exact ⟨ne, (g1 b (decide_eq_true ne)).symm.trans e⟩
      have J : Inv X pins σ H' { s0 with heap := G, toks := s0.toks } := I.turned (it := C) (fun b o ne e => (g1 b (decide_eq_true ne)).trans e) f0 f1 f3 f4 f5
      have H2C : H2 C = none := ub.free C oC eC f0
      refine xe_held (s' := { s' with heap := h4 }) J (by rw [hs]; exact hh4) (fun b o q => (hok b o q).stay (fun b' v hb r => (bTo b' fun z => ?_).trans r) (fun _ q => q) fun _ _ q => q) ⟨?_, ?_, ?_, ?_, ub.tups, ub.frzs, ub.tbls⟩ na os ag hE
      · rcases hb with hb | hb
        · rw [← hb, z, H2C] at q; cases q
        · rw [z, H2C] at hb; cases hb
      · intro b o e n hb
        obtain ⟨ne, e'⟩ := ofG b o e
        exact (bTo b ne).trans (ub.keep b o e' n hb)
      · intro b o e hb
        obtain ⟨ne, e'⟩ := ofG b o e
        obtain ⟨sl1, e1⟩ := ub.slot b o e' hb
        obtain ⟨_, o', eo, nf⟩ := I.stack.mem hb
        rw [e'] at eo
        cases eo
        obtain ⟨sl2, e2⟩ := up1 b _ e1 nf
        obtain ⟨sl3, e3⟩ := up4 b _ ((sb.2 b ne).trans e2) nf
        exact ⟨sl3, e3⟩
      · intro b o e n
        exact ub.free b o (ofG b o e).2 n
      · intro b o e hb
        obtain ⟨ne, e'⟩ := ofG b o e
        obtain ⟨o', q⟩ := ub.there b o e' hb
        exact ⟨o', (bTo b ne).trans q⟩
    first
      | exact wpAny_bind fin
      | exact wpAny_bind (wpAny_pure (wpAny_bind fin))
end
/-! ### [elt for target in iter], where an element surely raises -/
/-- D the new list; W by the turn and a measure, Nx what a turn is to reach; the loop has no end but the exception -/
def tLcE (wi : TI) (g : TG) (te : TE) (vs : List Nat) : TS := fun _ σ H => wi σ H fun J H1 => ∀ D, H1 D = none → ∃ W : Nat → Nat → Hp → Prop, (∃ m, W 0 m (upd H1 D (.lst []))) ∧ ∀ i m H, W i m H →
  J.go i H ∧ ∃ Nx : Hp → Prop, (∀ H', Nx H' → ∃ m', m' < m ∧ W (i + 1) m' H') ∧ ∀ x H', J.yld i H x H' → g x (wipe σ vs) H' fun σ2 H2 => wipe σ2 vs = wipe σ vs ∧ te σ2 H2 fun y H3 => ∃ acc, H3 D = some (.lst acc) ∧ acc.length < sizeLine ∧ Nx (upd H3 D (.lst (acc ++ [y])))
section
variable {X : Cx}
/-- the block, with another wish about exceptions -/
abbrev blkE (X : Cx) (s : Shared) (H : Hp) (scope : Scope) (ce : Env) (fp : List Addr) (xe : Value → Shared → Prop) : Cx := (X.blk s H scope ce fp).wish xe
theorem lc_raises {pins : List (Addr × Obj)} {s : Shared} {σ : L2.St} {H : Hp} {D0 : Ends} {elt tg iter : Expr} {scope : Scope} {own : List (Str × Nat)} {pos pos' : Pos} {wi : TI} {g : TG} {te : TE} {use : Option (Value → Sem Unit)} {E : XK}
    (hc : X.calm = true) (hN : X.N.Nodup) (hst : X.stack = X.env :: X.outer) (hf : X.env.frame = some X.env.locals) (tk : L2N.Takes X (fun cls d _ H => E cls d H)) (I : Inv X pins σ H s) (hi : PI X tg iter wi) (ok : BlkOk X.N X.env.scope scope own)
    (hg : ∀ (s : Shared) (H : Hp) (C : Addr) (cl : List (Str × Addr)) (fp : List Addr), PG (X.blk s H scope (compEnvC scope cl C X.env) fp) tg g)
    (he : ∀ (s : Shared) (H : Hp) (C : Addr) (cl : List (Str × Addr)) (fp : List Addr) (xe : Value → Shared → Prop), (∀ σ, PassesAt (L2N.CX X.prog X.w) (blkE X s H scope (compEnvC scope cl C X.env) fp xe) σ (L2.WE (fun cls d _ H => E cls d H) σ)) →
      PE (blkE X s H scope (compEnvC scope cl C X.env) fp xe) elt te)
    (hs : ∀ x, foldedSetIterable iter X.env x = pure x) (h : tLcE wi g te (own.map (·.2)) D0 σ H) :
    wpAny (model X.prog X.w) X.A (comprehension (.ListComp elt [⟨tg, iter, [], 0⟩] scope pos) scope X.env pos' (newList []) false (eval iter X.env) use) (fun _ _ => False) X.xe s := by
  have closed : ∀ y ∈ scope.names, y.2 = .free → ∃ c, X.env.cells.lookup y.1 = some c := fun y hy e => (ok.free y hy e).elim (fun k => I.ok.has _ (.inl k)) fun k => I.ok.has _ (.inr k)
  refine comp_thrown (use := use) rfl hs (closure_ok closed) ok.kind (fun y hy e => by rw [ok.uniq y hy, e]) (thn (hi.run pins s σ H _ I h) fun xv s1 hx => thn hx fun itv s2 h2 => ?_)
  obtain ⟨it, fp, tn, J, H2, rfl, I2, T, st2, f2, q⟩ := h2
  refine wpAny_newObj_type (newEnv_comp ?_) (by show 0 ≤ sizeLine; decide)
  generalize hD : s2.heap.objs.size = D
  obtain ⟨W, ⟨m0, w0⟩, turn⟩ := q D (I2.hok.fresh (Nat.le_of_eq hD))
  generalize hs3 : ({ s2 with heap := s2.heap.push { cls := .type "list", data := .seq ([] : List Value).toArray } } : Shared) = s3
  have grown : ∀ b o, s2.heap.get? b = some o → s3.heap.get? b = some o := fun b o e => by rw [← hs3]; exact Heap.get?_push_of_some _ e
  have I3 : Inv X pins σ (upd H2 D (.lst [])) s3 := by
    rw [← hs3]
    refine I2.laid (t' := s2.toks) (fun b o e => Heap.get?_push_of_some _ e) (Nat.le_of_eq hD) ⟨Nat.zero_le _, [], 0, .nil, ?_⟩
    rw [← hD]
    exact Heap.get?_push_size _ rfl
  have f3 : ∀ b ∈ fp, FpOk X pins (upd H2 D (.lst [])) b ∧ b < s3.heap.objs.size := fun b hb => by
    obtain ⟨o, e, _⟩ := T.obj _ _ st2 b hb
    have lt := Heap.lt_size e
    refine ⟨⟨?_, (f2 b hb).2⟩, Heap.lt_size (grown b o e)⟩
    rw [upd_ne (by rw [← hD]; exact Nat.ne_of_lt lt)]
    exact (f2 b hb).1
  have st3 : tn 0 s3.heap := T.keep _ _ _ st2 fun b _ o e => grown b o e
  have I4 := block_start I3 ok hN f3
  have pg := hg s3 (upd H2 D (.lst [])) s3.heap.objs.size (cellsFrom (s3.heap.objs.size + 1) scope.names (cloFrom X.env.cells scope.names [])) fp
  have pe := he s3 (upd H2 D (.lst [])) s3.heap.objs.size (cellsFrom (s3.heap.objs.size + 1) scope.names (cloFrom X.env.cells scope.names [])) fp
  have nfp : ∀ b ∈ fp, (upd H2 D (.lst [])) b = none := fun b hb => (f3 b hb).1.1
  show codeAny _ _ (.compStart (.ListComp elt [⟨tg, iter, [], 0⟩] scope pos) 0 (.ref it) (.ref D) (compEnvC scope (cellsFrom (s3.heap.objs.size + 1) scope.names (cloFrom X.env.cells scope.names [])) s3.heap.objs.size X.env))
    (Thrown (model X.prog X.w) X.A X.xe (compEnvC scope (cellsFrom (s3.heap.objs.size + 1) scope.names (cloFrom X.env.cells scope.names [])) s3.heap.objs.size X.env)) { s3 with heap := pushCells (s3.heap.push { cls := .type "dict", data := .dict #[] }) scope.names }
  have cF : (compEnvC scope (cellsFrom (s3.heap.objs.size + 1) scope.names (cloFrom X.env.cells scope.names [])) s3.heap.objs.size X.env).frame = X.env.frame := rfl
  have cL : (compEnvC scope (cellsFrom (s3.heap.objs.size + 1) scope.names (cloFrom X.env.cells scope.names [])) s3.heap.objs.size X.env).locals = s3.heap.objs.size := rfl
  generalize compEnvC scope (cellsFrom (s3.heap.objs.size + 1) scope.names (cloFrom X.env.cells scope.names [])) s3.heap.objs.size X.env = ce at I4 pg pe cF cL ⊢
  generalize upd H2 D (.lst []) = H3 at I3 I4 pg pe w0 nfp f3
  generalize hs4 : ({ s3 with heap := pushCells (s3.heap.push { cls := .type "dict", data := .dict #[] }) scope.names } : Shared) = s4 at I4 ⊢
  have st4 : tn 0 s4.heap := T.keep _ _ _ st3 fun b _ o e => by rw [← hs4]; exact pushCells_keeps _ _ _ _ (Heap.get?_push_of_some _ e)
  have turns : ∀ {σ' : L2.St} {H' : Hp} {s' : Shared}, Inv (X.blk s3 H3 scope ce fp) [] σ' H' s' → (∀ b ∈ fp, H' b = none) → ∀ b ∈ fp, FpOk (X.blk s3 H3 scope ce fp) [] H' b := fun {σ' H' s'} I' hn b hb =>
    ⟨hn b hb, (I'.ok.exf b hb).1, I'.ok.exfs b hb, .inl hb, fun x c e => (I'.ok.exf b hb).2 x c e, fun p hp => absurd (show p ∈ ([] : List (Addr × Obj)) ++ [] from hp) (by simp)⟩
  -- what leaves the block
  let Ex0 : Value → Shared → Prop := fun u s' => ∃ (pins' : List (Addr × Obj)) (σ' : L2.St) (H' : Hp) (s0 : Shared), Inv (X.blk s3 H3 scope ce fp) pins' σ' H' s0 ∧ L2N.CX X.prog X.w X.stack H' s0 E u s'
  have pe0 := pe Ex0 fun σ' pins' H' s0 u s' I' c => ⟨pins', σ', H', s0, I'.unwish, c⟩
  have out : ∀ u s', Ex0 u s' → notedBy (model X.prog X.w) X.A ce (fun e s' => Thrown (model X.prog X.w) X.A X.xe ce (.error e) s') u s' := by
    rintro u s' ⟨pins', σ', H', s0, I0, c⟩
    have I7 : Inv X pins σ H' s0 := I3.call' (ch := fp) I0.os I0.base I0.hok I0.bare fun b hb => ⟨(f3 b hb).1.2.2.2.1, (f3 b hb).1.2.1, (f3 b hb).1.2.2.2.2.1, (f3 b hb).1.2.2.2.2.2⟩
    have nC : H' s3.heap.objs.size = none := by
      have z : H' ce.locals = none := I0.free
      rw [cL] at z
      exact z
    obtain ⟨m, hn, _⟩ := id I0.loc
    have hn : s0.heap.Ns ce.locals m := hn
    rw [cL] at hn
    exact block_out hst hf tk I7 cL cF hn (I3.fpOk (Nat.le_refl _) nC) (fun z => by
      obtain ⟨_, o, e, _⟩ := I3.stack.mem z
      exact absurd (Heap.lt_size e) (Nat.lt_irrefl _)) c
  have loop : codeAny (model X.prog X.w) X.A (.compLoop (.ListComp elt [⟨tg, iter, [], 0⟩] scope pos) 0 (.ref it) (.ref D) ce) (Thrown (model X.prog X.w) X.A X.xe ce) s4 := by
    refine compLoop_any (fun n s' => ∃ i H', Inv (X.blk s3 H3 scope ce fp) [] (wipe σ (own.map (·.2))) H' s' ∧ tn i s'.heap ∧ (∀ b ∈ fp, H' b = none) ∧ W i n H') ?_ m0 ⟨0, H3, I4, st4, nfp, w0⟩
    rintro n s5 ⟨i, H5, I5, st5, n5, w5⟩
    obtain ⟨go, Nx, hNx, step⟩ := turn i n H5 w5
    refine thnF (T.item (X.blk s3 H3 scope ce fp) rfl rfl rfl hc i [] s5 _ H5 (fun _ _ => False) I5 (turns I5 n5) st5 go) fun r s6 ⟨u, hr, h6⟩ => ?_
    subst hr
    refine thnF h6 fun _ s7 ⟨x, H7, I7, r7, y7, st7, n7⟩ => ?_
    refine thnF (pg.run _ s7 _ H7 x u _ (I7.pinned (turns I7 n7) (T.obj _ _ st7)) r7 (step x H7 y7)) fun _ s8 ⟨σ8, H8, I8, hw8, q8⟩ => ?_
    refine wpAny_tests_nil ?_
    simp only [if_true]
    refine wpAny_mono (pe0.run _ s8 σ8 H8 _ (I8.wish Ex0) q8) ?_ fun u s' z => out u s' z
    rintro z s10 ⟨yv, H10, I10, r10, acc, hD10, hz10, nx⟩
    refine app_ok (X := X.blk s3 H3 scope ce fp) I10.unwish hD10 hz10 r10 fun s11 I11 => ?_
    obtain ⟨m', hm, w'⟩ := hNx _ nx
    have pin' : ∀ b ∈ fp, ∀ o, s7.heap.get? b = some o → s11.heap.get? b = some o ∧ (upd H10 D (.lst (acc ++ [yv]))) b = none := fun b hb o e =>
      let z := I11.pin (b, o) (List.mem_append_right _ (List.mem_append_right _ (mem_pinsAt hb e)))
      ⟨z.1, z.2.1⟩
    refine ⟨m', hm, i + 1, _, (I11.unpinned (pins := [])).weak (by rw [← hw8, wipe_length]) (fun j v e => ?_), T.keep _ _ _ st7 fun b hb o e => (pin' b hb o e).1, fun b hb => ?_, w'⟩
    · rw [← hw8] at e
      exact (wipe_some e).1
    · obtain ⟨o, e, _⟩ := T.obj _ _ st7 b hb
      exact (pin' b hb o e).2
  exact codeAny_compStart_list loop (T.self X.A 0 _ _ _ st4 loop)
/-- name = [..] on one line, the name a local -/
theorem ps_setLcE {y : Str} {py : Pos} {elt tg iter : Expr} {scope : Scope} {own : List (Str × Nat)} {pos spos : Pos} {wi : TI} {g : TG} {te : TE} {E : XK} (hc : X.calm = true) (hN : X.N.Nodup) (hst : X.stack = X.env :: X.outer) (hf : X.env.frame = some X.env.locals)
    (tk : L2N.Takes X (fun cls d _ H => E cls d H)) (hsw : swapsWith (.ListComp elt [⟨tg, iter, [], 0⟩] scope pos) (some (.Name y py)) spos.line X.env = pure true) (hi : PI X tg iter wi) (ok : BlkOk X.N X.env.scope scope own)
    (hg : ∀ (s : Shared) (H : Hp) (C : Addr) (cl : List (Str × Addr)) (fp : List Addr), PG (X.blk s H scope (compEnvC scope cl C X.env) fp) tg g)
    (he : ∀ (s : Shared) (H : Hp) (C : Addr) (cl : List (Str × Addr)) (fp : List Addr) (xe : Value → Shared → Prop), (∀ σ, PassesAt (L2N.CX X.prog X.w) (blkE X s H scope (compEnvC scope cl C X.env) fp xe) σ (L2.WE (fun cls d _ H => E cls d H) σ)) →
      PE (blkE X s H scope (compEnvC scope cl C X.env) fp xe) elt te)
    (hs : ∀ x, foldedSetIterable iter X.env x = pure x := by intro _; rfl) : PS X (.Assign [.Name y py] (.ListComp elt [⟨tg, iter, [], 0⟩] scope pos) spos) (tLcE wi g te (own.map (·.2))) := by
  refine ⟨fun pins s σ H D I h => ?_⟩
  rw [exec_Assign_Name_used _ _ _ _ hsw]
  refine wpAny_bind (wpAny_standAt (wpAny_bind ?_))
  show wpAny _ X.A (do let _ ← comprehension (.ListComp elt [⟨tg, iter, [], 0⟩] scope pos) scope X.env (firstIterPos [⟨tg, iter, [], 0⟩] pos) (newList []) false (eval iter X.env) (some (assign (.Name y py) X.env))) _ _ s
  exact wpAny_bind (wpAny_mono (lc_raises (D0 := D) hc hN hst hf tk I hi ok hg he hs h) (fun _ _ z => z.elim) fun _ _ z => z)
end
section
variable {K : PySem.W.Frag} {W : WX} {C : Addr} {n : Nat} {env : SE} {te tl : TE}
/-- its reading: the items ahead are fine, the one behind them raises -/
theorem rx_lcE {α : Type} {g : TG} {vs : List Nat} (pre post : List α) (b : α) (inj : α → PyData) (h : α → PyData) (envb : α → SE) (hl : EvX K tl env (.list ((pre ++ b :: post).map inj))) (no : noOwn env = true) (hz : pre.length < 100000)
    (hg : ∀ a, a ∈ pre ∨ a = b → CgX K g vs (wipeE env vs) (inj a) (envb a)) (he : ∀ a ∈ pre, EvX K te (envb a) (h a)) (hf : ∀ a ∈ pre, lfree (h a) = true) (hb : EvE K W C n te (envb b)) :
    RunX K (tLcE (iList K tl) g te vs) env (.ex (Wish W C n)) := fun Hb σ H D s gd =>
  hl Hb σ H s H (Ex.refl H) _ fun v H2 e2 r => by
    have sg := (s.grow e2).widen
    obtain ⟨a, xs, rfl, ha, ra⟩ := (rp_ground sg r (by rw [no, Bool.true_or])).lst_inv
    have ge : cutH H2 (ownAt σ env) = H2 := by
      funext b
      exact cutH_out (noOwn_not no)
    rw [ge] at sg ha ra
    have hlen := ra.length
    rw [List.length_map, List.length_append, List.length_cons] at hlen
    refine ⟨a, rfl, ⟨xs, .inl (.inl ha)⟩, fun Dl hD => ?_⟩
    have L := lc_list (K := K) (a := a) (xs := xs) (g := g) (tt := tYes) (te := te) (vs := vs) (σ := σ) (H1 := H2) (D := Dl) (Qd := fun _ => False) (fun i H' => i ≤ pre.length ∧ Ex H2 H' ∧ ∃ ys, H' Dl = some (.lst ys) ∧ RpAll K H' ys (lcRes (fun _ => true) h (pre.take i)))
      ⟨Nat.zero_le _, Ex.new hD, [], upd_same, .nil⟩ ?_ ?_ ?_
    · obtain ⟨Wn, w0, st⟩ := L
      refine ⟨Wn, w0, fun i m H' w => ?_⟩
      rcases st i m H' w with ⟨_, z⟩ | q
      · exact z.elim
      · exact q
    · rintro i H' _ ⟨_, e, _⟩
      exact .inl (.inl (e _ _ ha))
    · rintro i x H' hi ⟨hle, e, hacc⟩
      obtain ⟨d, hd, rd⟩ := ra.getV hi
      rw [List.getElem?_map] at hd
      by_cases hlt : i < pre.length
      · rw [List.getElem?_append_left hlt] at hd
        cases ka : pre[i]? with
        | none => rw [ka] at hd; cases hd
        | some c =>
          rw [ka] at hd
          cases hd
          have hc : c ∈ pre := List.mem_of_getElem? ka
          have es : lcRes (fun _ => true) h (pre.take (i + 1)) = lcRes (fun _ => true) h (pre.take i) ++ if (fun _ : α => true) c = true then [h c] else [] := by rw [take_snoc ka, lcRes_snoc]
          rw [es]
          refine lc_turn (items := pre) (i := i) (f := fun _ => true) sg e hD hacc (lfree_lcRes fun q hq _ => hf q (List.mem_of_mem_take hq)) ?_ no rd (hg c (.inl hc)) xt_true (fun _ => he c hc) (fun _ => hf c hc) (fun acc H' => i + 1 ≤ pre.length ∧ Ex H2 H' ∧ ∃ ys, H' Dl = some (.lst ys) ∧ RpAll K H' ys acc) fun H3 e3 h3 => ⟨hlt, e3, h3⟩
          refine Nat.lt_of_le_of_lt (Nat.le_trans (lcRes_len _ h _) ?_) hz
          rw [List.length_take]
          omega
      · have hi' : i = pre.length := by omega
        subst hi'
        rw [List.getElem?_append_right (Nat.le_refl _), Nat.sub_self] at hd
        cases hd
        have s1 : SOk K Hb H2 H' σ env := ⟨sg.base, e, sg.len, fun j sl hj => by
          have q := sg.at_ j sl hj
          cases sl with
          | no => trivial
          | dat d => exact q
          | own ds =>
            exfalso
            unfold noOwn at no
            rw [List.all_eq_true] at no
            have := no _ (List.mem_of_getElem? hj)
            simp [Sl.isOwn] at this⟩
        refine hg b (.inr rfl) Hb H2 H' σ x _ (s1.wipe vs) rd fun σ' s' hw => ⟨hw, ?_⟩
        exact hb Hb σ' H' ⟨H2, s'⟩ gd H' (Ex.refl H') _
    · rintro H' ⟨hle, _⟩
      omega
end

/-! ### exceptions whose context is told no more -/
section
variable {P : Program} {w : World} {K : PySem.W.Frag} {mg : Str → Option Value} {base : Heap}
theorem cx_less {outer : List Env} {H : Hp} {s s' : Shared} {E : XK} {u : Value} (c : L2N.CX P w outer H s E u s') : L2.CX P w outer H s E u s' := by
  obtain ⟨a, B, H', cls, d, e, fl, r⟩ := c
  exact ⟨a, B, H', cls, d, e, L2H.flyingZ_imp (fun o z => z.zc) fl, r⟩
theorem FnOk.less {f : Addr} {fd : FuncData} {ps : List Str} {k : Nat} {sp : Sp} (F : FnOk P w K mg base (L2N.CX P w) k f fd ps sp) : FnOk P w K mg base (L2.CX P w) k f fd ps sp :=
  ⟨F.len, fun A outer s H args us vs Q E hr he hb hv hs => codeAny_mono (F.run A outer s H args us vs Q E hr he hb hv hs) fun r s' q => by
    cases r with
    | error e => exact cx_less q
    | ok fl => cases fl <;> exact q⟩
/-- as ok_B, where a handled exception may be the context -/
theorem ok_B2 {x qual : Str} {st : Stmt} {f C : Addr} {fd : FuncData} {N ps : List Str} {k : Nat} {B : List PyData → Prop} (Fn : Fun K x qual st f fd) (S : FnScope N ps (defScope st)) (len : ∀ ds, B ds → ds.length = ps.length)
    (hbody : ∀ (cdv : Value) (A : Around) (outer : List Env) (s : Shared) (H : Hp) (E : XK), Room k (A.deeper (envOfC qual (defScope st) s.heap.objs.size f cdv)) → ∀ ds, B ds →
      ∃ t, PSs (cxOf (L2.CX P w) P w K mg base N qual (defScope st) f cdv A outer s H E) (defBody st) t ∧ RunE K (fun cls d _ H => E cls d H) C N.length t (env0 N.length ds)) : FnOk P w K mg base (L2.CX P w) (k + 1) f fd ps (spB K C B) := by
  refine Fn.okX S (fun vs H Q E h => ?_) fun cdv A outer s H vs Q E hr h => ?_
  · obtain ⟨ds, r, hB, _⟩ := h
    rw [r.length, len ds hB]
  · obtain ⟨ds, r, hB, q⟩ := h
    obtain ⟨t, ht, hx⟩ := hbody cdv A outer s H E hr ds hB
    exact ⟨t, ht, hx H _ H _ (std_start r) fun H' e _ _ => q H' e⟩
end
/-! ### try: .. except X: raise C(..) -/
section
variable {X : Cx} {x : Str} {cH C : Addr} {body suite : List Stmt} {b₀ : Stmt} {np pos pos' : Pos} {tb : WX → TS} {Wout : WX}
def tAgain (K : PySem.W.Frag) (cH C : Addr) (Wout : WX) (tb : WX → TS) : TS := fun D σ H => tb (wOnly K (.ref cH) (fun _ _ _ => tRaise C Wout) Wout D) D σ H
theorem ps_again (hs : X.stack = X.env :: X.outer) (hf : X.env.frame = some X.env.locals) (hg : Gl X x) (hm : X.mg x = some (.ref cH)) (hpa : ∀ hd : Option Value, PassesOwnAt (model X.prog X.w) (X.A.mark hd) X.A X.env X.xe) (tk : L2.Takes X Wout)
    (hb : ∀ (W : WX) (pn : List (Addr × Obj)) (xe : Value → Shared → Prop), L2N.Takes (X.tr pn xe) W → PassesOwn (model X.prog X.w) X.A X.env xe → PSs (X.tr pn xe) body (tb W))
    (hsu : ∀ (a : Addr) (pn : List (Addr × Obj)), L2.Takes (L2H.suiteX X a pn) Wout → L2H.HotC (L2H.suiteX X a pn) → PSs (L2H.suiteX X a pn) (b₀ :: suite) (tRaise C Wout)) (hdb : (x == ("__debug__" : Str)) = false := by decide) :
    PS X (.Try body [.ExceptHandler (some (.Name x np)) none (b₀ :: suite) pos'] [] [] pos) (tAgain X.K cH C Wout tb) :=
  L2H.ps_try_onlyX hs hf ⟨hg, hdb, .inl hm⟩ hpa tk (fun W pn xe t1 _ own => hb W pn xe t1 own) fun a oe cls d pn _ _ t1 hot => hsu a _ t1 hot
theorem rx_again {K : PySem.W.Frag} {C1 : Addr} {n : Nat} {env : SE} (hb : ∀ W, RunE K W C1 n (tb W) env) (he : PySem.W.exmOne K (.ref C1) (.ref cH) = some true) : RunE K Wout C n (tAgain K cH C Wout tb) env := fun Hb σ H D s g =>
  hb _ Hb σ H D s fun H' e σ' hl => ⟨true, he, fun _ a na => g H' e σ' hl, fun z => by cases z⟩
end
section
variable {X : Cx} {x m : Str} {cH : Addr} {i : Nat} {body suite : List Stmt} {b₀ : Stmt} {np pos pos' : Pos} {tb : WX → TS} {C : Addr} {ts : Addr → TS}
theorem ps_tried2 (hs : X.stack = X.env :: X.outer) (hf : X.env.frame = some X.env.locals) (hN : X.N.Nodup) (hi : X.N[i]? = some m) (hln : X.env.kindOf m = some .local) (hg : Gl X x) (hm : X.mg x = some (.ref cH))
    (hb : ∀ (W : WX) (pn : List (Addr × Obj)) (xe : Value → Shared → Prop), L2.Takes (X.tr pn xe) W → PassesOwn (model X.prog X.w) X.A X.env xe → PSs (X.tr pn xe) body (tb W))
    (hsu : ∀ (a : Addr) (oe : Obj) (pn : List (Addr × Obj)), Zc (.ref C) none oe → (∃ vs, oe.data = .fields vs) → PSs (X.suite a ((a, oe) :: pn)) (b₀ :: suite) (ts a)) (hdb : (x == ("__debug__" : Str)) = false := by decide) :
    PS X (.Try body [.ExceptHandler (some (.Name x np)) (some m) (b₀ :: suite) pos'] [] [] pos) (tTried X.K cH i C tb ts) := by
  refine L2.ps_try_as (Wout := fun _ _ _ _ => False) (ts := onlyC C ts) hs hf hN hi hln ⟨hg, hdb, .inl hm⟩ takes0 hb fun a oe cls d pn hz hd => ?_
  refine ⟨fun pins s σ H D I h => ?_⟩
  obtain ⟨rfl, rfl, h⟩ := h
  exact (hsu a oe pn hz hd).run pins s σ H D I h
end
end LD
/-! xs[j] = e, and what raises within a tuple. -/
namespace LD
open PySem PySem.Spec L2 Evl LSt
section
variable {K : PySem.W.Frag} {env : SE} {te te2 tj : TE} {tr : TA} {ds : List PyData} {d : PyData}
theorem RpAll.set {H : Hp} : ∀ {xs : List V} {ds : List PyData} {n : Nat} {v : V} {d : PyData}, RpAll K H xs ds → Rp K H v d → RpAll K H (xs.set n v) (ds.set n d)
  | [], [], _, _, _, .nil, _ => .nil
  | _ :: _, _ :: _, 0, _, _, .cons _ t, r => .cons r t
  | _ :: _, _ :: _, _ + 1, _, _, .cons h t, r => .cons h (RpAll.set t r)
/-- xs[j] = e, xs the frame's one own list -/
theorem rx_setL {i : Nat} {j : Int} {n : Nat} (h : env[i]? = some (.own ds)) (he : EvX K te env d) (hj : EvX K tj env (.int j)) (hn : ixN ds.length j = some n) (hd : lfree d = true) (one : noOwn (env.set i .no) = true) :
    RunX K (tAsg te (gSub (tVar i) tj rSetL)) env (.nx (env.set i (.own (ds.set n d)))) := fun Hb σ H D s g =>
  he Hb σ H s H (Ex.refl H) _ fun v H1 e1 rv => by
    obtain ⟨l, xs, hv, hx, hn0, hl, r⟩ := own_slot (s.grow e1).widen h
    refine ⟨.ref l, hv, hj Hb σ H s H1 e1 _ fun w H2 e2 rw => ?_⟩
    have s2 := (s.grow (e1.trans e2)).widen
    obtain ⟨l', xs', hv', hx', hn', hl', r'⟩ := own_slot s2 h
    rw [hv] at hv'
    cases hv'
    rw [rw.int_inv]
    refine ⟨l, xs', j, n, rfl, rfl, hl', by rw [r'.length]; exact hn, g _ _ ⟨_, s2.store hx hn' (List.getElem?_eq_some_iff.mp h).1 one (r'.set (rp_ground s2 (rv.mono e2) (by rw [hd, Bool.or_true])))⟩⟩
end
section
variable {K : PySem.W.Frag} {W : WX} {C : Addr} {n : Nat} {env : SE} {te te2 : TE} {tr : TA} {d : PyData}
theorem ee_tup1 (h : EvE K W C n te env) : EvE K W C n (tTup (tCons te tr)) env := fun Hb σ H s g H1 e1 Q => h Hb σ H s g H1 e1 _
theorem ee_tup2 (h1 : EvX K te env d) (h2 : EvE K W C n te2 env) : EvE K W C n (tTup (tCons te (tCons te2 tr))) env := fun Hb σ H s g H1 e1 Q =>
  h1 Hb σ H s H1 e1 _ fun _ H2 e2 _ => h2 Hb σ H s g H2 (e1.trans e2) _
end
end LD
namespace HB
open PySem PySem.Spec L2 LSt LD
local macro_rules | `(tactic| wtm_at "side") => `(tactic| first
  | exact rfl
  | (left; omega)
  | (right; omega)
  | omega
  | (constructor <;> omega)
  | assumption)
local macro_rules | `(tactic| wtm_at "later") => `(tactic| first | wtm_at "side" | rotate_left)
local macro_rules | `(tactic| wtm_at "ev") => `(tactic| first
  | exact ex_var rfl
  | exact ex_int
  | exact ex_str
  | exact ex_bl
  | exact ex_non
  | exact ex_own rfl
  | (apply ex_I0; wtm_at "ev"; wtm_at "ev")
  | (apply ex_B0; wtm_at "ev"; wtm_at "ev")
  | (apply ex_I; wtm_at "ev"; wtm_at "ev"; wtm_at "later")
  | (apply ex_U; wtm_at "ev")
  | (apply ex_len; wtm_at "ev"; wtm_at "later")
  | (apply ex_abs; wtm_at "ev")
  | (apply ex_min2; wtm_at "ev"; wtm_at "ev")
  | (apply ex_max2; wtm_at "ev"; wtm_at "ev")
  | (apply ex_chainI; wtm_at "ev"; wtm_at "ev"; wtm_at "ev")
  | (apply ex_ixT; wtm_at "ev"; wtm_at "ev"; wtm_at "later")
  | (apply ex_ixL; wtm_at "ev"; wtm_at "ev"; wtm_at "later")
  | (apply ex_tup; wtm_at "ev"; exact Nat.le_of_ble_eq_true rfl)
  | (apply ea_cons; wtm_at "ev"; wtm_at "ev")
  | exact ea_nil)

/-! ### data and bounds -/
def Small (p : HP.Pt) : Prop := -1099511627776 ≤ p.1 ∧ p.1 ≤ 1099511627776 ∧ -1099511627776 ≤ p.2 ∧ p.2 ≤ 1099511627776
def Smalls (ps : List HP.Pt) : Prop := ps.length ≤ 1000 ∧ ∀ p ∈ ps, Small p
/-- a point of the plane's part -/
def Near (p : HP.Pt) : Prop := -1000 ≤ p.1 ∧ p.1 ≤ 1000 ∧ -1000 ≤ p.2 ∧ p.2 ≤ 1000
def Nears (ps : List HP.Pt) : Prop := ps.length < 64 ∧ ∀ p ∈ ps, Near p
theorem Near.small {p : HP.Pt} (h : Near p) : Small p := by unfold Near at h; unfold Small; omega
theorem Nears.smalls {ps : List HP.Pt} (h : Nears ps) : Smalls ps := ⟨by have := h.1; omega, fun p hp => (h.2 p hp).small⟩
theorem mul_bound {x y : Int} {a b : Nat} (hx : x.natAbs ≤ a) (hy : y.natAbs ≤ b) : (x * y).natAbs ≤ a * b := by
  rw [Int.natAbs_mul]
  exact Nat.mul_le_mul hx hy
theorem turn_bound {a b c : HP.Pt} (ha : Near a) (hb : Near b) (hc : Near c) : (HP.turn a b c).natAbs ≤ 8000000 := by
  unfold Near at *
  have h1 : ((b.1 - a.1) * (c.2 - a.2)).natAbs ≤ 2000 * 2000 := mul_bound (by omega) (by omega)
  have h2 : ((b.2 - a.2) * (c.1 - a.1)).natAbs ≤ 2000 * 2000 := mul_bound (by omega) (by omega)
  unfold HP.turn
  omega
/-- three ints -/
abbrev wD : HP.W → PyData := w3D
/-- a point and its part -/
def partD (x : HP.Pt × Int) : PyData := .tuple [ptD x.1, .int x.2]
theorem shaped_pt (p : HP.Pt) : SeqAt.shaped (ptD p) = true := rfl
theorem lay_pts : ∀ ps : List HP.Pt, PyData.canLayAll0 (ps.map ptD) = true
  | [] => rfl
  | p :: ps => by
    show (PyData.canLay0 (ptD p) && PyData.canLayAll0 (ps.map ptD)) = true
    rw [lay_pts ps]
    rfl
theorem depth_pts : ∀ ps : List HP.Pt, PyData.depthAll (ps.map ptD) ≤ 1
  | [] => by simp [PyData.depthAll]
  | p :: ps => by
    have h := depth_pts ps
    have h2 : (ptD p).depth = 1 := rfl
    simp only [List.map_cons, PyData.depthAll]
    omega
theorem shaped_pts (ps : List HP.Pt) : SeqAt.shaped (ptsD ps) = true := by
  have h := depth_pts ps
  have h2 : PyData.depth (ptsD ps) ≤ 64 := by
    unfold ptsD
    simp only [PyData.depth]
    omega
  show (PyData.canLay0 (ptsD ps) && decide (PyData.depth (ptsD ps) ≤ 64)) = true
  rw [Bool.and_eq_true]
  refine ⟨?_, decide_eq_true h2⟩
  unfold ptsD
  simp only [PyData.canLay0]
  exact lay_pts ps
theorem eqv_pt (p q : HP.Pt) : PyData.eqv (ptD p) (ptD q) = decide (p = q) := by
  obtain ⟨a, b⟩ := p
  obtain ⟨c, d⟩ := q
  have e : PyData.eqv (ptD (a, b)) (ptD (c, d)) = ((a == c) && ((b == d) && true)) := by simp only [ptD, PyData.eqv, PyData.eqvAll]
  rw [e]
  by_cases h1 : a = c
  · by_cases h2 : b = d
    · subst h1 h2; simp
    · simp [h2]
  · simp [h1]
theorem eqv_int (i j : Int) : PyData.eqv (.int i) (.int j) = decide (i = j) := by
  simp only [PyData.eqv]
  by_cases h : i = j <;> simp [h]
theorem eqv_pts : ∀ ps qs : List HP.Pt, PyData.eqvAll (ps.map ptD) (qs.map ptD) = decide (ps = qs)
  | [], [] => rfl
  | [], q :: qs => by simp [PyData.eqvAll]
  | p :: ps, [] => by simp [PyData.eqvAll]
  | p :: ps, q :: qs => by
    simp only [List.map_cons, PyData.eqvAll]
    rw [eqv_pt, eqv_pts ps qs]
    by_cases h1 : p = q
    · by_cases h2 : ps = qs <;> simp [h1, h2]
    · simp [h1]
theorem eqv_ptsD (ps qs : List HP.Pt) : PyData.eqv (ptsD ps) (ptsD qs) = decide (ps = qs) := by
  unfold ptsD
  simp only [PyData.eqv]
  exact eqv_pts ps qs
theorem cut_init {α : Type} (xs : List α) : cutD xs none (some (-1)) = xs.dropLast := by
  unfold cutD
  rw [HT.sIx_none, List.drop_zero, Nat.sub_zero, List.dropLast_eq_take]
  congr 1
  show (if (-1 : Int) < 0 then ((-1 : Int) + (xs.length : Int)).toNat else min (-1 : Int).toNat xs.length) = xs.length - 1
  rw [if_pos (by omega)]
  omega
/-- one line of the order of the points -/
theorem lexB_lt (p q : HP.Pt) : SrtO.lexB p q = decide (HP.lt p q) := by
  by_cases h : HP.lt p q
  · rw [decide_eq_true h]
    exact SrtO.lexB_iff.mpr h
  · rw [decide_eq_false h]
    exact SrtO.lexB_no.mpr h
theorem srt_of {m ps : List HP.Pt} (nd : m.Nodup) (hm : ∀ x, x ∈ m ↔ x ∈ ps) (hp : m.Pairwise fun p q => SrtO.lexB q p = false) : m = HP.srt ps := by
  refine HP.sorted_unique ?_ (HP.srt_sorted ps) fun x => (hm x).trans HP.mem_srt.symm
  refine List.Pairwise.imp (fun {p q} h => ?_) (List.Pairwise.and nd hp)
  obtain ⟨h1, h2⟩ := h
  rw [lexB_lt] at h2
  rcases HP.lt_tot p q with h | h | h
  · exact h
  · exact absurd h h1
  · exact absurd h (of_decide_eq_false h2)
theorem at_nat {α : Type} {xs : List α} {i : Int} {x : α} (h0 : 0 ≤ i) (h : xs[i.toNat]? = some x) : atI xs i = some x := by
  have : i = (i.toNat : Int) := by omega
  rw [this]
  exact atI_nat h
/-- xs.index(x), x a point of the list -/
theorem ex_indexP {K : PySem.W.Frag} {env : SE} {ta te : TE} {ps : List HP.Pt} {q : HP.Pt} (h1 : EvX K ta env (ptsD ps)) (h2 : EvX K te env (ptD q)) (hq : q ∈ ps) : EvX K (tBM K "list" (rIndexD K) ta (tCons te tNil)) env (.int (ps.idxOf q : Nat)) := by
  have hl := List.idxOf_lt_length_iff.mpr hq
  refine ex_index (j := ps.idxOf q) (z := ptD q) h1 h2 (shaped_pts ps) (shaped_pt q) ?_ ?_ fun m z' hm hz => ?_
  · rw [List.getElem?_map, List.getElem?_eq_getElem hl, List.getElem_idxOf hl]
    rfl
  · rw [eqv_pt]
    exact decide_eq_true rfl
  · rw [List.getElem?_map] at hz
    have hml : m < ps.length := by omega
    rw [List.getElem?_eq_getElem hml] at hz
    cases hz
    rw [eqv_pt]
    refine decide_eq_false fun e => ?_
    have := List.not_of_lt_findIdx (p := (· == q)) (xs := ps) (by simpa [List.idxOf] using hm)
    simp [e] at this
theorem code_le3 {u v : HP.W} (hu : (0 ≤ u.1 ∧ u.1 < bigB) ∧ (0 ≤ u.2.1 ∧ u.2.1 < bigB) ∧ (0 ≤ u.2.2 ∧ u.2.2 < bigB)) (hv : (0 ≤ v.1 ∧ v.1 < bigB) ∧ (0 ≤ v.2.1 ∧ v.2.1 < bigB) ∧ (0 ≤ v.2.2 ∧ v.2.2 < bigB))
    (h : TS.code bigB [u.1, u.2.1, u.2.2] ≤ TS.code bigB [v.1, v.2.1, v.2.2]) : HP.le3 u v = true := by
  have e : ∀ x : HP.W, TS.code bigB [x.1, x.2.1, x.2.2] = x.1 * 1208925819614629174706176 + (x.2.1 * 1099511627776 + x.2.2) := fun x => by
    show x.1 * bigB ^ 2 + (x.2.1 * bigB ^ 1 + (x.2.2 * bigB ^ 0 + 0)) = _
    unfold bigB
    omega
  rw [e, e] at h
  unfold bigB at hu hv
  unfold HP.le3
  rw [decide_eq_true_eq]
  omega
/-- a loop that searches, the answer a new list -/
theorem fr_findF {K : PySem.W.Frag} {α : Type} {g : TG} {tb : TS} (inj : α → PyData) (f : α → Option (List PyData)) (env : SE) (items : List α)
    (h : ∀ a ∈ items, ∃ e1, TgX K g env (inj a) e1 ∧ (∀ ds, f a = some ds → RunX K tb e1 (.rf ds)) ∧ (f a = none → RunX K tb e1 (.nx env))) :
    Fr K g tb (items.map inj) env (match items.findSome? f with | some ds => .rf ds | none => .nx env) := by
  induction items with
  | nil => exact .done
  | cons a items ih =>
    obtain ⟨e1, h1, h2, h3⟩ := h a (by simp)
    cases k : f a with
    | some d =>
      rw [List.findSome?_cons, k]
      exact .rf h1 (h2 d k)
    | none =>
      rw [List.findSome?_cons, k]
      exact .turn h1 (h3 k) (ih fun b hb => h b (List.mem_cons_of_mem _ hb))
theorem rx_findF {K : PySem.W.Frag} {env e : SE} {t u : TS} {out : Out} {α : Type} {f : α → Option (List PyData)} {items : List α} (h : RunX K t env (match items.findSome? f with | some d => .rf d | none => .nx e)) (h1 : ∀ d, items.findSome? f = some d → out = .rf d) (h2 : items.findSome? f = none → RunX K u e out) : RunX K (tSeq t u) env out := by
  cases k : items.findSome? f with
  | some d =>
    rw [k] at h
    rw [h1 d k]
    exact rx_end h rfl
  | none =>
    rw [k] at h
    exact rx_seq h (h2 k)
def outO : Option (List PyData) → Out
  | none => .rt .none
  | some es => .rf es
theorem un65 {k : Nat} {A : Around} (r : Room k A) : A.units + 65 < cLine := by have := r.un; omega
theorem find_map {α β γ : Type} (f : α → Option β) (g : β → γ) : ∀ l : List α, (l.findSome? fun a => (f a).map g) = (l.findSome? f).map g
  | [] => rfl
  | a :: l => by
    rw [List.findSome?_cons, List.findSome?_cons, find_map f g l]
    cases f a <;> rfl
/-- a body of statements, and what stands behind it -/
theorem rx_assoc1 {K : PySem.W.Frag} {env e : SE} {t w : TS} {out : Out} (h : RunX K t env (.nx e)) (h2 : RunX K w e out) : RunX K (tSeq t w) env out := rx_seq h h2
theorem atI_pts {rim : List HP.Pt} {i : Int} (h0 : 0 ≤ i) (h : i < rim.length) : atI (rim.map ptD) i = some (ptD (HP.atN rim i.toNat)) := by
  refine at_nat h0 ?_
  have hi : i.toNat < rim.length := by omega
  rw [List.getElem?_map, List.getElem?_eq_getElem hi]
  unfold HP.atN
  rw [List.getD_eq_getElem?_getD, List.getElem?_eq_getElem hi]
  rfl
/-- what a search ends with -/
abbrev outF (o : Option PyData) (e : SE) : Out := match o with
  | some d => .rt d
  | none => .nx e
theorem fr_findM {K : PySem.W.Frag} {α : Type} {g : TG} {tb : TS} (inj : α → PyData) (f : α → Option PyData) (env : SE) (items : List α)
    (h : ∀ a ∈ items, ∃ e1, TgX K g env (inj a) e1 ∧ RunX K tb e1 (outF (f a) env)) : Fr K g tb (items.map inj) env (outF (items.findSome? f) env) :=
  fr_find inj f env items fun a ha => by
    obtain ⟨e1, h1, h2⟩ := h a ha
    exact ⟨e1, h1, fun d hd => by rw [hd] at h2; exact h2, fun hn => by rw [hn] at h2; exact h2⟩
theorem rx_postM {K : PySem.W.Frag} {env e e' : SE} {t : TS} {o : Option PyData} (h : RunX K t env (outF o e)) (k : Wk e e') : RunX K t env (outF o e') := by
  cases o with
  | none => exact rx_post h k
  | some d => exact h
theorem nodup_len : ∀ {l m : List HP.Pt}, l.Nodup → (∀ x ∈ l, x ∈ m) → l.length ≤ m.length
  | [], _, _, _ => Nat.zero_le _
  | a :: l, m, h, k => by
    obtain ⟨h1, h2⟩ := List.nodup_cons.mp h
    have ha : a ∈ m := k a (by simp)
    have := nodup_len (m := m.erase a) h2 fun x hx => (List.mem_erase_of_ne (fun e : x = a => h1 (by rw [← e]; exact hx))).mpr (k x (List.mem_cons_of_mem _ hx))
    rw [List.length_erase_of_mem ha] at this
    have := List.length_pos_of_mem ha
    simp only [List.length_cons]
    omega
theorem rim_len (ps : List HP.Pt) : (HP.cornersOf ps).length ≤ ps.length := by
  have R := HP.rim_ok ps
  exact nodup_len R.nodup R.sub
theorem fold_snoc' {α β : Type} (f : α → β) : ∀ (l : List α) (s : List β), l.foldl (fun s a => s ++ [f a]) s = s ++ l.map f
  | [], s => by simp
  | a :: l, s => by
    rw [List.foldl_cons, fold_snoc' f l]
    simp

/-! ### the text -/
def topS (i : Nat) : Stmt := PySem.Challenge.pw_hullpart_k14_unread.main.body.getD i (.Pass ⟨0, 0, 0, 0⟩)
abbrev s_ask_point : Stmt := topS 10
abbrev N_ask_point : List Str := ["point", "place"]
theorem sc_ask_point : FnScope N_ask_point ["point"] (defScope s_ask_point) := ⟨rfl, rfl, rfl, by decide +kernel, rfl, by decide +kernel, by decide +kernel⟩
abbrev s_ask_points : Stmt := topS 11
abbrev N_ask_points : List Str := ["points", "point"]
theorem sc_ask_points : FnScope N_ask_points ["points"] (defScope s_ask_points) := ⟨rfl, rfl, rfl, by decide +kernel, rfl, by decide +kernel, by decide +kernel⟩
abbrev s_place_of : Stmt := topS 14
abbrev N_place_of : List Str := ["word", "figures", "sign"]
theorem sc_place_of : FnScope N_place_of ["word"] (defScope s_place_of) := ⟨rfl, rfl, rfl, by decide +kernel, rfl, by decide +kernel, by decide +kernel⟩
abbrev s_point_of : Stmt := topS 15
abbrev N_point_of : List Str := ["word", "parts"]
theorem sc_point_of : FnScope N_point_of ["word"] (defScope s_point_of) := ⟨rfl, rfl, rfl, by decide +kernel, rfl, by decide +kernel, by decide +kernel⟩
abbrev s_read : Stmt := topS 16
abbrev N_read : List Str := ["text", "points", "word"]
theorem sc_read : FnScope N_read ["text"] (defScope s_read) := ⟨rfl, rfl, rfl, by decide +kernel, rfl, by decide +kernel, by decide +kernel⟩
abbrev s__law_cell_at : Stmt := topS 18
abbrev N__law_cell_at : List Str := ["script", "k"]
theorem sc__law_cell_at : FnScope N__law_cell_at ["script", "k"] (defScope s__law_cell_at) := ⟨rfl, rfl, rfl, by decide +kernel, rfl, by decide +kernel, by decide +kernel⟩
abbrev s__law_next : Stmt := topS 19
abbrev N__law_next : List Str := ["seed"]
theorem sc__law_next : FnScope N__law_next ["seed"] (defScope s__law_next) := ⟨rfl, rfl, rfl, by decide +kernel, rfl, by decide +kernel, by decide +kernel⟩
abbrev s__law_points : Stmt := topS 20
abbrev N__law_points : List Str := ["script", "at", "most", "many", "span", "points", "k", "seed", "wide", "across", "point"]
theorem sc__law_points : FnScope N__law_points ["script", "at", "most"] (defScope s__law_points) := ⟨rfl, rfl, rfl, by decide +kernel, rfl, by decide +kernel, by decide +kernel⟩
abbrev s__law_text : Stmt := topS 21
abbrev N__law_text : List Str := ["points", "point"]
theorem sc__law_text : FnScope N__law_text ["points"] (defScope s__law_text) := ⟨rfl, rfl, rfl, by decide +kernel, rfl, by decide +kernel, by decide +kernel⟩
abbrev s__law_kind : Stmt := topS 22
abbrev N__law_kind : List Str := ["e", "kinds"]
theorem sc__law_kind : FnScope N__law_kind ["e"] (defScope s__law_kind) := ⟨rfl, rfl, rfl, by decide +kernel, rfl, by decide +kernel, by decide +kernel⟩
abbrev s__law_tried : Stmt := topS 23
abbrev N__law_tried : List Str := ["text", "e"]
theorem sc__law_tried : FnScope N__law_tried ["text"] (defScope s__law_tried) := ⟨rfl, rfl, rfl, by decide +kernel, rfl, by decide +kernel, by decide +kernel⟩
abbrev s__law_spoiled : Stmt := topS 24
abbrev N__law_spoiled : List Str := ["words", "way", "cell", "at", "parts", "text", "some", "word", "k"]
theorem sc__law_spoiled : FnScope N__law_spoiled ["words", "way", "cell"] (defScope s__law_spoiled) := ⟨rfl, rfl, rfl, by decide +kernel, rfl, by decide +kernel, by decide +kernel⟩
abbrev s_law : Stmt := topS 25
abbrev N_law : List Str := ["script", "points", "words", "bad", "some", "point"]
theorem sc_law : FnScope N_law ["script"] (defScope s_law) := ⟨rfl, rfl, rfl, by decide +kernel, rfl, by decide +kernel, by decide +kernel⟩
/-- where the defs stand -/
structure Ad where
  a_ask_point : Addr
  d_ask_point : FuncData
  a_ask_points : Addr
  d_ask_points : FuncData
  a_place_of : Addr
  d_place_of : FuncData
  a_point_of : Addr
  d_point_of : FuncData
  a_read : Addr
  d_read : FuncData
  a__law_cell_at : Addr
  d__law_cell_at : FuncData
  a__law_next : Addr
  d__law_next : FuncData
  a__law_points : Addr
  d__law_points : FuncData
  a__law_text : Addr
  d__law_text : FuncData
  a__law_kind : Addr
  d__law_kind : FuncData
  a__law_tried : Addr
  d__law_tried : FuncData
  a__law_spoiled : Addr
  d__law_spoiled : FuncData
  a_law : Addr
  d_law : FuncData
  t_MOST : Tok
  t_FAR : Tok
  t_FIGURES : Tok
  c_HullError : Addr
  c_NoPoint : Addr
  c_NoSpot : Addr
  c_NoFour : Addr
  c_NoMiddle : Addr
  c_NoNote : Addr
/-- what the top leaves -/
structure Txt (K : PySem.W.Frag) (mg : Str → Option Value) (ad : Ad) : Prop where
  F_ask_point : Fun K "ask_point" "ask_point" s_ask_point ad.a_ask_point ad.d_ask_point
  g_ask_point : mg "ask_point" = some (.ref ad.a_ask_point)
  b_ask_point : Binds K ad.d_ask_point ["point"] []
  F_ask_points : Fun K "ask_points" "ask_points" s_ask_points ad.a_ask_points ad.d_ask_points
  g_ask_points : mg "ask_points" = some (.ref ad.a_ask_points)
  b_ask_points : Binds K ad.d_ask_points ["points"] []
  F_place_of : Fun K "place_of" "place_of" s_place_of ad.a_place_of ad.d_place_of
  g_place_of : mg "place_of" = some (.ref ad.a_place_of)
  b_place_of : Binds K ad.d_place_of ["word"] []
  F_point_of : Fun K "point_of" "point_of" s_point_of ad.a_point_of ad.d_point_of
  g_point_of : mg "point_of" = some (.ref ad.a_point_of)
  b_point_of : Binds K ad.d_point_of ["word"] []
  F_read : Fun K "read" "read" s_read ad.a_read ad.d_read
  g_read : mg "read" = some (.ref ad.a_read)
  b_read : Binds K ad.d_read ["text"] []
  F__law_cell_at : Fun K "_law_cell_at" "_law_cell_at" s__law_cell_at ad.a__law_cell_at ad.d__law_cell_at
  g__law_cell_at : mg "_law_cell_at" = some (.ref ad.a__law_cell_at)
  b__law_cell_at : Binds K ad.d__law_cell_at ["script", "k"] []
  F__law_next : Fun K "_law_next" "_law_next" s__law_next ad.a__law_next ad.d__law_next
  g__law_next : mg "_law_next" = some (.ref ad.a__law_next)
  b__law_next : Binds K ad.d__law_next ["seed"] []
  F__law_points : Fun K "_law_points" "_law_points" s__law_points ad.a__law_points ad.d__law_points
  g__law_points : mg "_law_points" = some (.ref ad.a__law_points)
  b__law_points : Binds K ad.d__law_points ["script", "at", "most"] []
  F__law_text : Fun K "_law_text" "_law_text" s__law_text ad.a__law_text ad.d__law_text
  g__law_text : mg "_law_text" = some (.ref ad.a__law_text)
  b__law_text : Binds K ad.d__law_text ["points"] []
  F__law_kind : Fun K "_law_kind" "_law_kind" s__law_kind ad.a__law_kind ad.d__law_kind
  g__law_kind : mg "_law_kind" = some (.ref ad.a__law_kind)
  b__law_kind : Binds K ad.d__law_kind ["e"] []
  F__law_tried : Fun K "_law_tried" "_law_tried" s__law_tried ad.a__law_tried ad.d__law_tried
  g__law_tried : mg "_law_tried" = some (.ref ad.a__law_tried)
  b__law_tried : Binds K ad.d__law_tried ["text"] []
  F__law_spoiled : Fun K "_law_spoiled" "_law_spoiled" s__law_spoiled ad.a__law_spoiled ad.d__law_spoiled
  g__law_spoiled : mg "_law_spoiled" = some (.ref ad.a__law_spoiled)
  b__law_spoiled : Binds K ad.d__law_spoiled ["words", "way", "cell"] []
  F_law : Fun K "law" "law" s_law ad.a_law ad.d_law
  g_law : mg "law" = some (.ref ad.a_law)
  b_law : Binds K ad.d_law ["script"] []
  c_MOST : mg "MOST" = some (.int 12 ad.t_MOST)
  c_FAR : mg "FAR" = some (.int 1000 ad.t_FAR)
  c_FIGURES : mg "FIGURES" = some (.str "0123456789" ad.t_FIGURES)
  n_len : mg "len" = none
  n_int : mg "int" = none
  n_range : mg "range" = none
  n_str : mg "str" = none
  n_isinstance : mg "isinstance" = none
  n_ValueError : mg "ValueError" = none
  g_HullError : mg "HullError" = some (.ref ad.c_HullError)
  R_HullError : RCls K ad.c_HullError
  g_NoPoint : mg "NoPoint" = some (.ref ad.c_NoPoint)
  R_NoPoint : RCls K ad.c_NoPoint
  g_NoSpot : mg "NoSpot" = some (.ref ad.c_NoSpot)
  R_NoSpot : RCls K ad.c_NoSpot
  g_NoFour : mg "NoFour" = some (.ref ad.c_NoFour)
  R_NoFour : RCls K ad.c_NoFour
  g_NoMiddle : mg "NoMiddle" = some (.ref ad.c_NoMiddle)
  R_NoMiddle : RCls K ad.c_NoMiddle
  g_NoNote : mg "NoNote" = some (.ref ad.c_NoNote)
  R_NoNote : RCls K ad.c_NoNote
  s_NoNote_HullError : PySem.W.subIn K (.ref ad.c_NoNote) (.ref ad.c_HullError) = some true
  s_NoNote_NoPoint : PySem.W.subIn K (.ref ad.c_NoNote) (.ref ad.c_NoPoint) = some false
  s_NoNote_NoSpot : PySem.W.subIn K (.ref ad.c_NoNote) (.ref ad.c_NoSpot) = some false
  s_NoNote_NoFour : PySem.W.subIn K (.ref ad.c_NoNote) (.ref ad.c_NoFour) = some false
  s_NoNote_NoMiddle : PySem.W.subIn K (.ref ad.c_NoNote) (.ref ad.c_NoMiddle) = some false
  s_NoPoint_HullError : PySem.W.subIn K (.ref ad.c_NoPoint) (.ref ad.c_HullError) = some true
  s_NoPoint_NoSpot : PySem.W.subIn K (.ref ad.c_NoPoint) (.ref ad.c_NoSpot) = some false
  s_NoPoint_NoFour : PySem.W.subIn K (.ref ad.c_NoPoint) (.ref ad.c_NoFour) = some false
  s_NoPoint_NoMiddle : PySem.W.subIn K (.ref ad.c_NoPoint) (.ref ad.c_NoMiddle) = some false
  s_NoPoint_NoNote : PySem.W.subIn K (.ref ad.c_NoPoint) (.ref ad.c_NoNote) = some false

def F_ask_point : List PyData → Prop := fun ds => ∃ p : HP.Pt, ds = [ptD p] ∧ Near p
theorem ok_ask_point {P : Program} {w : World} {K : PySem.W.Frag} {mg : Str → Option Value} {base : Heap} {ad : Ad} (T : Txt K mg ad) : FnOk P w K mg base CX0 1 ad.a_ask_point ad.d_ask_point ["point"] (spD K fun ds d => F_ask_point ds ∧ d = .none) := by
  refine ok_N (k := 0) T.F_ask_point sc_ask_point (by rintro _ ⟨_, rfl, _⟩; rfl) (fun cdv A outer s H E hr ds hF => ?_)
  refine ⟨_, (pss_one (ps_for PassesOwn.never rfl (pi_tup (pv 0)) (pg_name (i := 1) sc_ask_point.nd rfl (Or.inl rfl)) (pss_one (ps_if (pt_not (pt_chain op_le op_le (pe_un un_neg (pe_glob (v := .int 1000) (by rfl) T.c_FAR ⟨_, rfl⟩)) (pv 1) (pe_glob (v := .int 1000) (by rfl) T.c_FAR ⟨_, rfl⟩))) (pss_one ps_never) pss_nil)))), ?_⟩
  obtain ⟨p, rfl, h⟩ := hF
  refine ⟨[.dat (ptD p), .no], ?_⟩
  refine rx_forT (ex_var rfl) rfl ?_
  have one : ∀ i : Int, -1000 ≤ i → i ≤ 1000 → (!(decide (-1000 ≤ i) && decide (i ≤ 1000))) = false := fun i h1 h2 => by simp [h1, h2]
  unfold Near at h
  refine fr_all (α := Int) .int [.dat (ptD p), .no] [p.1, p.2] fun i hi => ⟨_, tg_name' (e' := [.dat (ptD p), .dat (.int i)]) rfl, ?_⟩
  refine rx_post (e := [.dat (ptD p), .dat (.int i)]) ?_ (.keep (.drop .nil))
  refine rx_if (xt_is (xt_not (xt_test (by wtm_at "ev"))) (one i ?_ ?_)) (fun e => by cases e) (fun _ => rx_next)
  · simp only [List.mem_cons, List.not_mem_nil, or_false] at hi
    rcases hi with e | e <;> subst e <;> omega
  · simp only [List.mem_cons, List.not_mem_nil, or_false] at hi
    rcases hi with e | e <;> subst e <;> omega

def F_ask_points : List PyData → Prop := fun ds => ∃ ps : List HP.Pt, ds = [ptsD ps] ∧ ps.length ≤ 12 ∧ ∀ p ∈ ps, Near p
theorem ok_ask_points {P : Program} {w : World} {K : PySem.W.Frag} {mg : Str → Option Value} {base : Heap} {ad : Ad} (T : Txt K mg ad) : FnOk P w K mg base CX0 2 ad.a_ask_points ad.d_ask_points ["points"] (spD K fun ds d => F_ask_points ds ∧ d = .none) := by
  have G_ask_point := ok_ask_point (P := P) (w := w) (base := base) T
  refine ok_N (k := 1) T.F_ask_points sc_ask_points (by rintro _ ⟨_, rfl, _⟩; rfl) (fun cdv A outer s H E hr ds hF => ?_)
  refine ⟨_, (pss_cons (ps_if (pt_cmpR op_gt (pe_callB call_len (by rfl) T.n_len PySem.boot_len (pa_cons (pv 0) pa_nil)) (pe_glob (v := .int 12) (by rfl) T.c_MOST ⟨_, rfl⟩) (nomark _)) (pss_one ps_never) pss_nil)
      (pss_one (ps_for PassesOwn.never rfl (pi_list (pv 0)) (pg_name (i := 1) sc_ask_points.nd rfl (Or.inl rfl)) (pss_one (ps_expr (pe_call G_ask_point (hr.mono (by decide)) (by rfl) T.g_ask_point T.F_ask_point.kp T.b_ask_point .nil pass0 (pa_cons (pv 1) pa_nil))))))), ?_⟩
  obtain ⟨ps, rfl, hl, h⟩ := hF
  refine ⟨[.dat (ptsD ps), .no], ?_⟩
  refine rx_ifS (b := false) (xt_is (xt_test (by wtm_at "ev")) ?_) (fun e => by cases e) fun _ => rx_nextS ?_
  · simp only [List.length_map]
    exact decide_eq_false (by omega)
  refine rx_forV rfl ?_
  refine fr_all ptD [.dat (ptsD ps), .no] ps fun p hp => ⟨_, tg_name' (e' := [.dat (ptsD ps), .dat (ptD p)]) rfl, ?_⟩
  refine rx_post (e := [.dat (ptsD ps), .dat (ptD p)]) ?_ (.keep (.drop .nil))
  exact rx_drop (ex_call (ea_cons (ex_var rfl) ea_nil) ⟨⟨p, rfl, h p hp⟩, rfl⟩)

/-! ### texts -/
def figs (w : Str) : Str := if (cutS w none (some 1) == ("-" : Str)) = true then cutS w (some 1) none else w
def goodS (i : Int) : Bool :=
  decide ((sI i).length ≤ 5) && !((sI i).cps.toList.contains 32) && !((sI i).cps.toList.contains 44) && decide (1 ≤ (figs (sI i)).length) && decide ((figs (sI i)).length ≤ 4) &&
  (!(((figs (sI i)).cps.toList[0]?) == some 48) || ((sI i) == ("0" : Str))) && (figs (sI i)).cps.toList.all (fun c => (("0123456789" : Str).cps.toList.contains c)) && (PySem.intText? (sI i) == some i) && (sI i).cps.all (· < 256)
theorem good_all : ∀ k : Nat, k < 2003 → goodS ((k : Int) - 1001) = true := by decide +kernel
structure Good1 (i : Int) : Prop where
  len : (sI i).length ≤ 5
  noBlank : 32 ∉ (sI i).cps.toList
  noComma : 44 ∉ (sI i).cps.toList
  f1 : 1 ≤ (figs (sI i)).length
  f4 : (figs (sI i)).length ≤ 4
  zero : (figs (sI i)).cps.toList[0]? = some 48 → sI i = ("0" : Str)
  figures : ∀ c ∈ (figs (sI i)).cps.toList, c ∈ ("0123456789" : Str).cps.toList
  back : PySem.intText? (sI i) = some i
  low : ∀ c ∈ (sI i).cps.toList, c < 256
theorem goodW {i : Int} (h : -1001 ≤ i ∧ i ≤ 1001) : Good1 i := by
  have e : ((i + 1001).toNat : Int) - 1001 = i := by omega
  have g := good_all (i + 1001).toNat (by omega)
  rw [e] at g
  unfold goodS at g
  simp only [Bool.and_eq_true, decide_eq_true_eq, Bool.not_eq_true', Bool.or_eq_true, beq_iff_eq, List.all_eq_true] at g
  obtain ⟨⟨⟨⟨⟨⟨⟨⟨g1, g2⟩, g3⟩, g4⟩, g5⟩, g6⟩, g7⟩, g8⟩, g9⟩ := g
  refine ⟨g1, fun k => ?_, fun k => ?_, g4, g5, fun k => ?_, fun c hc => ?_, g8, fun c hc => ?_⟩
  · have := List.contains_iff_mem.mpr k
    rw [g2] at this
    cases this
  · have := List.contains_iff_mem.mpr k
    rw [g3] at this
    cases this
  · rcases g6 with h6 | h6
    · rw [k] at h6
      simp at h6
    · exact h6
  · exact List.contains_iff_mem.mp (g7 c hc)
  · rw [Array.all_eq_true'] at g9
    exact of_decide_eq_true (g9 c (by simpa using hc))
theorem good1 {i : Int} (h : -1000 ≤ i ∧ i ≤ 1000) : Good1 i := goodW ⟨by omega, by omega⟩
/-- a point whose places are written well -/
def GP (p : HP.Pt) : Prop := Good1 p.1 ∧ Good1 p.2
theorem gp_near {p : HP.Pt} (h : Near p) : GP p := by
  unfold Near at h
  exact ⟨good1 ⟨h.1, h.2.1⟩, good1 ⟨h.2.2.1, h.2.2.2⟩⟩
theorem gp_nears {ps : List HP.Pt} (h : ∀ q ∈ ps, Near q) : ∀ q ∈ ps, GP q := fun q hq => gp_near (h q hq)
def ptxt (p : HP.Pt) : Str := sI p.1 ++ ("," : Str) ++ sI p.2
def txt (ps : List HP.Pt) : Str := Txt.join (" " : Str) (ps.map ptxt)
theorem ptxt_lenG {p : HP.Pt} (h : GP p) : (ptxt p).length ≤ 11 := by
  have h1 := h.1.len
  have h2 := h.2.len
  unfold ptxt
  rw [Str.length_append, Str.length_append]
  have : ("," : Str).length = 1 := by decide +kernel
  omega
theorem ptxt_len {p : HP.Pt} (h : Near p) : (ptxt p).length ≤ 11 := ptxt_lenG (gp_near h)
theorem sum_len : ∀ {l : List HP.Pt}, (∀ p ∈ l, Near p) → ((l.map ptxt).map (·.length)).sum ≤ l.length * 11
  | [], _ => by simp
  | p :: l, h => by
    have h1 := ptxt_len (h p (by simp))
    have h2 := sum_len fun q hq => h q (List.mem_cons_of_mem _ hq)
    simp only [List.map_cons, List.sum_cons, List.length_cons]
    omega
/-- signs below 256 -/
def LowS (x : Str) : Prop := ∀ c ∈ x.cps.toList, c < 256
theorem shaped_str {x : Str} (h : LowS x) : SeqAt.shaped (.str x) = true := by
  show (PyData.canLay0 (.str x) && decide (PyData.depth (.str x) ≤ 64)) = true
  rw [Bool.and_eq_true]
  refine ⟨?_, decide_eq_true (by simp only [PyData.depth]; omega)⟩
  simp only [PyData.canLay0]
  show x.cps.all (· < 0x110000) = true
  rw [Array.all_eq_true']
  intro c hc
  have := h c (by simpa using hc)
  exact decide_eq_true (by omega)
theorem LowS.app {a b : Str} (h1 : LowS a) (h2 : LowS b) : LowS (a ++ b) := fun c hc => by
  have e : (a ++ b).cps.toList = a.cps.toList ++ b.cps.toList := TL.tl_append a b
  rw [e] at hc
  exact (List.mem_append.mp hc).elim (h1 c) (h2 c)
theorem LowS.cut {a : Str} (h : LowS a) (lo hi : Option Int) : LowS (cutS a lo hi) := fun c hc => by
  unfold cutS at hc
  simp only at hc
  exact h c (List.mem_of_mem_drop (List.mem_of_mem_take hc))
theorem ex_ptxt {K : PySem.W.Frag} {env : SE} {i : Nat} {p : HP.Pt} (h : env[i]? = some (.dat (ptD p))) (hp : Near p) :
    EvX K (tOp (fun x y H Q => ∃ i j, x = .str i ∧ y = .str j ∧ i.length + j.length ≤ sizeLine ∧ Q (.str (i ++ j)) H) (tOp (fun x y H Q => ∃ i j, x = .str i ∧ y = .str j ∧ i.length + j.length ≤ sizeLine ∧ Q (.str (i ++ j)) H) (tCB (fun xs H Q => ∃ i : Int, xs = [.int i] ∧ i.natAbs.log2 < 1920 ∧ Q (.str (toString i)) H) (tCons (tOp (rIx K) (tVar i) (tC (.int 0))) tNil)) (tC (.str ","))) (tCB (fun xs H Q => ∃ i : Int, xs = [.int i] ∧ i.natAbs.log2 < 1920 ∧ Q (.str (toString i)) H) (tCons (tOp (rIx K) (tVar i) (tC (.int 1))) tNil))) env (.str (ptxt p)) := by
  unfold Near at hp
  have h1 := (good1 (i := p.1) ⟨hp.1, hp.2.1⟩).len
  have h2 := (good1 (i := p.2) ⟨hp.2.2.1, hp.2.2.2⟩).len
  have lg : ∀ x : Int, x.natAbs ≤ 1000 → x.natAbs.log2 < 1920 := fun x hx => by
    have := Nat.log2_le_self x.natAbs
    omega
  have hc : ("," : Str).length = 1 := by decide +kernel
  have z1 : (sI p.1).length + ("," : Str).length ≤ sizeLine := by rw [sizeLine_eq]; omega
  have z2 : (sI p.1 ++ ("," : Str)).length + (sI p.2).length ≤ sizeLine := by rw [sizeLine_eq, Str.length_append]; omega
  exact ex_catS (ex_catS (ex_strI (ex_ixT (ds := [.int p.1, .int p.2]) (ex_var h) ex_int rfl) (lg _ (by omega))) ex_str z1) (ex_strI (ex_ixT (ds := [.int p.1, .int p.2]) (ex_var h) ex_int rfl) (lg _ (by omega))) z2
theorem ptxt_lowG {p : HP.Pt} (h : GP p) : LowS (ptxt p) := by
  have hc : LowS ("," : Str) := by unfold LowS; decide +kernel
  have h1 : LowS (sI p.1) := h.1.low
  have h2 : LowS (sI p.2) := h.2.low
  exact (h1.app hc).app h2
theorem ptxt_low {p : HP.Pt} (h : Near p) : LowS (ptxt p) := ptxt_lowG (gp_near h)
theorem txt_low {ps : List HP.Pt} (h : ∀ q ∈ ps, Near q) : LowS (txt ps) := by
  have hb : ∀ c ∈ TL.tl (" " : Str), c < 256 := by decide +kernel
  have key : ∀ l : List HP.Pt, (∀ q ∈ l, Near q) → ∀ c ∈ TL.joinL (TL.tl (" " : Str)) ((l.map ptxt).map TL.tl), c < 256 := by
    intro l
    induction l with
    | nil => intro _ c hc; simp [TL.joinL] at hc
    | cons p l ih =>
      intro hh c hc
      have h1 : ∀ c ∈ TL.tl (ptxt p), c < 256 := ptxt_low (hh p (by simp))
      cases l with
      | nil => exact h1 c hc
      | cons q l =>
        have hc' : c ∈ TL.tl (ptxt p) ++ (TL.tl (" " : Str) ++ TL.joinL (TL.tl (" " : Str)) (((q :: l).map ptxt).map TL.tl)) := hc
        rcases List.mem_append.mp hc' with k | k
        · exact h1 c k
        · rcases List.mem_append.mp k with k | k
          · exact hb c k
          · exact ih (fun r hr => hh r (List.mem_cons_of_mem _ hr)) c k
  intro c hc
  have hc' : c ∈ TL.tl (txt ps) := hc
  unfold txt at hc'
  rw [TL.join_eq, TL.tl_join] at hc'
  exact key ps h c hc'
def F_shown : List PyData → PyData → Prop := fun ds d => ∃ ps : List HP.Pt, ds = [ptsD ps] ∧ ps.length ≤ 12 ∧ (∀ q ∈ ps, Near q) ∧ d = .str (txt ps)
theorem lc_txt (ps : List HP.Pt) : lcRes (fun _ : HP.Pt => true) (fun p => PyData.str (ptxt p)) ps = (ps.map ptxt).map PyData.str := by
  unfold lcRes
  rw [List.filter_eq_self.mpr fun _ _ => rfl, List.map_map]
  rfl

def F_place_of : List PyData → PyData → Prop := fun ds d => ∃ i : Int, ds = [.str (sI i)] ∧ Good1 i ∧ d = .int i
theorem eqv_str (a b : Str) : PyData.eqv (.str a) (.str b) = (a == b) := by simp only [PyData.eqv]
theorem ok_place_of {P : Program} {w : World} {K : PySem.W.Frag} {mg : Str → Option Value} {base : Heap} {ad : Ad} (T : Txt K mg ad) : FnOk P w K mg base CX0 1 ad.a_place_of ad.d_place_of ["word"] (spD K F_place_of) := by
  refine ok_D (k := 0) T.F_place_of sc_place_of (by rintro _ _ ⟨_, rfl, _⟩; rfl) (fun cdv A outer s H E hr ds res hF => ?_)
  refine ⟨_, (pss_cons (ps_set (i := 1) sc_place_of.nd rfl (Or.inl rfl) (pv 0))
      (pss_cons (ps_if (pt_cmpR (op_eqD hr.units) (pe_slice sl_str (pv 0) po_none (po_some pe_int)) pe_str (nomark _)) (pss_one (ps_set (i := 1) sc_place_of.nd rfl (Or.inl rfl) (pe_slice sl_str (pv 0) (po_some pe_int) po_none))) pss_nil)
      (pss_cons (ps_if (PW.pt (pw_or (pt_not (pt_chain op_le op_le pe_int (pe_callB call_len (by rfl) T.n_len PySem.boot_len (pa_cons (pv 1) pa_nil)) pe_int)) (pw_or1 (PW.pt (pw_and (pt_cmpR (op_eqD hr.units) (pe_ix ix_seq (pv 1) pe_int (fun _ _ => rfl)) pe_str (nomark _)) (pw_and1 (pt_cmpR (op_neD hr.units) (pv 0) pe_str (nomark _)))))))) (pss_one ps_never) pss_nil)
      (pss_cons (ps_for PassesOwn.never rfl (pi_str (pv 1)) (pg_name (i := 2) sc_place_of.nd rfl (Or.inl rfl)) (pss_one (ps_if (pt_cmpR op_notIn_sign (pv 2) (pe_glob (v := .str "0123456789") (by rfl) T.c_FIGURES ⟨_, rfl⟩) (by rfl)) (pss_one ps_never) pss_nil)))
      (pss_one (ps_ret (pe_callTy call_int_str (by rfl) T.n_int (by decide +kernel) (pa_cons (pv 0) pa_nil)))))))), ?_⟩
  obtain ⟨i, rfl, G, rfl⟩ := hF
  have hl := G.len
  have zl : (sI i).length ≤ sizeLine := by rw [sizeLine_eq]; omega
  refine rx_seq (e1 := [.dat (.str (sI i)), .dat (.str (sI i)), .no]) (rx_asg (ex_var rfl) rfl) ?_
  refine rx_seq (e1 := [.dat (.str (sI i)), .dat (.str (figs (sI i))), .no]) ?_ ?_
  · refine rx_if (b := (cutS (sI i) none (some 1) == ("-" : Str))) (xt_is (xt_test (ex_eq (ex_slS (ex_var rfl) eo_no (eo_at ex_int) zl) ex_str (shaped_str (LowS.cut G.low _ _)) (by decide +kernel))) (eqv_str _ _)) (fun e => ?_) (fun e => ?_)
    · unfold figs
      rw [if_pos e]
      exact rx_asg (ex_slS (ex_var rfl) (eo_at ex_int) eo_no zl) rfl
    · unfold figs
      rw [if_neg (by rw [e]; decide)]
      exact rx_next
  have f1 := G.f1
  have f4 := G.f4
  have fz := G.zero
  have ff := G.figures
  generalize figs (sI i) = f at f1 f4 fz ff ⊢
  have fl : f.length = f.cps.toList.length := by rw [Array.length_toList]; rfl
  obtain ⟨c, hc⟩ : ∃ c, f.cps.toList[0]? = some c := ⟨f.cps.toList[0]'(by omega), List.getElem?_eq_getElem (by omega)⟩
  have lowc : LowS (⟨#[c]⟩ : Str) := by
    have hf : ∀ d ∈ ("0123456789" : Str).cps.toList, d < 256 := by decide +kernel
    have hc2 := hf c (ff c (List.mem_of_getElem? hc))
    intro d hd
    have : d = c := by simpa using hd
    rw [this]
    exact hc2
  have zf : f.length ≤ sizeLine := by rw [sizeLine_eq]; omega
  refine rx_ifS (b := false) (xt_is (xt_or (a := !(decide (1 ≤ ((f.length : Nat) : Int)) && decide (((f.length : Nat) : Int) ≤ 4))) (b := ((⟨#[c]⟩ : Str) == ("0" : Str)) && !(sI i == ("0" : Str))) (xt_not (xt_test (ex_chainI (g := fun i j => decide (i ≤ j)) (g' := fun i j => decide (i ≤ j)) ex_int (ex_lenS (ex_var rfl) (by omega)) ex_int))) fun _ => xt_and (xt_is (xt_test (ex_eq (ex_ixStr (i := 0) (ex_var rfl) ex_int zf (atI_nat (j := 0) hc)) ex_str (shaped_str lowc) (by decide +kernel))) (eqv_str _ _)) fun _ => xt_is (xt_test (ex_ne (ex_var rfl) ex_str (shaped_str G.low) (by decide +kernel))) (by rw [eqv_str])) ?_) (fun e => by cases e) (fun _ => rx_nextS ?_)
  · rw [decide_eq_true (by omega), decide_eq_true (by omega)]
    by_cases h : (⟨#[c]⟩ : Str) = ("0" : Str)
    · have h0 : c = 48 := by
        have e0 : (("0" : Str)) = ⟨#[48]⟩ := by decide +kernel
        rw [e0] at h
        injection h with h
        injection h with h
        injection h with h
      rw [fz (by rw [hc, h0]), show (("0" : Str) == ("0" : Str)) = true by decide +kernel]
      cases ((⟨#[c]⟩ : Str) == ("0" : Str)) <;> rfl
    · rw [beq_eq_false_iff_ne.mpr h]
      rfl
  refine rx_seq (e1 := [.dat (.str (sI i)), .dat (.str f), .no]) (rx_forS (ex_var rfl) (fr_all (fun c : Nat => PyData.str ⟨#[c]⟩) [.dat (.str (sI i)), .dat (.str f), .no] f.cps.toList fun c hc => ⟨_, tg_name' (e' := [.dat (.str (sI i)), .dat (.str f), .dat (.str ⟨#[c]⟩)]) rfl, ?_⟩)) (rx_ret (ex_intS (ex_var rfl) G.back (by omega)))
  exact rx_if (b := false) (xt_is (xt_test (ex_notInS (ex_var rfl) ex_str)) (by rw [decide_eq_true (ff c hc)]; rfl)) (fun e => by cases e) (fun _ => rx_post rx_next (.keep (.keep (.drop .nil))))

def F_point_of : List PyData → PyData → Prop := fun ds d => ∃ p : HP.Pt, ds = [.str (ptxt p)] ∧ GP p ∧ d = ptD p
theorem tl_inj {a b : Str} (h : TL.tl a = TL.tl b) : a = b := by rw [← TL.mk_tl a, ← TL.mk_tl b, h]
theorem ptxt_join (p : HP.Pt) : ptxt p = Txt.join ("," : Str) [sI p.1, sI p.2] := by
  apply tl_inj
  unfold ptxt
  rw [TL.join_eq, TL.tl_join, TL.tl_append, TL.tl_append]
  show TL.tl (sI p.1) ++ TL.tl ("," : Str) ++ TL.tl (sI p.2) = TL.tl (sI p.1) ++ (TL.tl ("," : Str) ++ TL.tl (sI p.2))
  rw [List.append_assoc]
theorem split_comma {p : HP.Pt} (h : GP p) : Txt.split (ptxt p) ("," : Str) = [sI p.1, sI p.2] := by
  rw [ptxt_join]
  refine TL.split_join (s := 44) (S := []) (by decide +kernel) (by decide +kernel) (by simp) fun q hq => ?_
  simp only [List.mem_cons, List.not_mem_nil, or_false] at hq
  rcases hq with e | e <;> rw [e]
  · exact h.1.noComma
  · exact h.2.noComma
theorem ok_point_of {P : Program} {w : World} {K : PySem.W.Frag} {mg : Str → Option Value} {base : Heap} {ad : Ad} (T : Txt K mg ad) : FnOk P w K mg base CX0 2 ad.a_point_of ad.d_point_of ["word"] (spD K F_point_of) := by
  have G_place_of := ok_place_of (P := P) (w := w) (base := base) T
  refine ok_D (k := 1) T.F_point_of sc_point_of (by rintro _ _ ⟨_, rfl, _⟩; rfl) (fun cdv A outer s H E hr ds res hF => ?_)
  refine ⟨_, (pss_cons (ps_set (i := 1) sc_point_of.nd rfl (Or.inl rfl) (pe_split (pv 0) pe_str))
      (pss_cons (ps_if (pt_cmpR (op_neD hr.units) (pe_callB call_len (by rfl) T.n_len PySem.boot_len (pa_cons (pv 1) pa_nil)) pe_int (nomark _)) (pss_one ps_never) pss_nil)
      (pss_one (ps_ret (pe_tup (pa_cons (pe_call G_place_of (hr.mono (by decide)) (by rfl) T.g_place_of T.F_place_of.kp T.b_place_of .nil pass0 (pa_cons (pe_ix ix_seq (pv 1) pe_int (fun _ _ => rfl)) pa_nil)) (pa_cons (pe_call G_place_of (hr.mono (by decide)) (by rfl) T.g_place_of T.F_place_of.kp T.b_place_of .nil pass0 (pa_cons (pe_ix ix_seq (pv 1) pe_int (fun _ _ => rfl)) pa_nil)) pa_nil))))))), ?_⟩
  obtain ⟨p, rfl, hp, rfl⟩ := hF
  have hl := ptxt_lenG hp
  have zl : (ptxt p).length + 2 ≤ sizeLine := by rw [sizeLine_eq]; omega
  refine rx_seq (e1 := [.dat (.str (ptxt p)), .dat (.list ([sI p.1, sI p.2].map PyData.str))]) (rx_asg (ex_new (xf_is (xf_split (ex_var rfl) ex_str (by decide +kernel) zl) (by rw [split_comma hp]))) rfl) ?_
  refine rx_ifS (b := false) (xt_is (xt_test (ex_ne (ex_len (ex_var rfl) rfl) ex_int rfl rfl)) rfl) (fun e => by cases e) (fun _ => rx_nextS ?_)
  exact rx_ret (ex_tup (ea_cons (ex_call (ea_cons (ex_ixL (ex_var rfl) ex_int rfl) ea_nil) ⟨p.1, rfl, hp.1, rfl⟩) (ea_cons (ex_call (ea_cons (ex_ixL (ex_var rfl) ex_int rfl) ea_nil) ⟨p.2, rfl, hp.2, rfl⟩) ea_nil)) (Nat.le_of_ble_eq_true rfl))

def F_read : List PyData → List PyData → Prop := fun ds es => ∃ ps : List HP.Pt, ds = [.str (txt ps)] ∧ ps.length ≤ 12 ∧ (∀ q ∈ ps, Near q) ∧ es = ps.map ptD
theorem ptxt_blank {p : HP.Pt} (h : GP p) : 32 ∉ TL.tl (ptxt p) := by
  unfold ptxt
  rw [TL.tl_append, TL.tl_append]
  intro k
  rcases List.mem_append.mp k with k | k
  · rcases List.mem_append.mp k with k | k
    · exact h.1.noBlank k
    · revert k
      decide +kernel
  · exact h.2.noBlank k
theorem split_blank {ps : List HP.Pt} (h : ∀ q ∈ ps, GP q) (hne : ps ≠ []) : Txt.split (txt ps) (" " : Str) = ps.map ptxt := by
  unfold txt
  refine TL.split_join (s := 32) (S := []) (by decide +kernel) (by decide +kernel) (by simpa using hne) fun q hq => ?_
  obtain ⟨p, hp, rfl⟩ := List.mem_map.mp hq
  exact ptxt_blank (h p hp)
theorem txt_tl {p : HP.Pt} {ps : List HP.Pt} : 44 ∈ TL.tl (txt (p :: ps)) := by
  unfold txt
  rw [TL.join_eq, TL.tl_join]
  have h44 : 44 ∈ TL.tl (ptxt p) := by
    unfold ptxt
    rw [TL.tl_append, TL.tl_append]
    exact List.mem_append_left _ (List.mem_append_right _ (by decide +kernel))
  cases ps with
  | nil => exact h44
  | cons q ps => exact List.mem_append_left _ h44
theorem txt_len {ps : List HP.Pt} (h : ∀ q ∈ ps, Near q) (hl : ps.length ≤ 12) : (txt ps).length ≤ 1000 := by
  have hs : ∀ l : List HP.Pt, (∀ q ∈ l, Near q) → (TL.joinL (TL.tl (" " : Str)) ((l.map ptxt).map TL.tl)).length ≤ l.length * 12 := by
    intro l
    induction l with
    | nil => intro _; exact Nat.zero_le _
    | cons p l ih =>
      intro hh
      have h1 := ptxt_len (hh p (by simp))
      have h1' : (TL.tl (ptxt p)).length = (ptxt p).length := by
        show (ptxt p).cps.toList.length = (ptxt p).cps.size
        rw [Array.length_toList]
      have hb : (TL.tl (" " : Str)).length = 1 := by decide +kernel
      cases l with
      | nil =>
        show (TL.tl (ptxt p)).length ≤ 1 * 12
        omega
      | cons q l =>
        have h2 := ih fun r hr => hh r (List.mem_cons_of_mem _ hr)
        show (TL.tl (ptxt p) ++ (TL.tl (" " : Str) ++ TL.joinL (TL.tl (" " : Str)) (((q :: l).map ptxt).map TL.tl))).length ≤ _
        rw [List.length_append, List.length_append]
        simp only [List.length_cons] at h2 ⊢
        omega
  have := hs ps h
  have e : (txt ps).length = (TL.tl (txt ps)).length := by
    show (txt ps).cps.size = (txt ps).cps.toList.length
    rw [Array.length_toList]
  rw [e]
  unfold txt
  rw [TL.join_eq, TL.tl_join]
  omega
theorem ok_read {P : Program} {w : World} {K : PySem.W.Frag} {mg : Str → Option Value} {base : Heap} {ad : Ad} (T : Txt K mg ad) : FnOk P w K mg base CX0 3 ad.a_read ad.d_read ["text"] (spF K F_read) := by
  have G_point_of := ok_point_of (P := P) (w := w) (base := base) T
  have G_ask_points := ok_ask_points (P := P) (w := w) (base := base) T
  refine ok_F (k := 2) T.F_read sc_read (by rintro _ _ ⟨_, rfl, _⟩; rfl) (fun cdv A outer s H E hr ds res hF => ?_)
  refine ⟨_, (pss_cons (ps_if (pt_cmpR (op_eqD hr.units) (pv 0) pe_str (nomark _)) (pss_one (ps_ret (pe_lst pa_nil))) pss_nil)
      (pss_cons (ps_setLcA (i := 1) (own := [("word", 2)]) rfl sc_read.nd rfl rfl (sw_true rfl rfl rfl (by decide +kernel)) (pi_list (pe_split (pv 0) pe_str)) (blkOk_by (own := [("word", 2)]) (N := N_read) (sc := defScope s_read) (by decide +kernel)) (fun _ _ _ _ _ => (pg_name (i := 2) sc_read.nd rfl (Or.inl rfl) (hf := Or.inr rfl))) (fun _ _ _ _ _ => pts_nil) (fun _ _ _ _ _ => (pe_call G_point_of (hr.mono (by decide)) (by rfl) T.g_point_of T.F_point_of.kp T.b_point_of .nil pass0 (pa_cons (pv 2) pa_nil))))
      (pss_cons (ps_try_thru0 (pss_one (ps_expr (pe_call G_ask_points (hr.mono (by decide)) (by rfl) T.g_ask_points T.F_ask_points.kp T.b_ask_points .nil pass0 (pa_cons (pv 1) pa_nil)))))
      (pss_one (ps_ret (pv 1)))))), ?_⟩
  obtain ⟨ps, rfl, hl, hn, rfl⟩ := hF
  cases ps with
  | nil =>
    refine rx_ifS (b := true) (xt_is (xt_test (ex_eq (ex_var rfl) ex_str (by decide +kernel) (by decide +kernel))) (by decide +kernel)) (fun _ => ?_) (fun e => by cases e)
    exact rx_end (rx_retF (xf_lst ea_nil (Nat.zero_le _))) rfl
  | cons p0 r0 =>
    have hne : (txt (p0 :: r0) == ("" : Str)) = false := by
      rw [beq_eq_false_iff_ne]
      intro k
      have := txt_tl (p := p0) (ps := r0)
      rw [k] at this
      revert this
      decide +kernel
    refine rx_ifS (b := false) (xt_is (xt_test (ex_eq (ex_var rfl) ex_str (shaped_str (txt_low hn)) (by decide +kernel))) (by rw [eqv_str]; exact hne)) (fun e => by cases e) (fun _ => rx_nextS ?_)
    have hsp := split_blank (gp_nears hn) (by simp)
    have tl := txt_len hn hl
    have zl : (txt (p0 :: r0)).length + 2 ≤ sizeLine := by rw [sizeLine_eq]; omega
    generalize p0 :: r0 = ps at *
    refine rx_seq (e1 := [.dat (.str (txt ps)), .own (ps.map ptD), .no]) (rx_asgF (xf_is (xf_lc ps (fun p => PyData.str (ptxt p)) (fun _ => true) ptD (fun p => [.dat (.str (txt ps)), .no, .dat (.str (ptxt p))]) (ex_is (ex_new (xf_split (ex_var rfl) ex_str (by decide +kernel) zl)) (by rw [hsp, List.map_map]; rfl)) rfl (by omega) (fun p _ => cg_name (by decide) rfl) (fun p _ => xt_true) (fun p hp _ => ex_call (ea_cons (ex_var rfl) ea_nil) ⟨p, rfl, gp_near (hn p hp), rfl⟩) (fun _ _ _ => rfl)) ?_) rfl) ?_
    · unfold lcRes
      rw [List.filter_eq_self.mpr fun _ _ => rfl]
    refine rx_seq (rx_drop (ex_call (ea_cons (ex_own rfl) ea_nil) ⟨⟨ps, rfl, hl, hn⟩, rfl⟩)) (rx_retO rfl)

/-! ### the law's own words -/
def cell (ns : List Int) (k : Nat) : Int := ns.getD k 0
def F__law_cell_at : List PyData → PyData → Prop := fun ds d => ∃ (ns : List Int) (s : PyData) (k : Nat), ds = [s, .int (k : Nat)] ∧ SeqI ns s ∧ d = .int (cell ns k)
theorem ok__law_cell_at {P : Program} {w : World} {K : PySem.W.Frag} {mg : Str → Option Value} {base : Heap} {ad : Ad} (T : Txt K mg ad) : FnOk P w K mg base CX0 1 ad.a__law_cell_at ad.d__law_cell_at ["script", "k"] (spD K F__law_cell_at) := by
  refine ok_D (k := 0) T.F__law_cell_at sc__law_cell_at (by rintro _ _ ⟨_, _, _, rfl, _⟩; rfl) (fun cdv A outer s H E hr ds res hF => ?_)
  refine ⟨_, (pss_cons (ps_if (pt_cmpR op_lt (pv 1) (pe_callB call_len (by rfl) T.n_len PySem.boot_len (pa_cons (pv 0) pa_nil)) (nomark _)) (pss_one (ps_ret (pe_ix ix_seq (pv 0) (pv 1) (fun _ _ => rfl)))) pss_nil)
      (pss_one (ps_ret pe_int))), ?_⟩
  obtain ⟨ns, sd, k, rfl, hs, rfl⟩ := hF
  refine rx_ifS (b := decide ((k : Int) < (ns.length : Nat))) (xt_test (ex_B0 (g := fun i j => decide (i < j)) (ex_var rfl) (ex_lenI hs (ex_var rfl)))) (fun e => ?_) (fun e => rx_nextS ?_)
  · have hk : k < ns.length := by have := of_decide_eq_true e; omega
    refine rx_end (rx_ret (ex_ixI hs (ex_var rfl) (ex_var rfl) ?_)) rfl
    refine atI_nat ?_
    unfold cell
    rw [List.getD_eq_getElem?_getD, List.getElem?_eq_getElem hk]
    rfl
  · have hk : ns.length ≤ k := by have := of_decide_eq_false e; omega
    refine rx_ret (ex_is ex_int ?_)
    unfold cell
    rw [List.getD_eq_getElem?_getD, List.getElem?_eq_none hk]
    rfl

def nextL (s : Int) : Int := (((s + 7919) % 2147483647) * ((s + 7919) % 2147483647) + 48271 * ((s + 7919) % 2147483647) + 12345) % 2147483629
def F__law_next : List PyData → PyData → Prop := fun ds d => ∃ s : Int, ds = [.int s] ∧ d = .int (nextL s)
theorem ok__law_next {P : Program} {w : World} {K : PySem.W.Frag} {mg : Str → Option Value} {base : Heap} {ad : Ad} (T : Txt K mg ad) : FnOk P w K mg base CX0 1 ad.a__law_next ad.d__law_next ["seed"] (spD K F__law_next) := by
  refine ok_D (k := 0) T.F__law_next sc__law_next (by rintro _ _ ⟨_, rfl, _⟩; rfl) (fun cdv A outer s H E hr ds res hF => ?_)
  refine ⟨_, (pss_cons (ps_set (i := 0) sc__law_next.nd rfl (Or.inl rfl) (pe_op op_mod (pe_op op_add (pv 0) pe_int) pe_int))
      (pss_one (ps_ret (pe_op op_mod (pe_op op_add (pe_op op_add (pe_op op_mul (pv 0) (pv 0)) (pe_op op_mul pe_int (pv 0))) pe_int) pe_int)))), ?_⟩
  obtain ⟨s, rfl, rfl⟩ := hF
  refine rx_seq (e1 := [.dat (.int ((s + 7919) % 2147483647))]) (rx_asg (by wtm_at "ev") rfl) ?_
  refine rx_ret (ex_is (by wtm_at "ev") rfl)

def spanL (c : Int) : Int := if c % 4 = 0 then 2 else if c % 4 = 1 then 4 else if c % 4 = 2 then 1000 else 1
def lawPt (ns : List Int) (at_ : Nat) (k : Nat) : HP.Pt :=
  (nextL (cell ns (at_ + 2 + k % 8) + 5003 * k) / 7 % (2 * spanL (cell ns (at_ + 1)) + 1) - spanL (cell ns (at_ + 1)), nextL (cell ns (at_ + 2 + k % 8) + 5003 * k) / 7 / (2 * spanL (cell ns (at_ + 1)) + 1) % (2 * spanL (cell ns (at_ + 1)) + 1) - spanL (cell ns (at_ + 1)))
def lawBase (ns : List Int) (at_ most : Nat) : List HP.Pt := (List.range (cell ns at_ % (most + 1)).toNat).map (lawPt ns at_)
def lawPoints (ns : List Int) (at_ most : Nat) : List HP.Pt :=
  if cell ns (at_ + 1) / 4 % 5 = 1 then (lawBase ns at_ most).map fun p => (p.1, (cell ns (at_ + 2) % 3 - 1) * p.1) else lawBase ns at_ most
theorem span_bd (c : Int) : 1 ≤ spanL c ∧ spanL c ≤ 1000 := by
  unfold spanL
  by_cases h0 : c % 4 = 0
  · rw [if_pos h0]; omega
  · rw [if_neg h0]
    by_cases h1 : c % 4 = 1
    · rw [if_pos h1]; omega
    · rw [if_neg h1]
      by_cases h2 : c % 4 = 2
      · rw [if_pos h2]; omega
      · rw [if_neg h2]; omega
theorem lawPt_near (ns : List Int) (at_ k : Nat) : Near (lawPt ns at_ k) := by
  obtain ⟨h1, h2⟩ := span_bd (cell ns (at_ + 1))
  unfold lawPt Near
  generalize spanL (cell ns (at_ + 1)) = s at *
  generalize nextL _ = x
  have e1 := Int.emod_nonneg (x / 7) (show (2 * s + 1) ≠ 0 by omega)
  have e2 := Int.emod_lt_of_pos (x / 7) (show 0 < 2 * s + 1 by omega)
  have e3 := Int.emod_nonneg (x / 7 / (2 * s + 1)) (show (2 * s + 1) ≠ 0 by omega)
  have e4 := Int.emod_lt_of_pos (x / 7 / (2 * s + 1)) (show 0 < 2 * s + 1 by omega)
  generalize x / 7 % (2 * s + 1) = y at *
  generalize x / 7 / (2 * s + 1) % (2 * s + 1) = z at *
  simp only
  omega
theorem lawBase_near {ns : List Int} {at_ most : Nat} : ∀ p ∈ lawBase ns at_ most, Near p := fun p hp => by
  obtain ⟨k, _, rfl⟩ := List.mem_map.mp hp
  exact lawPt_near ns at_ k
theorem lawPoints_near {ns : List Int} {at_ most : Nat} : ∀ p ∈ lawPoints ns at_ most, Near p := fun p hp => by
  unfold lawPoints at hp
  split at hp
  · obtain ⟨q, hq, rfl⟩ := List.mem_map.mp hp
    have := lawBase_near q hq
    unfold Near at *
    have h3 : cell ns (at_ + 2) % 3 - 1 = -1 ∨ cell ns (at_ + 2) % 3 - 1 = 0 ∨ cell ns (at_ + 2) % 3 - 1 = 1 := by omega
    simp only
    rcases h3 with e | e | e <;> rw [e] <;> omega
  · exact lawBase_near p hp
theorem lawBase_len (ns : List Int) (at_ most : Nat) : (lawBase ns at_ most).length = (cell ns at_ % (most + 1)).toNat := by
  unfold lawBase
  rw [List.length_map, List.length_range]
theorem lawPoints_length (ns : List Int) (at_ most : Nat) : (lawPoints ns at_ most).length = (cell ns at_ % (most + 1)).toNat := by
  unfold lawPoints
  split
  · rw [List.length_map, lawBase_len]
  · rw [lawBase_len]
theorem cut_tail (ns : List Int) : (cutD ns (some 1) none).length ≤ ns.length := by
  unfold cutD
  rw [List.length_take, List.length_drop]
  omega
theorem lawPoints_len (ns : List Int) (at_ most : Nat) : (lawPoints ns at_ most).length ≤ most := by
  have h : (cell ns at_ % (most + 1)).toNat ≤ most := by
    have := Int.emod_lt_of_pos (cell ns at_) (show (0 : Int) < most + 1 by omega)
    omega
  unfold lawPoints
  split
  · rw [List.length_map, lawBase_len]; exact h
  · rw [lawBase_len]; exact h
theorem lawPoints_nears (ns : List Int) {at_ most : Nat} (h : most ≤ 60) : Nears (lawPoints ns at_ most) := ⟨by have := lawPoints_len ns at_ most; omega, lawPoints_near⟩
def F__law_points : List PyData → List PyData → Prop := fun ds es => ∃ (ns : List Int) (s : PyData) (at_ most : Nat), ds = [s, .int (at_ : Nat), .int (most : Nat)] ∧ SeqI ns s ∧ most ≤ 60 ∧ es = (lawPoints ns at_ most).map ptD
theorem fold_snoc {α β : Type} (f : α → β) : ∀ (l : List α) (s : List β), l.foldl (fun s a => s ++ [f a]) s = s ++ l.map f
  | [], s => by simp
  | a :: l, s => by
    rw [List.foldl_cons, fold_snoc f l]
    simp
theorem ok__law_points {P : Program} {w : World} {K : PySem.W.Frag} {mg : Str → Option Value} {base : Heap} {ad : Ad} (T : Txt K mg ad) : FnOk P w K mg base CX0 2 ad.a__law_points ad.d__law_points ["script", "at", "most"] (spF K F__law_points) := by
  have G__law_cell_at := ok__law_cell_at (P := P) (w := w) (base := base) T
  have G__law_next := ok__law_next (P := P) (w := w) (base := base) T
  refine ok_F (k := 1) T.F__law_points sc__law_points (by rintro _ _ ⟨_, _, _, _, rfl, _⟩; rfl) (fun cdv A outer s H E hr ds res hF => ?_)
  refine ⟨_, (pss_cons (ps_set (i := 3) sc__law_points.nd rfl (Or.inl rfl) (pe_op op_mod (pe_call G__law_cell_at (hr.mono (by decide)) (by rfl) T.g__law_cell_at T.F__law_cell_at.kp T.b__law_cell_at .nil pass0 (pa_cons (pv 0) (pa_cons (pv 1) pa_nil))) (pe_op op_add (pv 2) pe_int)))
      (pss_cons (ps_set (i := 4) sc__law_points.nd rfl (Or.inl rfl) (pe_ix ix_seq (pe_lst (pa_cons pe_int (pa_cons pe_int (pa_cons pe_int (pa_cons pe_int pa_nil))))) (pe_op op_mod (pe_call G__law_cell_at (hr.mono (by decide)) (by rfl) T.g__law_cell_at T.F__law_cell_at.kp T.b__law_cell_at .nil pass0 (pa_cons (pv 0) (pa_cons (pe_op op_add (pv 1) pe_int) pa_nil))) pe_int) (fun _ _ => rfl)))
      (pss_cons (ps_set (i := 5) sc__law_points.nd rfl (Or.inl rfl) (pe_lst pa_nil))
      (pss_cons (ps_for PassesOwn.never rfl (pi_range1 (by rfl) T.n_range (pa_cons (pv 3) pa_nil)) (pg_name (i := 6) sc__law_points.nd rfl (Or.inl rfl)) (pss_cons (ps_set (i := 7) sc__law_points.nd rfl (Or.inl rfl) (pe_call G__law_next (hr.mono (by decide)) (by rfl) T.g__law_next T.F__law_next.kp T.b__law_next .nil pass0 (pa_cons (pe_op op_add (pe_call G__law_cell_at (hr.mono (by decide)) (by rfl) T.g__law_cell_at T.F__law_cell_at.kp T.b__law_cell_at .nil pass0 (pa_cons (pv 0) (pa_cons (pe_op op_add (pe_op op_add (pv 1) pe_int) (pe_op op_mod (pv 6) pe_int)) pa_nil))) (pe_op op_mul pe_int (pv 6))) pa_nil)))
      (pss_cons (ps_set (i := 8) sc__law_points.nd rfl (Or.inl rfl) (pe_op op_add (pe_op op_mul pe_int (pv 4)) pe_int))
      (pss_one (ps_expr (pe_bm PySem.F.plainAttrs_list PySem.F.slot_list_append PySem.F.type_list_append mt_append (pv 5) (pa_cons (pe_tup (pa_cons (pe_op op_sub (pe_op op_mod (pe_op op_fdiv (pv 7) pe_int) (pv 8)) (pv 4)) (pa_cons (pe_op op_sub (pe_op op_mod (pe_op op_fdiv (pe_op op_fdiv (pv 7) pe_int) (pv 8)) (pv 8)) (pv 4)) pa_nil))) pa_nil)))))))
      (pss_cons (ps_if (pt_cmpR (op_eqD hr.units) (pe_op op_mod (pe_op op_fdiv (pe_call G__law_cell_at (hr.mono (by decide)) (by rfl) T.g__law_cell_at T.F__law_cell_at.kp T.b__law_cell_at .nil pass0 (pa_cons (pv 0) (pa_cons (pe_op op_add (pv 1) pe_int) pa_nil))) pe_int) pe_int) pe_int (nomark _)) (pss_cons (ps_set (i := 9) sc__law_points.nd rfl (Or.inr rfl) (pe_op op_sub (pe_op op_mod (pe_call G__law_cell_at (hr.mono (by decide)) (by rfl) T.g__law_cell_at T.F__law_cell_at.kp T.b__law_cell_at .nil pass0 (pa_cons (pv 0) (pa_cons (pe_op op_add (pv 1) pe_int) pa_nil))) pe_int) pe_int))
      (pss_one (ps_setLcA (i := 5) (own := [("point", 10)]) rfl sc__law_points.nd rfl rfl (sw_true rfl rfl rfl (by decide +kernel)) (pi_list (pv 5)) (blkOk_by (own := [("point", 10)]) (N := N__law_points) (sc := defScope s__law_points) (by decide +kernel)) (fun _ _ _ _ _ => (pg_name (i := 10) sc__law_points.nd rfl (Or.inl rfl) (hf := Or.inr rfl))) (fun _ _ _ _ _ => pts_nil) (fun _ _ _ _ _ => (pe_tup (pa_cons (pe_ix ix_seq (pv 10) pe_int (fun _ _ => rfl)) (pa_cons (pe_op op_mul (pv 9) (pe_ix ix_seq (pv 10) pe_int (fun _ _ => rfl))) pa_nil))))))) pss_nil)
      (pss_one (ps_ret (pv 5)))))))), ?_⟩
  obtain ⟨ns, sd, at_, most, rfl, hs, hm, rfl⟩ := hF
  have cl : ∀ (e : SE) (j : Int) (k : Nat) (te : TE), e[0]? = some (.dat sd) → EvX K te e (.int j) → j = (k : Nat) → EvX K (tCall (spD K F__law_cell_at) [] E0 (tCons (tVar 0) (tCons te tNil))) e (.int (cell ns k)) := fun e j k te h0 hj ek => ex_call (ea_cons (ex_var h0) (ea_cons hj ea_nil)) ⟨ns, sd, k, by rw [ek], hs, rfl⟩
  obtain ⟨s1, s2⟩ := span_bd (cell ns (at_ + 1))
  generalize hsp : spanL (cell ns (at_ + 1)) = span at *
  have hmany0 := Int.emod_nonneg (cell ns at_) (show ((most : Int) + 1) ≠ 0 by omega)
  have hmany1 := Int.emod_lt_of_pos (cell ns at_) (show (0 : Int) < most + 1 by omega)
  generalize hmn : cell ns at_ % (most + 1) = many at *
  refine rx_seq (e1 := [.dat sd, .dat (.int (at_ : Nat)), .dat (.int (most : Nat)), .dat (.int many), .no, .no, .no, .no, .no, .no, .no]) (rx_asg (ex_is (ex_I (g := fun i j => i % j) (cl _ _ at_ _ rfl (ex_var rfl) rfl) (ex_I0 (g := fun i j => i + j) (ex_var rfl) ex_int) (by omega)) (by rw [hmn])) rfl) ?_
  refine rx_seq (e1 := [.dat sd, .dat (.int (at_ : Nat)), .dat (.int (most : Nat)), .dat (.int many), .dat (.int span), .no, .no, .no, .no, .no, .no]) (rx_asg (ex_ixL (ex_new (xf_lst (ea_cons ex_int (ea_cons ex_int (ea_cons ex_int (ea_cons ex_int ea_nil)))) (Nat.le_of_ble_eq_true rfl))) (ex_I (g := fun i j => i % j) (cl _ _ (at_ + 1) _ rfl (ex_I0 (g := fun i j => i + j) (ex_var rfl) ex_int) (by omega)) ex_int (by omega)) ?_) rfl) ?_
  · rw [← hsp]
    have h4 : cell ns (at_ + 1) % 4 = 0 ∨ cell ns (at_ + 1) % 4 = 1 ∨ cell ns (at_ + 1) % 4 = 2 ∨ cell ns (at_ + 1) % 4 = 3 := by omega
    unfold spanL
    rcases h4 with e | e | e | e <;> rw [e] <;> rfl
  refine rx_seq (e1 := [.dat sd, .dat (.int (at_ : Nat)), .dat (.int (most : Nat)), .dat (.int many), .dat (.int span), .own [], .no, .no, .no, .no, .no]) (rx_asgF (xf_lst ea_nil (Nat.zero_le _)) rfl) ?_
  refine rx_seq (e1 := [.dat sd, .dat (.int (at_ : Nat)), .dat (.int (most : Nat)), .dat (.int many), .dat (.int span), .own ((lawBase ns at_ most).map ptD), .no, .no, .no, .no, .no]) ?_ ?_
  · refine rx_is (rx_forR1 (n := many) (ea_cons (ex_var rfl) ea_nil) (by omega) (fr_fold (fun i : Nat => PyData.int (0 + (i : Int))) (fun S : List HP.Pt => [.dat sd, .dat (.int (at_ : Nat)), .dat (.int (most : Nat)), .dat (.int many), .dat (.int span), .own (S.map ptD), .no, .no, .no, .no, .no]) (fun S k => S ++ [lawPt ns at_ k]) [] (List.range many.toNat) fun pre post k hp => ?_)) ?_
    rotate_left
    · rw [fold_snoc, List.nil_append]
      have e1 : lawBase ns at_ most = (List.range many.toNat).map (lawPt ns at_) := by unfold lawBase; rw [hmn]
      rw [e1]
    · rw [fold_snoc, List.nil_append]
      have hk : k < 61 := by
        have : k ∈ List.range many.toNat := by rw [hp]; simp
        have := List.mem_range.mp this
        omega
      have hpl : pre.length < 100 := by
        have := congrArg List.length hp
        rw [List.length_range, List.length_append, List.length_cons] at this
        omega
      have hsb : ∀ x : Int, 0 ≤ nextL x ∧ nextL x < 2147483629 := fun x => by
        unfold nextL
        exact ⟨Int.emod_nonneg _ (by omega), Int.emod_lt_of_pos _ (by omega)⟩
      have hb := hsb (cell ns (at_ + 2 + k % 8) + 5003 * k)
      generalize hsd : nextL (cell ns (at_ + 2 + k % 8) + 5003 * k) = seed at hb
      have hpt : lawPt ns at_ k = (seed / 7 % (2 * span + 1) - span, seed / 7 / (2 * span + 1) % (2 * span + 1) - span) := by
        unfold lawPt
        rw [hsd, hsp]
      refine ⟨_, tg_name' (e' := [.dat sd, .dat (.int (at_ : Nat)), .dat (.int (most : Nat)), .dat (.int many), .dat (.int span), .own ((pre.map (lawPt ns at_)).map ptD), .dat (.int (0 + (k : Int))), .no, .no, .no, .no]) rfl, ?_⟩
      refine rx_seq (e1 := [.dat sd, .dat (.int (at_ : Nat)), .dat (.int (most : Nat)), .dat (.int many), .dat (.int span), .own ((pre.map (lawPt ns at_)).map ptD), .dat (.int (0 + (k : Int))), .dat (.int seed), .no, .no, .no]) (rx_asg (ex_call (ea_cons (ex_I0 (g := fun i j => i + j) (cl _ _ (at_ + 2 + k % 8) _ rfl (ex_I0 (g := fun i j => i + j) (ex_I0 (g := fun i j => i + j) (ex_var rfl) ex_int) (ex_I (g := fun i j => i % j) (ex_var rfl) ex_int (by omega))) (by omega)) (ex_I (g := fun i j => i * j) ex_int (ex_var rfl) (by left; omega))) ea_nil) ⟨_, rfl, by rw [← hsd, show (0 : Int) + k = k by omega]⟩) rfl) ?_
      refine rx_seq (e1 := [.dat sd, .dat (.int (at_ : Nat)), .dat (.int (most : Nat)), .dat (.int many), .dat (.int span), .own ((pre.map (lawPt ns at_)).map ptD), .dat (.int (0 + (k : Int))), .dat (.int seed), .dat (.int (2 * span + 1)), .no, .no]) (rx_asg (by wtm_at "ev") rfl) ?_
      refine rx_post (rx_app (d := ptD (lawPt ns at_ k)) rfl (ex_is (ex_tup (ea_cons (by wtm_at "ev") (ea_cons (by wtm_at "ev") ea_nil)) (Nat.le_of_ble_eq_true rfl)) ?_) rfl ?_ rfl) ?_
      · rw [hpt]; rfl
      · rw [List.length_map, List.length_map]; omega
      · rw [List.map_append]
        exact .keep (.keep (.keep (.keep (.keep (.keep (.drop (.drop (.drop (.drop (.drop .nil))))))))))
  have test : EvX K (tOp (rEqD K) (tOp (rI (fun _ j => 0 < j) fun i j => V.int (i % j)) (tOp (rI CDiv fun i j => V.int (i / j)) (tCall (spD K F__law_cell_at) [] E0 (tCons (tVar 0) (tCons (tOp (rI0 fun i j => V.int (i + j)) (tVar 1) (tC (.int 1))) tNil))) (tC (.int 4))) (tC (.int 5))) (tC (.int 1))) [.dat sd, .dat (.int (at_ : Nat)), .dat (.int (most : Nat)), .dat (.int many), .dat (.int span), .own ((lawBase ns at_ most).map ptD), .no, .no, .no, .no, .no] (.bool (decide (cell ns (at_ + 1) / 4 % 5 = 1))) :=
    ex_is (ex_eq (ex_I (g := fun i j => i % j) (ex_I (g := fun i j => i / j) (cl _ _ (at_ + 1) _ rfl (ex_I0 (g := fun i j => i + j) (ex_var rfl) ex_int) (by omega)) ex_int (by constructor <;> omega)) ex_int (by omega)) ex_int rfl rfl) (by rw [eqv_int])
  unfold lawPoints
  refine rx_ifS (b := decide (cell ns (at_ + 1) / 4 % 5 = 1)) (xt_test test) (fun e => ?_) (fun e => ?_)
  · rw [if_pos (of_decide_eq_true e)]
    refine rx_settle (i := 5) rfl rfl ?_
    have h3 : -1 ≤ cell ns (at_ + 2) % 3 - 1 ∧ cell ns (at_ + 2) % 3 - 1 ≤ 1 := by omega
    refine rx_assoc1 (rx_seq (e1 := [.dat sd, .dat (.int (at_ : Nat)), .dat (.int (most : Nat)), .dat (.int many), .dat (.int span), .dat (ptsD (lawBase ns at_ most)), .no, .no, .no, .dat (.int (cell ns (at_ + 2) % 3 - 1)), .no]) (rx_asg (ex_I0 (g := fun i j => i - j) (ex_I (g := fun i j => i % j) (cl _ _ (at_ + 2) _ rfl (ex_I0 (g := fun i j => i + j) (ex_var rfl) ex_int) (by omega)) ex_int (by omega)) ex_int) rfl) (rx_asgF (ds := ((lawBase ns at_ most).map fun p => (p.1, (cell ns (at_ + 2) % 3 - 1) * p.1)).map ptD) (xf_is (xf_lc (lawBase ns at_ most) ptD (fun _ => true) (fun p => ptD (p.1, (cell ns (at_ + 2) % 3 - 1) * p.1)) (fun p => [.dat sd, .dat (.int (at_ : Nat)), .dat (.int (most : Nat)), .dat (.int many), .dat (.int span), .dat (ptsD (lawBase ns at_ most)), .no, .no, .no, .dat (.int (cell ns (at_ + 2) % 3 - 1)), .dat (ptD p)]) (ex_var rfl) rfl ?_ (fun p _ => cg_name (by decide) rfl) (fun p _ => xt_true) (fun p hp hf => ?_) (fun _ _ _ => rfl)) ?_) rfl)) (rx_retO rfl)
    · rw [lawBase_len, hmn]; omega
    · exact ex_is (ex_tup (ea_cons (ex_ixT (ds := [.int p.1, .int p.2]) (ex_var rfl) ex_int rfl) (ea_cons (ex_I (g := fun i j => i * j) (ex_var rfl) (ex_ixT (ds := [.int p.1, .int p.2]) (ex_var rfl) ex_int rfl) (by left; omega)) ea_nil)) (Nat.le_of_ble_eq_true rfl)) rfl
    · unfold lcRes
      rw [List.map_map, List.filter_eq_self.mpr fun _ _ => rfl]
      rfl
  · rw [if_neg (of_decide_eq_false e)]
    exact rx_nextS (rx_retO rfl)

def F__law_text : List PyData → PyData → Prop := fun ds d => ∃ ps : List HP.Pt, ds = [ptsD ps] ∧ ps.length ≤ 12 ∧ (∀ q ∈ ps, Near q) ∧ d = .str (txt ps)
theorem ok__law_text {P : Program} {w : World} {K : PySem.W.Frag} {mg : Str → Option Value} {base : Heap} {ad : Ad} (T : Txt K mg ad) : FnOk P w K mg base CX0 1 ad.a__law_text ad.d__law_text ["points"] (spD K F__law_text) := by
  refine ok_D (k := 0) T.F__law_text sc__law_text (by rintro _ _ ⟨_, rfl, _⟩; rfl) (fun cdv A outer s H E hr ds res hF => ?_)
  refine ⟨_, (pss_one (ps_ret (pe_join pe_str (pe_lcA (own := [("point", 1)]) rfl sc__law_text.nd (pi_list (pv 0)) (blkOk_by (own := [("point", 1)]) (N := N__law_text) (sc := defScope s__law_text) (by decide +kernel)) (fun _ _ _ _ _ => (pg_name (i := 1) sc__law_text.nd rfl (Or.inl rfl) (hf := Or.inr rfl))) (fun _ _ _ _ _ => pts_nil) (fun _ _ _ _ _ => (pe_op op_add_str (pe_op op_add_str (pe_callTy call_str_int (by rfl) T.n_str (by decide +kernel) (pa_cons (pe_ix ix_seq (pv 1) pe_int (fun _ _ => rfl)) pa_nil)) pe_str) (pe_callTy call_str_int (by rfl) T.n_str (by decide +kernel) (pa_cons (pe_ix ix_seq (pv 1) pe_int (fun _ _ => rfl)) pa_nil)))))))), ?_⟩
  obtain ⟨ps, rfl, hl, hn, rfl⟩ := hF
  have hs := sum_len hn
  have hb : (" " : Str).length = 1 := by decide +kernel
  refine rx_ret (ex_join (ys := ps.map ptxt) ex_str (ex_new (xf_is (xf_lc ps ptD (fun _ => true) (fun p => .str (ptxt p)) (fun p => [.dat (ptsD ps), .dat (ptD p)]) (ex_var rfl) rfl (by omega) (fun p _ => cg_name (by decide) rfl) (fun p _ => xt_true) (fun p hp _ => ex_ptxt (i := 1) rfl (hn p hp)) (fun _ _ _ => rfl)) (lc_txt ps))) ?_)
  rw [List.length_map, hb]
  omega

theorem ok__law_kind_NoNote {P : Program} {w : World} {K : PySem.W.Frag} {mg : Str → Option Value} {base : Heap} {ad : Ad} (T : Txt K mg ad) : FnP P w K mg base 1 ad.a__law_kind ad.d__law_kind ["e"] (spKind K ad.c_NoNote "note") := by
  refine fnP_of (k := 0) T.F__law_kind sc__law_kind (by rintro _ _ _ _ ⟨rfl, _⟩; rfl) (fun cdv p A outer s H vs Q hr h => ?_)
  obtain ⟨rfl, hz, hd, q⟩ := h
  refine ⟨_, (pss_cons (ps_set (i := 1) sc__law_kind.nd rfl (Or.inl rfl) (pe_lst (pa_cons (pe_callB (call_isP (a := p.1) (oe := p.2) List.mem_cons_self T.R_NoNote.x hz hd) (by rfl) T.n_isinstance (by decide +kernel) (pa_cons (pv 0) (pa_cons (pe_glob (v := .ref ad.c_NoPoint) (by rfl) T.g_NoPoint rfl) pa_nil))) (pa_cons (pe_callB (call_isP (a := p.1) (oe := p.2) List.mem_cons_self T.R_NoNote.x hz hd) (by rfl) T.n_isinstance (by decide +kernel) (pa_cons (pv 0) (pa_cons (pe_glob (v := .ref ad.c_NoSpot) (by rfl) T.g_NoSpot rfl) pa_nil))) (pa_cons (pe_callB (call_isP (a := p.1) (oe := p.2) List.mem_cons_self T.R_NoNote.x hz hd) (by rfl) T.n_isinstance (by decide +kernel) (pa_cons (pv 0) (pa_cons (pe_glob (v := .ref ad.c_NoFour) (by rfl) T.g_NoFour rfl) pa_nil))) (pa_cons (pe_callB (call_isP (a := p.1) (oe := p.2) List.mem_cons_self T.R_NoNote.x hz hd) (by rfl) T.n_isinstance (by decide +kernel) (pa_cons (pv 0) (pa_cons (pe_glob (v := .ref ad.c_NoMiddle) (by rfl) T.g_NoMiddle rfl) pa_nil))) pa_nil))))))
      (pss_cons (ps_expr (pe_bm PySem.F.plainAttrs_list PySem.F.slot_list_append PySem.F.type_list_append mt_append (pv 1) (pa_cons (pe_callB (call_isP (a := p.1) (oe := p.2) List.mem_cons_self T.R_NoNote.x hz hd) (by rfl) T.n_isinstance (by decide +kernel) (pa_cons (pv 0) (pa_cons (pe_glob (v := .ref ad.c_NoNote) (by rfl) T.g_NoNote rfl) pa_nil))) pa_nil)))
      (pss_cons (ps_if (PW.pt (pw_or (pt_not (pt_val (pe_callB (call_isP (a := p.1) (oe := p.2) List.mem_cons_self T.R_NoNote.x hz hd) (by rfl) T.n_isinstance (by decide +kernel) (pa_cons (pv 0) (pa_cons (pe_bltn (v := .ty "ValueError") (by rfl) T.n_ValueError (by decide +kernel) rfl) pa_nil))))) (pw_or1 (pt_cmpR (op_neD (un64H hr)) (pe_bm PySem.F.plainAttrs_list PySem.F.slot_list_count PySem.F.type_list_count mt_lcountB (pv 1) (pa_cons pe_bl pa_nil)) pe_int (nomark _))))) (pss_one (ps_ret pe_str)) pss_nil)
      (pss_one (ps_ret (pe_ix ix_seq (pe_lst (pa_cons pe_str (pa_cons pe_str (pa_cons pe_str (pa_cons pe_str (pa_cons pe_str pa_nil)))))) (pe_bm PySem.F.plainAttrs_list PySem.F.slot_list_index PySem.F.type_list_index (mt_indexD (by exact un65H hr)) (pv 1) (pa_cons pe_bl pa_nil)) (fun _ _ => rfl))))))), ?_⟩
  exact kind_run (j := 4) (kit_no T.R_NoPoint T.s_NoNote_NoPoint) (kit_no T.R_NoSpot T.s_NoNote_NoSpot) (kit_no T.R_NoFour T.s_NoNote_NoFour) (kit_no T.R_NoMiddle T.s_NoNote_NoMiddle) kit_self (kit_ve T.R_NoNote) rfl rfl rfl rfl q

def B_ask_point_point : List PyData → Prop := fun ds => ∃ p : HP.Pt, ds = [ptD p] ∧ ¬ Near p
theorem ok_ask_point_point {P : Program} {w : World} {K : PySem.W.Frag} {mg : Str → Option Value} {base : Heap} {ad : Ad} (T : Txt K mg ad) : FnOk P w K mg base (L2N.CX P w) 1 ad.a_ask_point ad.d_ask_point ["point"] (spB K ad.c_NoPoint B_ask_point_point) := by

  refine ok_B (k := 0) T.F_ask_point sc_ask_point (by rintro _ ⟨_, rfl, _⟩; rfl) (fun cdv A outer s H E hr ds hB => ?_)
  have tk : L2N.Takes (cxOf (L2N.CX P w) P w K mg base N_ask_point "ask_point" (defScope s_ask_point) ad.a_ask_point cdv A outer s H E) (fun cls d _ H => E cls d H) := L2N.takes_of rfl rfl rfl rfl
  have own := passes_of (X := cxOf (L2N.CX P w) P w K mg base N_ask_point "ask_point" (defScope s_ask_point) ad.a_ask_point cdv A outer s H E) (K := fun e s'' => L2N.CX P w outer H s E e s'') rfl
  refine ⟨_, (pss_one (ps_for own rfl (pi_tup (pv 0)) (pg_name (i := 1) sc_ask_point.nd rfl (Or.inl rfl)) (pss_one (ps_if (pt_not (pt_chain op_le op_le (pe_un un_neg (pe_glob (v := .int 1000) (by rfl) T.c_FAR ⟨_, rfl⟩)) (pv 1) (pe_glob (v := .int 1000) (by rfl) T.c_FAR ⟨_, rfl⟩))) (pss_one (L2N.ps_raise rfl tk (L2N.pmk_own PySem.F.excBase_ValueError T.R_NoPoint.e T.g_NoPoint T.R_NoPoint.k (raises_own T.R_NoPoint.b T.R_NoPoint.t) (by rfl)))) pss_nil)))), ?_⟩
  obtain ⟨p, rfl, h⟩ := hB
  refine rx_forT (ex_var rfl) rfl ?_
  unfold Near at h
  by_cases h1 : -1000 ≤ p.1 ∧ p.1 ≤ 1000
  · refine .turn (tg_name' (e' := [.dat (ptD p), .dat (.int p.1)]) rfl) (rx_if (b := false) (xt_is (xt_not (xt_test (by wtm_at "ev"))) ?_) (fun e => by cases e) (fun _ => rx_next)) (.ex (tg_name' (e' := [.dat (ptD p), .dat (.int p.2)]) rfl) (rx_if (b := true) (xt_is (xt_not (xt_test (by wtm_at "ev"))) ?_) (fun _ => re_raise rfl) (fun e => by cases e)))
    · simp [h1.1, h1.2]
    · rw [← Bool.decide_and, decide_eq_false (by omega)]; rfl
  · refine .ex (tg_name' (e' := [.dat (ptD p), .dat (.int p.1)]) rfl) (rx_if (b := true) (xt_is (xt_not (xt_test (by wtm_at "ev"))) ?_) (fun _ => re_raise rfl) (fun e => by cases e))
    rw [← Bool.decide_and, decide_eq_false (by omega)]; rfl

def BadPs (ps : List HP.Pt) : Prop := 12 < ps.length ∨ ∃ p ∈ ps, ¬ Near p
def B_ask_points_points : List PyData → Prop := fun ds => ∃ ps : List HP.Pt, ds = [ptsD ps] ∧ BadPs ps
theorem fr_bad {K : PySem.W.Frag} {α : Type} {g : TG} {tb : TS} {W : Hp → Prop} (inj : α → PyData) (env : SE) (Bd : α → Prop) : ∀ (items : List α), (∀ a ∈ items, ¬ Bd a → ∃ e1, TgX K g env (inj a) e1 ∧ RunX K tb e1 (.nx env)) → (∀ a ∈ items, Bd a → ∃ e1, TgX K g env (inj a) e1 ∧ RunX K tb e1 (.ex W)) → (∃ a ∈ items, Bd a) → Fr K g tb (items.map inj) env (.ex W)
  | [], _, _, h => by obtain ⟨_, h, _⟩ := h; cases h
  | a :: items, h1, h2, h => by
    by_cases hb : Bd a
    · obtain ⟨e1, t, r⟩ := h2 a (by simp) hb
      exact .ex t r
    · obtain ⟨e1, t, r⟩ := h1 a (by simp) hb
      refine .turn t r (fr_bad inj env Bd items (fun x hx => h1 x (List.mem_cons_of_mem _ hx)) (fun x hx => h2 x (List.mem_cons_of_mem _ hx)) ?_)
      obtain ⟨x, hx, hxb⟩ := h
      rcases List.mem_cons.mp hx with e | e
      · subst e; exact absurd hxb hb
      · exact ⟨x, e, hxb⟩
theorem ok_ask_points_points {P : Program} {w : World} {K : PySem.W.Frag} {mg : Str → Option Value} {base : Heap} {ad : Ad} (T : Txt K mg ad) : FnOk P w K mg base (L2N.CX P w) 2 ad.a_ask_points ad.d_ask_points ["points"] (spB K ad.c_NoPoint B_ask_points_points) := by
  have G_X_ask_point := FnOk.either (ok_ask_point (P := P) (w := w) (base := base) T) (ok_ask_point_point T)
  refine ok_B (k := 1) T.F_ask_points sc_ask_points (by rintro _ ⟨_, rfl, _⟩; rfl) (fun cdv A outer s H E hr ds hB => ?_)
  have tk : L2N.Takes (cxOf (L2N.CX P w) P w K mg base N_ask_points "ask_points" (defScope s_ask_points) ad.a_ask_points cdv A outer s H E) (fun cls d _ H => E cls d H) := L2N.takes_of rfl rfl rfl rfl
  have own := passes_of (X := cxOf (L2N.CX P w) P w K mg base N_ask_points "ask_points" (defScope s_ask_points) ad.a_ask_points cdv A outer s H E) (K := fun e s'' => L2N.CX P w outer H s E e s'') rfl
  refine ⟨_, (pss_cons (ps_if (pt_cmpR op_gt (pe_callB call_len (by rfl) T.n_len PySem.boot_len (pa_cons (pv 0) pa_nil)) (pe_glob (v := .int 12) (by rfl) T.c_MOST ⟨_, rfl⟩) (nomark _)) (pss_one (L2N.ps_raise rfl tk (L2N.pmk_own PySem.F.excBase_ValueError T.R_NoPoint.e T.g_NoPoint T.R_NoPoint.k (raises_own T.R_NoPoint.b T.R_NoPoint.t) (by rfl)))) pss_nil)
      (pss_one (ps_for own rfl (pi_list (pv 0)) (pg_name (i := 1) sc_ask_points.nd rfl (Or.inl rfl)) (pss_one (ps_expr (pe_callS G_X_ask_point (hr.mono (by decide)) (by rfl) T.g_ask_point T.F_ask_point.kp T.b_ask_point (fun σ => L2N.passAt tk σ) (pa_cons (pv 1) pa_nil))))))), ?_⟩
  obtain ⟨ps, rfl, h⟩ := hB
  by_cases hl : 12 < ps.length
  · refine re_ifS (b := true) (xt_is (xt_test (by wtm_at "ev")) ?_) (fun _ => re_end (re_raise rfl)) (fun e => by cases e)
    simp only [List.length_map]
    exact decide_eq_true (by omega)
  · refine re_ifS (b := false) (xt_is (xt_test (by wtm_at "ev")) ?_) (fun e => by cases e) (fun _ => re_nextS ?_)
    · simp only [List.length_map]
      exact decide_eq_false (by omega)
    · refine rx_forV rfl (fr_bad ptD [.dat (ptsD ps), .no] (fun p => ¬ Near p) ps (fun p hp hn => ⟨_, tg_name' (e' := [.dat (ptsD ps), .dat (ptD p)]) rfl, ?_⟩) (fun p hp hn => ⟨_, tg_name' (e' := [.dat (ptsD ps), .dat (ptD p)]) rfl, ?_⟩) (h.resolve_left hl))
      · exact rx_post (rx_drop (ex_callX (ea_cons (ex_var rfl) ea_nil) ⟨⟨p, rfl, Classical.not_not.mp hn⟩, rfl⟩)) (.keep (.drop .nil))
      · exact re_drop (ee_callX (ea_cons (ex_var rfl) ea_nil) ⟨p, rfl, hn⟩ rfl)

/-- what a place's word must be -/
def placeOk (w : Str) : Bool := decide (1 ≤ (figs w).length) && decide ((figs w).length ≤ 4) && !(((figs w).cps.toList[0]? == some 48) && !(w == ("0" : Str))) && (figs w).cps.toList.all (fun c => ("0123456789" : Str).cps.toList.contains c)
def PlaceBad (w : Str) : Prop := LowS w ∧ w.length ≤ 2000 ∧ placeOk w = false
def B_place_of_place : List PyData → Prop := fun ds => ∃ w : Str, ds = [.str w] ∧ PlaceBad w
theorem one_zero (c : Nat) : ((⟨#[c]⟩ : Str) == ("0" : Str)) = decide (c = 48) := by
  have e0 : (("0" : Str)) = ⟨#[48]⟩ := by decide +kernel
  rw [e0]
  by_cases h : c = 48
  · subst h
    rw [decide_eq_true rfl]
    exact beq_self_eq_true _
  · rw [decide_eq_false h]
    refine beq_eq_false_iff_ne.mpr fun k => h ?_
    injection k with k
    injection k with k
    injection k with k
theorem ok_place_of_place {P : Program} {w : World} {K : PySem.W.Frag} {mg : Str → Option Value} {base : Heap} {ad : Ad} (T : Txt K mg ad) : FnOk P w K mg base (L2N.CX P w) 1 ad.a_place_of ad.d_place_of ["word"] (spB K ad.c_NoNote B_place_of_place) := by

  refine ok_B (k := 0) T.F_place_of sc_place_of (by rintro _ ⟨_, rfl, _⟩; rfl) (fun cdv A outer s H E hr ds hB => ?_)
  have tk : L2N.Takes (cxOf (L2N.CX P w) P w K mg base N_place_of "place_of" (defScope s_place_of) ad.a_place_of cdv A outer s H E) (fun cls d _ H => E cls d H) := L2N.takes_of rfl rfl rfl rfl
  have own := passes_of (X := cxOf (L2N.CX P w) P w K mg base N_place_of "place_of" (defScope s_place_of) ad.a_place_of cdv A outer s H E) (K := fun e s'' => L2N.CX P w outer H s E e s'') rfl
  refine ⟨_, (pss_cons (LD.PS.nox (ps_set (i := 1) sc_place_of.nd rfl (Or.inl rfl) (pv 0)))
      (pss_cons (LD.PS.nox (ps_if (pt_cmpR (op_eqD hr.units) (pe_slice sl_str (pv 0) po_none (po_some pe_int)) pe_str (nomark _)) (pss_one (ps_set (i := 1) sc_place_of.nd rfl (Or.inl rfl) (pe_slice sl_str (pv 0) (po_some pe_int) po_none))) pss_nil))
      (pss_cons (ps_if (PW.pt (pw_or (pt_not (pt_chain op_le op_le pe_int (pe_callB call_len (by rfl) T.n_len PySem.boot_len (pa_cons (pv 1) pa_nil)) pe_int)) (pw_or1 (PW.pt (pw_and (pt_cmpR (op_eqD hr.units) (pe_ix ix_seq (pv 1) pe_int (fun _ _ => rfl)) pe_str (nomark _)) (pw_and1 (pt_cmpR (op_neD hr.units) (pv 0) pe_str (nomark _)))))))) (pss_one (L2N.ps_raise rfl tk (L2N.pmk_own PySem.F.excBase_ValueError T.R_NoNote.e T.g_NoNote T.R_NoNote.k (raises_own T.R_NoNote.b T.R_NoNote.t) (by rfl)))) pss_nil)
      (pss_cons (ps_for own rfl (pi_str (pv 1)) (pg_name (i := 2) sc_place_of.nd rfl (Or.inl rfl)) (pss_one (ps_if (pt_cmpR op_notIn_sign (pv 2) (pe_glob (v := .str "0123456789") (by rfl) T.c_FIGURES ⟨_, rfl⟩) (by rfl)) (pss_one (L2N.ps_raise rfl tk (L2N.pmk_own PySem.F.excBase_ValueError T.R_NoNote.e T.g_NoNote T.R_NoNote.k (raises_own T.R_NoNote.b T.R_NoNote.t) (by rfl)))) pss_nil)))
      pss_never)))), ?_⟩
  obtain ⟨w, rfl, low, hl, hb⟩ := hB
  have zl : w.length ≤ sizeLine := by rw [sizeLine_eq]; omega
  refine re_seq (e1 := [.dat (.str w), .dat (.str w), .no]) (rx_asg (ex_var rfl) rfl) ?_
  refine re_seq (e1 := [.dat (.str w), .dat (.str (figs w)), .no]) ?_ ?_
  · refine rx_if (b := (cutS w none (some 1) == ("-" : Str))) (xt_is (xt_test (ex_eq (ex_slS (ex_var rfl) eo_no (eo_at ex_int) zl) ex_str (shaped_str (LowS.cut low _ _)) (by decide +kernel))) (eqv_str _ _)) (fun e => ?_) (fun e => ?_)
    · unfold figs
      rw [if_pos e]
      exact rx_asg (ex_slS (ex_var rfl) (eo_at ex_int) eo_no zl) rfl
    · unfold figs
      rw [if_neg (by rw [e]; decide)]
      exact rx_next
  have fle : (figs w).length ≤ w.length := by
    unfold figs
    split
    · show (cutS w (some 1) none).cps.size ≤ w.cps.size
      unfold cutS
      simp only
      rw [List.size_toArray, List.length_take, List.length_drop, Array.length_toList]
      omega
    · exact Nat.le_refl _
  have lowf : LowS (figs w) := by
    unfold figs
    split
    · exact LowS.cut low _ _
    · exact low
  unfold placeOk at hb
  generalize figs w = f at hb fle lowf ⊢
  have fl : f.length = f.cps.toList.length := by rw [Array.length_toList]; rfl
  have zf : f.length ≤ sizeLine := by omega
  have chain : ∀ e : SE, e[1]? = some (.dat (.str f)) → EvX K (tChain (rI0 fun i j => V.bl (decide (i ≤ j))) (rI0 fun i j => V.bl (decide (i ≤ j))) (tC (.int 1)) (tCB (fun xs H Q => ∃ x n, xs = [x] ∧ LenV K x H n ∧ Q (.int n) H) (tCons (tVar 1) tNil)) (tC (.int 4))) e (.bool (decide (1 ≤ f.length) && decide (f.length ≤ 4))) := fun e h =>
    ex_is (ex_chainI (g := fun i j => decide (i ≤ j)) (g' := fun i j => decide (i ≤ j)) ex_int (ex_lenS (ex_var h) (by omega)) ex_int) (congrArg PyData.bool (congr (congrArg _ (decide_eq_decide.mpr (by omega))) (decide_eq_decide.mpr (by omega))))
  by_cases h1 : 1 ≤ f.length ∧ f.length ≤ 4
  · obtain ⟨c, hc⟩ : ∃ c, f.cps.toList[0]? = some c := ⟨f.cps.toList[0]'(by omega), List.getElem?_eq_getElem (by omega)⟩
    have one : ∀ d ∈ f.cps.toList, SeqAt.shaped (.str (⟨#[d]⟩ : Str)) = true := fun d hd => shaped_str fun x hx => by
      have : x = d := by simpa using hx
      rw [this]
      exact lowf d hd
    have test : ∀ e : SE, e[0]? = some (.dat (.str w)) → e[1]? = some (.dat (.str f)) → EvTX K (tOr (tNot (tTest (tChain (rI0 fun i j => V.bl (decide (i ≤ j))) (rI0 fun i j => V.bl (decide (i ≤ j))) (tC (.int 1)) (tCB (fun xs H Q => ∃ x n, xs = [x] ∧ LenV K x H n ∧ Q (.int n) H) (tCons (tVar 1) tNil)) (tC (.int 4)))))
        (tAnd (tTest (tOp (rEqD K) (tOp (rIx K) (tVar 1) (tC (.int 0))) (tC (.str "0")))) (tTest (tOp (rNeD K) (tVar 0) (tC (.str "0")))))) e (decide (c = 48) && !(w == ("0" : Str))) := fun e h0 h1' =>
      xt_is (xt_or (a := false) (b := decide (c = 48) && !(w == ("0" : Str))) (xt_is (xt_not (xt_test (chain e h1'))) (by rw [← Bool.decide_and, decide_eq_true h1]; rfl)) fun _ =>
        xt_and (xt_is (xt_test (ex_eq (ex_ixStr (i := 0) (ex_var h1') ex_int zf (atI_nat (j := 0) hc)) ex_str (one c (List.mem_of_getElem? hc)) (by decide +kernel))) (by rw [eqv_str, one_zero])) fun _ => xt_is (xt_test (ex_ne (ex_var h0) ex_str (shaped_str low) (by decide +kernel))) (by rw [eqv_str])) (Bool.false_or _)
    by_cases h2 : (decide (c = 48) && !(w == ("0" : Str))) = true
    · exact re_ifS (b := true) (xt_is (test _ rfl rfl) h2) (fun _ => re_end (re_raise rfl)) (fun e => by cases e)
    · have h2' := Bool.eq_false_iff.mpr h2
      refine re_ifS (b := false) (xt_is (test _ rfl rfl) h2') (fun e => by cases e) (fun _ => re_nextS (re_end ?_))
      have ex : ∃ d ∈ f.cps.toList, d ∉ ("0123456789" : Str).cps.toList := by
        have h3 : ((f.cps.toList[0]? == some 48) && !(w == ("0" : Str))) = false := by
          rw [hc, show (some c == some 48) = decide (c = 48) from rfl]
          exact h2'
        rw [decide_eq_true h1.1, decide_eq_true h1.2, h3] at hb
        have hb' : f.cps.toList.all (fun c => ("0123456789" : Str).cps.toList.contains c) = false := hb
        rw [List.all_eq_false] at hb'
        obtain ⟨d, hd, hn⟩ := hb'
        exact ⟨d, hd, fun k => hn (List.contains_iff_mem.mpr k)⟩
      refine rx_forS (ex_var rfl) (fr_bad (fun c : Nat => PyData.str ⟨#[c]⟩) [.dat (.str w), .dat (.str f), .no] (fun d => d ∉ ("0123456789" : Str).cps.toList) f.cps.toList (fun d hd hn => ⟨_, tg_name' (e' := [.dat (.str w), .dat (.str f), .dat (.str ⟨#[d]⟩)]) rfl, ?_⟩) (fun d hd hn => ⟨_, tg_name' (e' := [.dat (.str w), .dat (.str f), .dat (.str ⟨#[d]⟩)]) rfl, ?_⟩) ex)
      · exact rx_if (b := false) (xt_is (xt_test (ex_notInS (ex_var rfl) ex_str)) (by rw [decide_eq_true (Classical.not_not.mp hn)]; rfl)) (fun e => by cases e) (fun _ => rx_post rx_next (.keep (.keep (.drop .nil))))
      · exact rx_if (b := true) (xt_is (xt_test (ex_notInS (ex_var rfl) ex_str)) (by rw [decide_eq_false hn]; rfl)) (fun _ => re_raise rfl) (fun e => by cases e)
  · refine re_ifS (b := true) (xt_is (xt_or (a := true) (b := true) (xt_is (xt_not (xt_test (chain _ rfl))) ?_) fun e => by cases e) rfl) (fun _ => re_end (re_raise rfl)) (fun e => by cases e)
    rw [← Bool.decide_and, decide_eq_false h1]
    rfl

/-- a word that writes no point -/
def WordBad (w : Str) : Prop := w.length ≤ 2000 ∧ ((Txt.split w ("," : Str)).length ≠ 2 ∨ ∃ a b : Str, Txt.split w ("," : Str) = [a, b] ∧ (PlaceBad a ∨ ((∃ i, a = sI i ∧ Good1 i) ∧ PlaceBad b)))
def B_point_of_point : List PyData → Prop := fun ds => ∃ w : Str, ds = [.str w] ∧ WordBad w
theorem ok_point_of_point {P : Program} {w : World} {K : PySem.W.Frag} {mg : Str → Option Value} {base : Heap} {ad : Ad} (T : Txt K mg ad) : FnOk P w K mg base (L2N.CX P w) 2 ad.a_point_of ad.d_point_of ["word"] (spB K ad.c_NoNote B_point_of_point) := by
  have G_X_place_of := FnOk.either (ok_place_of (P := P) (w := w) (base := base) T) (ok_place_of_place T)
  refine ok_B (k := 1) T.F_point_of sc_point_of (by rintro _ ⟨_, rfl, _⟩; rfl) (fun cdv A outer s H E hr ds hB => ?_)
  have tk : L2N.Takes (cxOf (L2N.CX P w) P w K mg base N_point_of "point_of" (defScope s_point_of) ad.a_point_of cdv A outer s H E) (fun cls d _ H => E cls d H) := L2N.takes_of rfl rfl rfl rfl
  have own := passes_of (X := cxOf (L2N.CX P w) P w K mg base N_point_of "point_of" (defScope s_point_of) ad.a_point_of cdv A outer s H E) (K := fun e s'' => L2N.CX P w outer H s E e s'') rfl
  refine ⟨_, (pss_cons (LD.PS.nox (ps_set (i := 1) sc_point_of.nd rfl (Or.inl rfl) (pe_split (pv 0) pe_str)))
      (pss_cons (ps_if (pt_cmpR (op_neD hr.units) (pe_callB call_len (by rfl) T.n_len PySem.boot_len (pa_cons (pv 1) pa_nil)) pe_int (nomark _)) (pss_one (L2N.ps_raise rfl tk (L2N.pmk_own PySem.F.excBase_ValueError T.R_NoNote.e T.g_NoNote T.R_NoNote.k (raises_own T.R_NoNote.b T.R_NoNote.t) (by rfl)))) pss_nil)
      (pss_one (ps_ret (pe_tup (pa_cons (pe_callS G_X_place_of (hr.mono (by decide)) (by rfl) T.g_place_of T.F_place_of.kp T.b_place_of (fun σ => L2N.passAt tk σ) (pa_cons (pe_ix ix_seq (pv 1) pe_int (fun _ _ => rfl)) pa_nil)) (pa_cons (pe_callS G_X_place_of (hr.mono (by decide)) (by rfl) T.g_place_of T.F_place_of.kp T.b_place_of (fun σ => L2N.passAt tk σ) (pa_cons (pe_ix ix_seq (pv 1) pe_int (fun _ _ => rfl)) pa_nil)) pa_nil))))))), ?_⟩
  obtain ⟨w, rfl, hl, hb⟩ := hB
  have zl : w.length + 2 ≤ sizeLine := by rw [sizeLine_eq]; omega
  refine re_seq (e1 := [.dat (.str w), .dat (.list ((Txt.split w ("," : Str)).map PyData.str))]) (rx_asg (ex_new (xf_split (ex_var rfl) ex_str (by decide +kernel) zl)) rfl) ?_
  rcases hb with hb | ⟨a, b, hs, hb⟩
  · refine re_ifS (b := true) (xt_is (xt_test (ex_ne (ex_len (ex_var rfl) rfl) ex_int rfl rfl)) ?_) (fun _ => re_end (re_raise rfl)) (fun e => by cases e)
    rw [eqv_int, List.length_map, decide_eq_false (by omega)]
    rfl
  · rw [hs]
    refine re_ifS (b := false) (xt_is (xt_test (ex_ne (ex_len (ex_var rfl) rfl) ex_int rfl rfl)) rfl) (fun e => by cases e) (fun _ => re_nextS ?_)
    rcases hb with hb | ⟨⟨i, rfl, G⟩, hb⟩
    · exact re_ret (ee_tup1 (ee_callX (ea_cons (ex_ixL (ex_var rfl) ex_int rfl) ea_nil) ⟨a, rfl, hb⟩ rfl))
    · exact re_ret (ee_tup2 (ex_callX (ea_cons (ex_ixL (ex_var rfl) ex_int rfl) ea_nil) ⟨i, rfl, G, rfl⟩) (ee_callX (ea_cons (ex_ixL (ex_var rfl) ex_int rfl) ea_nil) ⟨b, rfl, hb⟩ rfl))

def B_read_word : List PyData → Prop := fun ds => ∃ (z : Str) (pre : List HP.Pt) (w : Str) (post : List Str), ds = [.str z] ∧ LowS z ∧ z.length ≤ 2000 ∧ z ≠ ("" : Str) ∧ Txt.split z (" " : Str) = pre.map ptxt ++ w :: post ∧ pre.length ≤ 100 ∧ (∀ q ∈ pre, GP q) ∧ WordBad w
theorem ok_read_word {P : Program} {w : World} {K : PySem.W.Frag} {mg : Str → Option Value} {base : Heap} {ad : Ad} (T : Txt K mg ad) : FnOk P w K mg base (L2N.CX P w) 3 ad.a_read ad.d_read ["text"] (spB K ad.c_NoNote B_read_word) := by
  have G_X_point_of := FnOk.either (ok_point_of (P := P) (w := w) (base := base) T) (ok_point_of_point T)
  refine ok_B (k := 2) T.F_read sc_read (by rintro _ ⟨_, _, _, _, rfl, _⟩; rfl) (fun cdv A outer s H E hr ds hB => ?_)
  have tk : L2N.Takes (cxOf (L2N.CX P w) P w K mg base N_read "read" (defScope s_read) ad.a_read cdv A outer s H E) (fun cls d _ H => E cls d H) := L2N.takes_of rfl rfl rfl rfl
  have own := passes_of (X := cxOf (L2N.CX P w) P w K mg base N_read "read" (defScope s_read) ad.a_read cdv A outer s H E) (K := fun e s'' => L2N.CX P w outer H s E e s'') rfl
  refine ⟨_, (pss_cons (LD.PS.nox (ps_if (pt_cmpR (op_eqD hr.units) (pv 0) pe_str (nomark _)) (pss_one (ps_ret (pe_lst pa_nil))) pss_nil))
      (pss_cons (ps_setLcE (own := [("word", 2)]) rfl sc_read.nd rfl rfl tk (sw_true rfl rfl rfl (by decide +kernel)) (pi_list (pe_split (pv 0) pe_str)) (blkOk_by (own := [("word", 2)]) (N := N_read) (sc := defScope s_read) (by decide +kernel)) (fun _ _ _ _ _ => (pg_name (i := 2) sc_read.nd rfl (Or.inl rfl) (hf := Or.inr rfl))) (fun _ _ _ _ _ xe hx => (pe_callS G_X_point_of (hr.mono (by decide)) (by rfl) T.g_point_of T.F_point_of.kp T.b_point_of hx (pa_cons (pv 2) pa_nil))))
      pss_never)), ?_⟩
  obtain ⟨z, pre, w, post, rfl, low, hl, hz, hsp, hp, hg, hw⟩ := hB
  have zl : z.length + 2 ≤ sizeLine := by rw [sizeLine_eq]; omega
  refine rx_ifS (b := false) (xt_is (xt_test (ex_eq (ex_var rfl) ex_str (shaped_str low) (by decide +kernel))) (by rw [eqv_str]; exact beq_eq_false_iff_ne.mpr hz)) (fun e => by cases e) (fun _ => rx_nextS ?_)
  refine re_end (rx_lcE (pre.map fun p => (p, ptxt p)) (post.map fun x => ((0, 0), x)) (((0, 0), w) : HP.Pt × Str) (fun x => PyData.str x.2) (fun x => ptD x.1) (fun x => [.dat (.str z), .no, .dat (.str x.2)]) (ex_is (ex_new (xf_split (ex_var rfl) ex_str (by decide +kernel) zl)) ?_) rfl ?_ (fun a _ => cg_name (by decide) rfl) (fun a ha => ?_) (fun _ _ => rfl) ?_)
  · rw [hsp]
    simp [Function.comp_def]
  · rw [List.length_map]
    omega
  · obtain ⟨p, hp, rfl⟩ := List.mem_map.mp ha
    exact ex_callX (ea_cons (ex_var rfl) ea_nil) ⟨p, rfl, hg p hp, rfl⟩
  · exact ee_callX (ea_cons (ex_var rfl) ea_nil) ⟨w, rfl, hw⟩ rfl

def B_read_many : List PyData → Prop := fun ds => ∃ (z : Str) (ps : List HP.Pt), ds = [.str z] ∧ LowS z ∧ z.length ≤ 2000 ∧ z ≠ ("" : Str) ∧ Txt.split z (" " : Str) = ps.map ptxt ∧ ps.length ≤ 100 ∧ (∀ q ∈ ps, GP q) ∧ BadPs ps
theorem ok_read_many {P : Program} {w : World} {K : PySem.W.Frag} {mg : Str → Option Value} {base : Heap} {ad : Ad} (T : Txt K mg ad) : FnOk P w K mg base (L2.CX P w) 3 ad.a_read ad.d_read ["text"] (spB K ad.c_NoNote B_read_many) := by
  have G_point_of := ok_point_of (P := P) (w := w) (base := base) T
  have G_ask_points_points := ok_ask_points_points (P := P) (w := w) (base := base) T
  refine ok_B2 (k := 2) T.F_read sc_read (by rintro _ ⟨_, _, rfl, _⟩; rfl) (fun cdv A outer s H E hr ds hB => ?_)
  have tk : L2.Takes (cxOf (L2.CX P w) P w K mg base N_read "read" (defScope s_read) ad.a_read cdv A outer s H E) (fun cls d _ H => E cls d H) := L2.takes_of rfl rfl rfl rfl
  have own := passes_of (X := cxOf (L2.CX P w) P w K mg base N_read "read" (defScope s_read) ad.a_read cdv A outer s H E) (K := fun e s'' => L2.CX P w outer H s E e s'') rfl
  refine ⟨_, (pss_cons (LD.PS.nox (ps_if (pt_cmpR (op_eqD hr.units) (pv 0) pe_str (nomark _)) (pss_one (ps_ret (pe_lst pa_nil))) pss_nil))
      (pss_cons (LD.PS.nox (ps_setLcA (i := 1) (own := [("word", 2)]) rfl sc_read.nd rfl rfl (sw_true rfl rfl rfl (by decide +kernel)) (pi_list (pe_split (pv 0) pe_str)) (blkOk_by (own := [("word", 2)]) (N := N_read) (sc := defScope s_read) (by decide +kernel)) (fun _ _ _ _ _ => (pg_name (i := 2) sc_read.nd rfl (Or.inl rfl) (hf := Or.inr rfl))) (fun _ _ _ _ _ => pts_nil) (fun _ _ _ _ _ => (pe_call G_point_of (hr.mono (by decide)) (by rfl) T.g_point_of T.F_point_of.kp T.b_point_of .nil pass0 (pa_cons (pv 2) pa_nil)))))
      (pss_cons (ps_again (C := ad.c_NoNote) (cH := ad.c_NoPoint) rfl rfl (by rfl) T.g_NoPoint (fun hd => L2H.passesAt_of rfl hd) tk (fun W pn xe tk own => (pss_one (ps_expr (pe_callS G_ask_points_points (hr.mono (by decide)) (by rfl) T.g_ask_points T.F_ask_points.kp T.b_ask_points (fun σ => L2N.passAt tk σ) (pa_cons (pv 1) pa_nil))))) (fun a pn tk hot => pss_one (L2H.ps_raiseH hot tk (L2N.pmk_own PySem.F.excBase_ValueError T.R_NoNote.e T.g_NoNote T.R_NoNote.k (raises_own T.R_NoNote.b T.R_NoNote.t) (by rfl)))))
      pss_never))), ?_⟩
  obtain ⟨z, ps, rfl, low, hl, hz, hsp, hp, hg, hb⟩ := hB
  have zl : z.length + 2 ≤ sizeLine := by rw [sizeLine_eq]; omega
  refine rx_ifS (b := false) (xt_is (xt_test (ex_eq (ex_var rfl) ex_str (shaped_str low) (by decide +kernel))) (by rw [eqv_str]; exact beq_eq_false_iff_ne.mpr hz)) (fun e => by cases e) (fun _ => rx_nextS ?_)
  refine re_seq (e1 := [.dat (.str z), .own (ps.map ptD), .no]) (rx_asgF (xf_is (xf_lc ps (fun p => PyData.str (ptxt p)) (fun _ => true) ptD (fun p => [.dat (.str z), .no, .dat (.str (ptxt p))]) (ex_is (ex_new (xf_split (ex_var rfl) ex_str (by decide +kernel) zl)) (by rw [hsp, List.map_map]; rfl)) rfl (by omega) (fun p _ => cg_name (by decide) rfl) (fun p _ => xt_true) (fun p hp _ => ex_call (ea_cons (ex_var rfl) ea_nil) ⟨p, rfl, hg p hp, rfl⟩) (fun _ _ _ => rfl)) ?_) rfl) ?_
  · unfold lcRes
    rw [List.filter_eq_self.mpr fun _ _ => rfl]
  · exact re_end (rx_again (fun W => re_drop (ee_call (ea_cons (ex_own rfl) ea_nil) ⟨ps, rfl, hb⟩ rfl)) (exm_own T.R_NoPoint T.R_NoPoint.s))

def ReadBad (t : Str) : Prop := B_read_word [.str t] ∨ B_read_many [.str t]
def F__law_tried : List PyData → PyData → Prop := fun ds d => ∃ t : Str, ds = [.str t] ∧ ((∃ ps : List HP.Pt, t = txt ps ∧ ps.length ≤ 12 ∧ (∀ q ∈ ps, Near q) ∧ d = .str "read") ∨ (ReadBad t ∧ d = .str "note"))
theorem ok_read_bad {P : Program} {w : World} {K : PySem.W.Frag} {mg : Str → Option Value} {base : Heap} {ad : Ad} (T : Txt K mg ad) : FnOk P w K mg base (L2.CX P w) 3 ad.a_read ad.d_read ["text"] (spB K ad.c_NoNote fun ds => B_read_word ds ∨ B_read_many ds) := FnOk.bothB (FnOk.less (ok_read_word (P := P) (w := w) (base := base) T)) (ok_read_many T)
theorem ok__law_tried {P : Program} {w : World} {K : PySem.W.Frag} {mg : Str → Option Value} {base : Heap} {ad : Ad} (T : Txt K mg ad) : FnOk P w K mg base CX0 4 ad.a__law_tried ad.d__law_tried ["text"] (spD K F__law_tried) := by
  have G_read := ok_read (P := P) (w := w) (base := base) T
  have G_read_bad := ok_read_bad (P := P) (w := w) (base := base) T
  have G__law_kind_NoNote := ok__law_kind_NoNote (P := P) (w := w) (base := base) T
  refine ok_D (k := 3) T.F__law_tried sc__law_tried (by rintro _ _ ⟨_, rfl, _⟩; rfl) (fun cdv A outer s H E hr ds res hF => ?_)
  obtain ⟨t, rfl, ⟨ps, rfl, hl, hn, rfl⟩ | ⟨hb, rfl⟩⟩ := hF
  · refine ⟨_, (pss_cons (ps_try_thru0 (pss_one (ps_expr (pe_call G_read (hr.mono (by decide)) (by rfl) T.g_read T.F_read.kp T.b_read .nil pass0 (pa_cons (pv 0) pa_nil)))))
      (pss_one (ps_ret pe_str))), ?_⟩
    exact rx_seq (rx_drop (ex_new (xf_call (ea_cons (ex_var rfl) ea_nil) ⟨ps, rfl, hl, hn, rfl⟩))) (rx_ret ex_str)
  · refine ⟨_, (pss_cons (ps_tried2 (cH := ad.c_HullError) (C := ad.c_NoNote) (i := 1) rfl rfl sc__law_tried.nd rfl rfl (by rfl) T.g_HullError (fun W pn xe tk own => (pss_one (ps_expr (pe_callS G_read_bad (hr.mono (by decide)) (by rfl) T.g_read T.F_read.kp T.b_read (fun σ => L2.passAt tk σ) (pa_cons (pv 0) pa_nil)))))
      (fun a oe pn hz hd => (pss_one (ps_ret (pe_kind G__law_kind_NoNote ⟨(hr.mono (show 1 ≤ 3 by decide)).dp, (hr.mono (show 1 ≤ 3 by decide)).un⟩ (by rfl) T.g__law_kind T.F__law_kind.kp T.b__law_kind hz hd (pv 1)))))) pss_never), ?_⟩
    exact rx_end (rx_triedK (fun W => re_drop (ee_call (ea_cons (ex_var rfl) ea_nil) hb rfl)) (Nat.le_of_ble_eq_true rfl) (exm_own T.R_HullError T.s_NoNote_HullError)) rfl

def some0 : List Str := ["1001", "-1001", "99999", "00", "01", "-0", "-01", "+1", "--1", "", "-", "x", "1_0", "1.0", "1\t", "1e1"]
def put (ws : List Str) (k : Nat) (w : Str) : List Str := ws.take k ++ [w] ++ ws.drop (k + 1)
def jn (ws : List Str) : Str := Txt.join (" " : Str) ws
def some1 (p : HP.Pt) : List Str := [sI p.1, ptxt p ++ (",0" : Str), sI p.1 ++ (";" : Str) ++ sI p.2, sI p.1 ++ (", " : Str) ++ sI p.2, ","]
def some2 (t : Str) : List Str := [(" " : Str) ++ t, t ++ (" " : Str), t ++ ("\n" : Str), ("\t" : Str) ++ t, ("\n" : Str) ++ t, t ++ ("," : Str)]
def kOf (ps : List HP.Pt) (c : Int) : Nat := (c % (ps.length : Int)).toNat
def spoil (ps : List HP.Pt) (way c : Int) : Str :=
  if way = 0 then jn (put (ps.map ptxt) (kOf ps c) (Txt.join ("," : Str) ([sI (HP.atN ps (kOf ps c)).1, sI (HP.atN ps (kOf ps c)).2].set (c / 12 % 2).toNat (some0.getD (c / 24 % 16).toNat ""))))
  else if way = 1 then jn (put (ps.map ptxt) (kOf ps c) ((some1 (HP.atN ps (kOf ps c))).getD (c / 12 % 5).toNat ""))
  else if way = 2 then (some2 (txt ps)).getD (c / 12 % 6).toNat ""
  else if way = 3 then jn ((ps.map ptxt).take (kOf ps c) ++ [("" : Str)] ++ (ps.map ptxt).drop (kOf ps c))
  else if way = 4 then ("(" : Str) ++ txt ps ++ (")" : Str)
  else jn (ps.map ptxt ++ List.replicate (13 - (ps.length : Int) + c / 12 % 3).toNat ("0,0" : Str))
def wordsD (ps : List HP.Pt) : PyData := .list ((ps.map ptxt).map PyData.str)
def F__law_spoiled : List PyData → PyData → Prop := fun ds d => ∃ (ps : List HP.Pt) (way c : Int), ds = [wordsD ps, .int way, .int c] ∧ ps ≠ [] ∧ ps.length ≤ 12 ∧ (∀ q ∈ ps, Near q) ∧ (0 ≤ way ∧ way < 6) ∧ (0 ≤ c ∧ c < 1000003) ∧ d = .str (spoil ps way c)
theorem cut_to (ds : List PyData) (k : Nat) : cutD ds none (some (k : Int)) = ds.take k := by
  unfold cutD
  rw [HT.sIx_none, List.drop_zero, Nat.sub_zero, HT.sIx_nat]
  rcases Nat.le_total k ds.length with q | q
  · rw [Nat.min_eq_left q]
  · rw [Nat.min_eq_right q, List.take_of_length_le (Nat.le_refl _), List.take_of_length_le q]
theorem cut_from (ds : List PyData) (k : Nat) : cutD ds (some (k : Int)) none = ds.drop k := by
  unfold cutD
  rw [HT.sIx_none, HT.sIx_nat]
  rcases Nat.le_total k ds.length with q | q
  · rw [Nat.min_eq_left q, List.take_of_length_le (by rw [List.length_drop]; exact Nat.le_refl _)]
  · rw [Nat.min_eq_right q, Nat.sub_self, List.take_zero, List.drop_eq_nil_of_le q]
theorem sum_le (m : Nat) : ∀ {ys : List Str}, (∀ y ∈ ys, y.length ≤ m) → (ys.map (·.length)).sum ≤ ys.length * m
  | [], _ => by simp
  | y :: ys, h => by
    have h1 := h y (by simp)
    have h2 := sum_le m fun z hz => h z (List.mem_cons_of_mem y hz)
    simp only [List.map_cons, List.sum_cons, List.length_cons]
    have : (ys.length + 1) * m = ys.length * m + m := by rw [Nat.succ_mul]
    omega
theorem put_len {ws : List Str} {k : Nat} {x : Str} (hk : k < ws.length) : (put ws k x).length = ws.length := by
  unfold put
  simp
  omega
theorem put_mem {ws : List Str} {k : Nat} {x y : Str} (h : y ∈ put ws k x) : y = x ∨ y ∈ ws := by
  unfold put at h
  rcases List.mem_append.mp h with h | h
  · rcases List.mem_append.mp h with h | h
    · exact .inr (List.mem_of_mem_take h)
    · exact .inl (by simpa using h)
  · exact .inr (List.mem_of_mem_drop h)
section
variable {K : PySem.W.Frag} {e : SE} {ps : List HP.Pt} {k : Nat} {tw : TE} {x : Str}
theorem xf_put (h0 : e[0]? = some (.dat (wordsD ps))) (h3 : e[3]? = some (.dat (.int (k : Nat)))) (hw : EvX K tw e (.str x)) (hl : ps.length ≤ 12) :
    EvFX K (tOp rCat (tOp rCat (tSl (rSlL K) (tVar 0) tNoPart (tPart (tVar 3))) (tLst (tCons tw tNil))) (tSl (rSlL K) (tVar 0) (tPart (tOp (rI0 fun i j => V.int (i + j)) (tVar 3) (tC (.int 1)))) tNoPart)) e ((put (ps.map ptxt) k x).map PyData.str) := by
  have h1 : EvFX K (tSl (rSlL K) (tVar 0) tNoPart (tPart (tVar 3))) e (((ps.map ptxt).take k).map PyData.str) := xf_is (xf_sl (ex_var h0) eo_no (eo_at (ex_var h3))) (by rw [cut_to, List.map_take])
  have h2 : EvFX K (tSl (rSlL K) (tVar 0) (tPart (tOp (rI0 fun i j => V.int (i + j)) (tVar 3) (tC (.int 1)))) tNoPart) e (((ps.map ptxt).drop (k + 1)).map PyData.str) := xf_is (xf_sl (ex_var h0) (eo_at (ex_is (ex_I0 (g := fun i j => i + j) (ex_var h3) ex_int) (show PyData.int ((k : Int) + 1) = PyData.int ((k + 1 : Nat) : Int) from rfl))) eo_no) (by rw [cut_from, List.map_drop])
  refine xf_is (xf_cat (ex_new (xf_cat (ex_new h1) (ex_new (xf_lst (ea_cons hw ea_nil) (Nat.le_of_ble_eq_true rfl))) ?_)) (ex_new h2) ?_) ?_
  · simp; omega
  · simp; omega
  · unfold put
    rw [List.map_append, List.map_append]
    rfl
end
theorem ptxts_len {ps : List HP.Pt} (hn : ∀ q ∈ ps, Near q) : ∀ y ∈ ps.map ptxt, y.length ≤ 40 := fun y hy => by
  obtain ⟨p, hp, rfl⟩ := List.mem_map.mp hy
  have := ptxt_len (hn p hp)
  omega
theorem jn_bd {ys : List Str} (h : ∀ y ∈ ys, y.length ≤ 40) (hl : ys.length ≤ 100) : (ys.map (·.length)).sum + ys.length * ((" " : Str)).length ≤ 16777216 := by
  have h1 := sum_le 40 h
  have h2 : (" " : Str).length = 1 := by decide +kernel
  rw [h2]
  omega
theorem getD_at {xs : List Str} {i : Int} (h0 : 0 ≤ i) (h : i.toNat < xs.length) : atI (xs.map PyData.str) i = some (.str (xs.getD i.toNat "")) := by
  refine at_nat h0 ?_
  rw [List.getElem?_map, List.getElem?_eq_getElem h, List.getD_eq_getElem?_getD, List.getElem?_eq_getElem h]
  rfl
theorem some0_len : ∀ y ∈ some0, y.length ≤ 5 := by decide +kernel
theorem ok__law_spoiled {P : Program} {w : World} {K : PySem.W.Frag} {mg : Str → Option Value} {base : Heap} {ad : Ad} (T : Txt K mg ad) : FnOk P w K mg base CX0 1 ad.a__law_spoiled ad.d__law_spoiled ["words", "way", "cell"] (spD K F__law_spoiled) := by
  refine ok_D (k := 0) T.F__law_spoiled sc__law_spoiled (by rintro _ _ ⟨_, _, _, rfl, _⟩; rfl) (fun cdv A outer s H E hr ds res hF => ?_)
  refine ⟨_, (pss_cons (ps_set (i := 3) sc__law_spoiled.nd rfl (Or.inl rfl) (pe_op op_mod (pv 2) (pe_callB call_len (by rfl) T.n_len PySem.boot_len (pa_cons (pv 0) pa_nil))))
      (pss_cons (ps_set (i := 4) sc__law_spoiled.nd rfl (Or.inl rfl) (pe_split (pe_ix ix_seq (pv 0) (pv 3) (fun _ _ => rfl)) pe_str))
      (pss_cons (ps_set (i := 5) sc__law_spoiled.nd rfl (Or.inl rfl) (pe_join pe_str (pv 0)))
      (pss_cons (ps_if (pt_cmpR (op_eqD hr.units) (pv 1) pe_int (nomark _)) (pss_cons (ps_set (i := 6) sc__law_spoiled.nd rfl (Or.inl rfl) (pe_lst (pa_cons pe_str (pa_cons pe_str (pa_cons pe_str (pa_cons pe_str (pa_cons pe_str (pa_cons pe_str (pa_cons pe_str (pa_cons pe_str pa_nil))))))))))
      (pss_cons (ps_set (i := 6) sc__law_spoiled.nd rfl (Or.inl rfl) (pe_op op_cat (pv 6) (pe_lst (pa_cons pe_str (pa_cons pe_str (pa_cons pe_str (pa_cons pe_str (pa_cons pe_str (pa_cons pe_str (pa_cons pe_str (pa_cons pe_str pa_nil)))))))))))
      (pss_cons (ps_asg (pe_ix ix_seq (pv 6) (pe_op op_mod (pe_op op_fdiv (pv 2) pe_int) pe_int) (fun _ _ => rfl)) (pg_sub (pv 4) (pe_op op_mod (pe_op op_fdiv (pv 2) pe_int) pe_int) set_list))
      (pss_one (ps_ret (pe_join pe_str (pe_op op_cat (pe_op op_cat (pe_slice sl_list (pv 0) po_none (po_some (pv 3))) (pe_lst (pa_cons (pe_join pe_str (pv 4)) pa_nil))) (pe_slice sl_list (pv 0) (po_some (pe_op op_add (pv 3) pe_int)) po_none)))))))) pss_nil)
      (pss_cons (ps_if (pt_cmpR (op_eqD hr.units) (pv 1) pe_int (nomark _)) (pss_cons (ps_set (i := 6) sc__law_spoiled.nd rfl (Or.inl rfl) (pe_lst (pa_cons (pe_ix ix_seq (pv 4) pe_int (fun _ _ => rfl)) (pa_cons (pe_op op_add_str (pe_ix ix_seq (pv 0) (pv 3) (fun _ _ => rfl)) pe_str) (pa_cons (pe_op op_add_str (pe_op op_add_str (pe_ix ix_seq (pv 4) pe_int (fun _ _ => rfl)) pe_str) (pe_ix ix_seq (pv 4) pe_int (fun _ _ => rfl))) (pa_cons (pe_op op_add_str (pe_op op_add_str (pe_ix ix_seq (pv 4) pe_int (fun _ _ => rfl)) pe_str) (pe_ix ix_seq (pv 4) pe_int (fun _ _ => rfl))) (pa_cons pe_str pa_nil)))))))
      (pss_cons (ps_set (i := 7) sc__law_spoiled.nd rfl (Or.inl rfl) (pe_ix ix_seq (pv 6) (pe_op op_mod (pe_op op_fdiv (pv 2) pe_int) pe_int) (fun _ _ => rfl)))
      (pss_one (ps_ret (pe_join pe_str (pe_op op_cat (pe_op op_cat (pe_slice sl_list (pv 0) po_none (po_some (pv 3))) (pe_lst (pa_cons (pv 7) pa_nil))) (pe_slice sl_list (pv 0) (po_some (pe_op op_add (pv 3) pe_int)) po_none))))))) pss_nil)
      (pss_cons (ps_if (pt_cmpR (op_eqD hr.units) (pv 1) pe_int (nomark _)) (pss_one (ps_ret (pe_ix ix_seq (pe_lst (pa_cons (pe_op op_add_str pe_str (pv 5)) (pa_cons (pe_op op_add_str (pv 5) pe_str) (pa_cons (pe_op op_add_str (pv 5) pe_str) (pa_cons (pe_op op_add_str pe_str (pv 5)) (pa_cons (pe_op op_add_str pe_str (pv 5)) (pa_cons (pe_op op_add_str (pv 5) pe_str) pa_nil))))))) (pe_op op_mod (pe_op op_fdiv (pv 2) pe_int) pe_int) (fun _ _ => rfl)))) pss_nil)
      (pss_cons (ps_if (pt_cmpR (op_eqD hr.units) (pv 1) pe_int (nomark _)) (pss_one (ps_ret (pe_join pe_str (pe_op op_cat (pe_op op_cat (pe_slice sl_list (pv 0) po_none (po_some (pv 3))) (pe_lst (pa_cons pe_str pa_nil))) (pe_slice sl_list (pv 0) (po_some (pv 3)) po_none))))) pss_nil)
      (pss_cons (ps_if (pt_cmpR (op_eqD hr.units) (pv 1) pe_int (nomark _)) (pss_one (ps_ret (pe_op op_add_str (pe_op op_add_str pe_str (pv 5)) pe_str))) pss_nil)
      (pss_one (ps_ret (pe_join pe_str (pe_op op_cat (pv 0) (pe_lcA (own := [("k", 8)]) rfl sc__law_spoiled.nd (pi_range1 (by rfl) T.n_range (pa_cons (pe_op op_add (pe_op op_sub pe_int (pe_callB call_len (by rfl) T.n_len PySem.boot_len (pa_cons (pv 0) pa_nil))) (pe_op op_mod (pe_op op_fdiv (pv 2) pe_int) pe_int)) pa_nil)) (blkOk_by (own := [("k", 8)]) (N := N__law_spoiled) (sc := defScope s__law_spoiled) (by decide +kernel)) (fun _ _ _ _ _ => (pg_name (i := 8) sc__law_spoiled.nd rfl (Or.inl rfl) (hf := Or.inr rfl))) (fun _ _ _ _ _ => pts_nil) (fun _ _ _ _ _ => pe_str)))))))))))))), ?_⟩
  obtain ⟨ps, way, c, rfl, hne, hl, hn, hw, hc, rfl⟩ := hF
  have hpos : 0 < ps.length := List.length_pos_iff.mpr hne
  have hk : kOf ps c < ps.length := by
    have := Int.emod_lt_of_pos c (show (0 : Int) < (ps.length : Int) by omega)
    have := Int.emod_nonneg c (show (ps.length : Int) ≠ 0 by omega)
    unfold kOf
    omega
  have ek : c % (ps.length : Int) = ((kOf ps c : Nat) : Int) := by
    have := Int.emod_nonneg c (show (ps.length : Int) ≠ 0 by omega)
    unfold kOf
    omega
  unfold spoil
  generalize kOf ps c = k at hk ek ⊢
  have hp : HP.atN ps k ∈ ps := by
    unfold HP.atN
    rw [List.getD_eq_getElem?_getD, List.getElem?_eq_getElem hk]
    exact List.getElem_mem hk
  have pk : ps[k]? = some (HP.atN ps k) := by
    unfold HP.atN
    rw [List.getD_eq_getElem?_getD, List.getElem?_eq_getElem hk]
    rfl
  have np := hn _ hp
  generalize HP.atN ps k = p at hp pk np ⊢
  have G := gp_near np
  have wlen := ptxts_len hn
  have wa : ∀ e : SE, e[0]? = some (.dat (wordsD ps)) → e[3]? = some (.dat (.int (k : Nat))) → EvX K (tOp (rIx K) (tVar 0) (tVar 3)) e (.str (ptxt p)) := fun e h0 h3 => ex_ixL (ds := (ps.map ptxt).map PyData.str) (i := (k : Nat)) (ex_var h0) (ex_var h3) (atI_nat (by rw [List.getElem?_map, List.getElem?_map, pk]; rfl))
  have zl : (ptxt p).length + 2 ≤ sizeLine := by
    have := ptxt_lenG G
    rw [sizeLine_eq]
    omega
  have la := G.1.len
  have lb := G.2.len
  have tl := txt_len hn hl
  have wh : ∀ (e : SE) (j : Int) (b : Bool), e[1]? = some (.dat (.int way)) → decide (way = j) = b → EvTX K (tTest (tOp (rEqD K) (tVar 1) (tC (.int j)))) e b := fun e j b h hb => xt_is (xt_test (ex_eq (ex_var h) ex_int rfl rfl)) (by rw [eqv_int, hb])
  have dv : ∀ (e : SE) (m n : Int), e[2]? = some (.dat (.int c)) → 0 < m ∧ m < 1073741824 → 0 < n → EvX K (tOp (rI (fun _ j => 0 < j) fun i j => V.int (i % j)) (tOp (rI CDiv fun i j => V.int (i / j)) (tVar 2) (tC (.int m))) (tC (.int n))) e (.int (c / m % n)) := fun e m n h hm hn => ex_I (g := fun i j => i % j) (ex_I (g := fun i j => i / j) (ex_var h) ex_int hm) ex_int hn
  have bd : ∀ (m n : Int), 0 < n → 0 ≤ c / m % n ∧ c / m % n < n := fun m n h => ⟨Int.emod_nonneg _ (by omega), Int.emod_lt_of_pos _ h⟩
  refine rx_seq (e1 := [.dat (wordsD ps), .dat (.int way), .dat (.int c), .dat (.int (k : Nat)), .no, .no, .no, .no, .no]) (rx_asg (ex_is (ex_I (g := fun i j => i % j) (ex_var rfl) (ex_len (n := ps.length) (ex_var rfl) (by simp [wordsD, lenD])) (by omega)) (congrArg PyData.int ek)) rfl) ?_
  have sp : ∀ e : SE, e[0]? = some (.dat (wordsD ps)) → e[3]? = some (.dat (.int (k : Nat))) → EvFX K (tM1 (fun x xs H Q => ∃ a b, x = .str a ∧ xs = [.str b] ∧ (b.length == 0) = false ∧ a.length + 2 ≤ sizeLine ∧ rNewStrs (Txt.split a b) H Q) (tOp (rIx K) (tVar 0) (tVar 3)) (tC (.str ","))) e [.str (sI p.1), .str (sI p.2)] := fun e h0 h3 => xf_is (xf_split (wa e h0 h3) ex_str (by decide +kernel) zl) (by rw [split_comma G]; rfl)
  have jt : ∀ e : SE, e[0]? = some (.dat (wordsD ps)) → EvX K (tM1 (fun x xs H Q => ∃ a p, ∃ ys : List Str, x = .str a ∧ xs = [.ref p] ∧ (SqL K H p (ys.map V.str) ∨ SqT K H p (ys.map V.str)) ∧ (ys.map (·.length)).sum + ys.length * a.length ≤ 16777216 ∧ Q (.str (Txt.join a ys)) H) (tC (.str " ")) (tVar 0)) e (.str (txt ps)) := fun e h0 => ex_join (ys := ps.map ptxt) ex_str (ex_var h0) (jn_bd wlen (by rw [List.length_map]; omega))
  have pl : ∀ x : Str, x.length ≤ 40 → ((put (ps.map ptxt) k x).map (·.length)).sum + (put (ps.map ptxt) k x).length * ((" " : Str)).length ≤ 16777216 := fun x hx => jn_bd (fun y hy => (put_mem hy).elim (fun q => q ▸ hx) (wlen y)) (by rw [put_len (by rw [List.length_map]; exact hk), List.length_map]; omega)
  by_cases h0 : way = 0
  · rw [if_pos h0]
    refine rx_seq (e1 := [.dat (wordsD ps), .dat (.int way), .dat (.int c), .dat (.int (k : Nat)), .own [.str (sI p.1), .str (sI p.2)], .no, .no, .no, .no]) (rx_asgF (sp _ rfl rfl) rfl) ?_
    refine rx_seq (e1 := [.dat (wordsD ps), .dat (.int way), .dat (.int c), .dat (.int (k : Nat)), .own [.str (sI p.1), .str (sI p.2)], .dat (.str (txt ps)), .no, .no, .no]) (rx_asg (jt _ rfl) rfl) ?_
    refine rx_ifS (b := true) (wh _ 0 _ rfl (decide_eq_true h0)) (fun _ => ?_) (fun e => by cases e)
    refine rx_end (rx_seq (e1 := [.dat (wordsD ps), .dat (.int way), .dat (.int c), .dat (.int (k : Nat)), .own [.str (sI p.1), .str (sI p.2)], .dat (.str (txt ps)), .dat (.list ((some0.take 8).map PyData.str)), .no, .no]) (rx_asgN (xf_lst (ea_cons ex_str (ea_cons ex_str (ea_cons ex_str (ea_cons ex_str (ea_cons ex_str (ea_cons ex_str (ea_cons ex_str (ea_cons ex_str ea_nil)))))))) (Nat.le_of_ble_eq_true rfl)) rfl) ?_) rfl
    refine rx_seq (e1 := [.dat (wordsD ps), .dat (.int way), .dat (.int c), .dat (.int (k : Nat)), .own [.str (sI p.1), .str (sI p.2)], .dat (.str (txt ps)), .dat (.list (some0.map PyData.str)), .no, .no]) (rx_asgN (xf_is (xf_cat (ex_var rfl) (ex_new (xf_lst (ea_cons ex_str (ea_cons ex_str (ea_cons ex_str (ea_cons ex_str (ea_cons ex_str (ea_cons ex_str (ea_cons ex_str (ea_cons ex_str ea_nil)))))))) (Nat.le_of_ble_eq_true rfl))) (Nat.le_of_ble_eq_true rfl)) rfl) rfl) ?_
    have b1 := bd 24 16 (by omega)
    have b2 := bd 12 2 (by omega)
    have hx : (some0.getD (c / 24 % 16).toNat "").length ≤ 5 := by
      have hlt : (c / 24 % 16).toNat < some0.length := by show _ < 16; omega
      rw [List.getD_eq_getElem?_getD, List.getElem?_eq_getElem hlt]
      exact some0_len _ (List.getElem_mem hlt)
    have hix : EvX K (tOp (rIx K) (tVar 6) (tOp (rI (fun _ j => 0 < j) fun i j => V.int (i % j)) (tOp (rI CDiv fun i j => V.int (i / j)) (tVar 2) (tC (.int 24))) (tC (.int 16)))) [.dat (wordsD ps), .dat (.int way), .dat (.int c), .dat (.int (k : Nat)), .own [.str (sI p.1), .str (sI p.2)], .dat (.str (txt ps)), .dat (.list (some0.map PyData.str)), .no, .no] (.str (some0.getD (c / 24 % 16).toNat "")) := ex_ixL (ex_var rfl) (dv _ 24 16 rfl (by omega) (by omega)) (getD_at b1.1 (by show _ < 16; omega))
    generalize some0.getD (c / 24 % 16).toNat "" = x at hx hix ⊢
    refine rx_seq (e1 := [.dat (wordsD ps), .dat (.int way), .dat (.int c), .dat (.int (k : Nat)), .own (([sI p.1, sI p.2].set (c / 12 % 2).toNat x).map PyData.str), .dat (.str (txt ps)), .dat (.list (some0.map PyData.str)), .no, .no]) (rx_to (congrArg Out.nx ?_) (rx_setL (i := 4) (j := c / 12 % 2) (n := (c / 12 % 2).toNat) rfl hix (dv _ 12 2 rfl (by omega) (by omega)) ?_ rfl rfl)) ?_
    · rw [List.map_set]
      rfl
    · unfold ixN
      rw [if_pos b2.1, if_pos (by show c / 12 % 2 < 2; exact b2.2)]
    have hj : ∀ y ∈ [sI p.1, sI p.2].set (c / 12 % 2).toNat x, y.length ≤ 5 := fun y hy => by
      rcases List.mem_or_eq_of_mem_set hy with q | q
      · simp only [List.mem_cons, List.not_mem_nil, or_false] at q
        rcases q with q | q <;> rw [q] <;> assumption
      · rw [q]; exact hx
    have hjl : ([sI p.1, sI p.2].set (c / 12 % 2).toNat x).length = 2 := by rw [List.length_set]; rfl
    generalize [sI p.1, sI p.2].set (c / 12 % 2).toNat x = ys at hj hjl ⊢
    have cm : ("," : Str).length = 1 := by decide +kernel
    have sj := sum_le 5 hj
    refine rx_ret (ex_join (ys := put (ps.map ptxt) k (Txt.join ("," : Str) ys)) ex_str (ex_new (xf_put rfl rfl (ex_join ex_str (ex_own rfl) (by rw [cm]; omega)) hl)) (pl _ ?_))
    match ys, hjl with
    | [y, z], _ =>
      rw [TL.join_eq]
      show (y ++ ("," : Str) ++ z).length ≤ 40
      have h1 := hj y (by simp)
      have h2 := hj z (by simp)
      rw [Str.length_append, Str.length_append, cm]
      omega
  · rw [if_neg h0]
    refine rx_seq (e1 := [.dat (wordsD ps), .dat (.int way), .dat (.int c), .dat (.int (k : Nat)), .dat (.list [.str (sI p.1), .str (sI p.2)]), .no, .no, .no, .no]) (rx_asg (ex_new (sp _ rfl rfl)) rfl) ?_
    refine rx_seq (e1 := [.dat (wordsD ps), .dat (.int way), .dat (.int c), .dat (.int (k : Nat)), .dat (.list [.str (sI p.1), .str (sI p.2)]), .dat (.str (txt ps)), .no, .no, .no]) (rx_asg (jt _ rfl) rfl) ?_
    refine rx_ifS (b := false) (wh _ 0 _ rfl (decide_eq_false h0)) (fun e => by cases e) (fun _ => rx_nextS ?_)
    have p0 : EvX K (tOp (rIx K) (tVar 4) (tC (.int 0))) [.dat (wordsD ps), .dat (.int way), .dat (.int c), .dat (.int (k : Nat)), .dat (.list [.str (sI p.1), .str (sI p.2)]), .dat (.str (txt ps)), .no, .no, .no] (.str (sI p.1)) := ex_ixL (ex_var rfl) ex_int rfl
    have p1 : EvX K (tOp (rIx K) (tVar 4) (tC (.int 1))) [.dat (wordsD ps), .dat (.int way), .dat (.int c), .dat (.int (k : Nat)), .dat (.list [.str (sI p.1), .str (sI p.2)]), .dat (.str (txt ps)), .no, .no, .no] (.str (sI p.2)) := ex_ixL (ex_var rfl) ex_int rfl
    have c1 : (";" : Str).length = 1 := by decide +kernel
    have c2 : (", " : Str).length = 2 := by decide +kernel
    have c3 : (",0" : Str).length = 2 := by decide +kernel
    have c4 : ("," : Str).length = 1 := by decide +kernel
    have c5 : (" " : Str).length = 1 := by decide +kernel
    have c6 : ("\n" : Str).length = 1 := by decide +kernel
    have c7 : ("\t" : Str).length = 1 := by decide +kernel
    have c8 : ("(" : Str).length = 1 := by decide +kernel
    have c9 : (")" : Str).length = 1 := by decide +kernel
    have lp := ptxt_lenG G
    by_cases h1 : way = 1
    · rw [if_pos h1]
      have b1 := bd 12 5 (by omega)
      refine rx_ifS (b := true) (wh _ 1 _ rfl (decide_eq_true h1)) (fun _ => ?_) (fun e => by cases e)
      refine rx_end (rx_seq (e1 := [.dat (wordsD ps), .dat (.int way), .dat (.int c), .dat (.int (k : Nat)), .dat (.list [.str (sI p.1), .str (sI p.2)]), .dat (.str (txt ps)), .dat (.list ((some1 p).map PyData.str)), .no, .no]) (rx_asg (ex_new (xf_lst (ea_cons p0 (ea_cons (ex_catS (wa _ rfl rfl) ex_str (by rw [sizeLine_eq]; omega)) (ea_cons (ex_catS (ex_catS p0 ex_str (by rw [sizeLine_eq]; omega)) p1 (by rw [sizeLine_eq, Str.length_append]; omega)) (ea_cons (ex_catS (ex_catS p0 ex_str (by rw [sizeLine_eq]; omega)) p1 (by rw [sizeLine_eq, Str.length_append]; omega)) (ea_cons ex_str ea_nil))))) (Nat.le_of_ble_eq_true rfl))) rfl) ?_) rfl
      refine rx_seq (e1 := [.dat (wordsD ps), .dat (.int way), .dat (.int c), .dat (.int (k : Nat)), .dat (.list [.str (sI p.1), .str (sI p.2)]), .dat (.str (txt ps)), .dat (.list ((some1 p).map PyData.str)), .dat (.str ((some1 p).getD (c / 12 % 5).toNat "")), .no]) (rx_asg (ex_ixL (ex_var rfl) (dv _ 12 5 rfl (by omega) (by omega)) (getD_at b1.1 (by show _ < 5; omega))) rfl) ?_
      refine rx_ret (ex_join (ys := put (ps.map ptxt) k _) ex_str (ex_new (xf_put rfl rfl (ex_var rfl) hl)) (pl _ ?_))
      have all : ∀ y ∈ some1 p, y.length ≤ 40 := fun y hy => by
        unfold some1 at hy
        simp only [List.mem_cons, List.not_mem_nil, or_false] at hy
        rcases hy with e | e | e | e | e <;> rw [e] <;> first | omega | (simp only [Str.length_append]; omega)
      have hlt : (c / 12 % 5).toNat < (some1 p).length := by show _ < 5; omega
      rw [List.getD_eq_getElem?_getD, List.getElem?_eq_getElem hlt]
      exact all _ (List.getElem_mem hlt)
    · rw [if_neg h1]
      refine rx_ifS (b := false) (wh _ 1 _ rfl (decide_eq_false h1)) (fun e => by cases e) (fun _ => rx_nextS ?_)
      by_cases h2 : way = 2
      · rw [if_pos h2]
        have b1 := bd 12 6 (by omega)
        refine rx_ifS (b := true) (wh _ 2 _ rfl (decide_eq_true h2)) (fun _ => ?_) (fun e => by cases e)
        have z : ∀ y : Str, y.length = 1 → y.length + (txt ps).length ≤ sizeLine ∧ (txt ps).length + y.length ≤ sizeLine := fun y hy => by rw [sizeLine_eq]; omega
        exact rx_end (rx_ret (ex_ixL (ds := (some2 (txt ps)).map PyData.str) (ex_new (xf_lst (ea_cons (ex_catS ex_str (ex_var rfl) (z _ c5).1) (ea_cons (ex_catS (ex_var rfl) ex_str (z _ c5).2) (ea_cons (ex_catS (ex_var rfl) ex_str (z _ c6).2) (ea_cons (ex_catS ex_str (ex_var rfl) (z _ c7).1) (ea_cons (ex_catS ex_str (ex_var rfl) (z _ c6).1) (ea_cons (ex_catS (ex_var rfl) ex_str (z _ c4).2) ea_nil)))))) (Nat.le_of_ble_eq_true rfl))) (dv _ 12 6 rfl (by omega) (by omega)) (getD_at b1.1 (by show _ < 6; omega)))) rfl
      · rw [if_neg h2]
        refine rx_ifS (b := false) (wh _ 2 _ rfl (decide_eq_false h2)) (fun e => by cases e) (fun _ => rx_nextS ?_)
        by_cases h3 : way = 3
        · rw [if_pos h3]
          refine rx_ifS (b := true) (wh _ 3 _ rfl (decide_eq_true h3)) (fun _ => ?_) (fun e => by cases e)
          refine rx_end (rx_ret (ex_join (ys := (ps.map ptxt).take k ++ [("" : Str)] ++ (ps.map ptxt).drop k) ex_str (ex_new (xf_is (xf_cat (ex_new (xf_cat (ex_new (xf_sl (ds := (ps.map ptxt).map PyData.str) (ex_var rfl) eo_no (eo_at (ex_var rfl)))) (ex_new (xf_lst (ea_cons ex_str ea_nil) (Nat.le_of_ble_eq_true rfl))) ?_)) (ex_new (xf_sl (ds := (ps.map ptxt).map PyData.str) (ex_var rfl) (eo_at (ex_var rfl)) eo_no)) ?_) ?_)) (jn_bd ?_ ?_))) rfl
          · rw [cut_to]; simp; omega
          · rw [cut_to, cut_from]; simp; omega
          · rw [cut_to, cut_from, List.map_append, List.map_append, List.map_take, List.map_drop]; rfl
          · intro y hy
            rcases List.mem_append.mp hy with q | q
            · rcases List.mem_append.mp q with q | q
              · exact wlen y (List.mem_of_mem_take q)
              · rw [show y = ("" : Str) by simpa using q]; decide +kernel
            · exact wlen y (List.mem_of_mem_drop q)
          · simp; omega
        · rw [if_neg h3]
          refine rx_ifS (b := false) (wh _ 3 _ rfl (decide_eq_false h3)) (fun e => by cases e) (fun _ => rx_nextS ?_)
          by_cases h4 : way = 4
          · rw [if_pos h4]
            refine rx_ifS (b := true) (wh _ 4 _ rfl (decide_eq_true h4)) (fun _ => ?_) (fun e => by cases e)
            exact rx_end (rx_ret (ex_catS (ex_catS ex_str (ex_var rfl) (by rw [sizeLine_eq]; omega)) ex_str (by rw [sizeLine_eq, Str.length_append]; omega))) rfl
          · rw [if_neg h4]
            refine rx_ifS (b := false) (wh _ 4 _ rfl (decide_eq_false h4)) (fun e => by cases e) (fun _ => rx_nextS ?_)
            have b1 := bd 12 3 (by omega)
            have eN : 13 - (ps.length : Int) + c / 12 % 3 = ((13 - (ps.length : Int) + c / 12 % 3).toNat : Int) := by omega
            have bN : (13 - (ps.length : Int) + c / 12 % 3).toNat ≤ 20 := by omega
            generalize (13 - (ps.length : Int) + c / 12 % 3).toNat = n at eN bN ⊢
            refine rx_ret (ex_join (ys := ps.map ptxt ++ List.replicate n ("0,0" : Str)) ex_str (ex_new (xf_is (xf_cat (ds := (ps.map ptxt).map PyData.str) (ex_var rfl) (ex_new (xf_lcR n (fun _ => true) (fun _ => .str "0,0") (fun i => [.dat (wordsD ps), .dat (.int way), .dat (.int c), .dat (.int (k : Nat)), .dat (.list [.str (sI p.1), .str (sI p.2)]), .dat (.str (txt ps)), .no, .no, .dat (.int (i : Nat))]) (ea_cons (ex_is (ex_I0 (g := fun i j => i + j) (ex_I0 (g := fun i j => i - j) ex_int (ex_len (n := ps.length) (ex_var rfl) (by simp [wordsD, lenD]))) (dv _ 12 3 rfl (by omega) (by omega))) (congrArg PyData.int eN)) ea_nil) rfl (by omega) (fun i _ => cg_name (by decide) rfl) (fun i _ => xt_true) (fun i _ _ => ex_str) (fun _ _ _ => rfl))) ?_) ?_)) (jn_bd ?_ ?_))
            · have := lcRes_len (fun _ : Nat => true) (fun _ => PyData.str "0,0") (List.range n)
              rw [List.length_range] at this
              rw [List.length_map, List.length_map]
              omega
            · unfold lcRes
              rw [List.filter_eq_self.mpr fun _ _ => rfl, List.map_append]
              congr 1
              rw [List.map_replicate]
              exact List.map_const' .. |>.trans (by rw [List.length_range])
            · intro y hy
              rcases List.mem_append.mp hy with q | q
              · exact wlen y q
              · rw [(List.mem_replicate.mp q).2]; decide +kernel
            · simp; omega

def F_law : List PyData → PyData → Prop := fun ds d => ∃ ns : List Int, ds = [scrD ns] ∧ ns.length ≤ 63 ∧ d = .bool true
/-! ### what is spoiled is refused -/
theorem joinL_mem {s c : Nat} : ∀ {l : List (List Nat)}, c ∈ TL.joinL [s] l → c = s ∨ ∃ p ∈ l, c ∈ p
  | [], h => by simp [TL.joinL] at h
  | [p], h => .inr ⟨p, by simp, h⟩
  | p :: q :: r, h => by
    have h' : c ∈ p ++ ([s] ++ TL.joinL [s] (q :: r)) := h
    rcases List.mem_append.mp h' with k | k
    · exact .inr ⟨p, by simp, k⟩
    · rcases List.mem_append.mp k with k | k
      · exact .inl (by simpa using k)
      · rcases joinL_mem k with k | ⟨x, hx, k⟩
        · exact .inl k
        · exact .inr ⟨x, List.mem_cons_of_mem _ hx, k⟩
theorem joinL_len {s m : Nat} : ∀ {l : List (List Nat)}, (∀ p ∈ l, p.length ≤ m) → (TL.joinL [s] l).length ≤ l.length * (m + 1)
  | [], _ => Nat.zero_le _
  | [p], h => by
    have := h p (by simp)
    show p.length ≤ 1 * (m + 1)
    omega
  | p :: q :: r, h => by
    have h1 := h p (by simp)
    have h2 := joinL_len (s := s) fun x hx => h x (List.mem_cons_of_mem p hx)
    show (p ++ ([s] ++ TL.joinL [s] (q :: r))).length ≤ ((q :: r).length + 1) * (m + 1)
    rw [List.length_append, List.length_append, Nat.succ_mul]
    simp only [List.length_singleton]
    omega
theorem joinL_front (S x w : List Nat) (ws : List (List Nat)) : x ++ TL.joinL S (w :: ws) = TL.joinL S ((x ++ w) :: ws) := by
  cases ws with
  | nil => rfl
  | cons q r =>
    show x ++ (w ++ (S ++ TL.joinL S (q :: r))) = (x ++ w) ++ (S ++ TL.joinL S (q :: r))
    rw [List.append_assoc]
theorem joinL_back (S x : List Nat) : ∀ (ws : List (List Nat)) (w : List Nat), TL.joinL S (ws ++ [w]) ++ x = TL.joinL S (ws ++ [w ++ x])
  | [], _ => rfl
  | [a], w => by
    show (a ++ (S ++ w)) ++ x = a ++ (S ++ (w ++ x))
    rw [List.append_assoc, List.append_assoc]
  | a :: b :: ws, w => by
    show (a ++ (S ++ TL.joinL S ((b :: ws) ++ [w]))) ++ x = a ++ (S ++ TL.joinL S ((b :: ws) ++ [w ++ x]))
    rw [List.append_assoc, List.append_assoc, joinL_back S x (b :: ws) w]
theorem joinL_cut (S x y : List Nat) : ∀ (pre post : List (List Nat)), TL.joinL S (pre ++ (x ++ (S ++ y)) :: post) = TL.joinL S (pre ++ x :: y :: post)
  | [], [] => rfl
  | [], q :: r => by
    show (x ++ (S ++ y)) ++ (S ++ TL.joinL S (q :: r)) = x ++ (S ++ (y ++ (S ++ TL.joinL S (q :: r))))
    simp only [List.append_assoc]
  | [a], post => by
    show a ++ (S ++ TL.joinL S ((x ++ (S ++ y)) :: post)) = a ++ (S ++ TL.joinL S (x :: y :: post))
    rw [show TL.joinL S ((x ++ (S ++ y)) :: post) = TL.joinL S (x :: y :: post) from joinL_cut S x y [] post]
  | a :: b :: pre, post => by
    show a ++ (S ++ TL.joinL S ((b :: pre) ++ (x ++ (S ++ y)) :: post)) = a ++ (S ++ TL.joinL S ((b :: pre) ++ x :: y :: post))
    rw [joinL_cut S x y (b :: pre) post]
theorem tl_blank : TL.tl (" " : Str) = [32] := by decide +kernel
theorem tl_comma : TL.tl ("," : Str) = [44] := by decide +kernel
theorem tl_nil : TL.tl ("" : Str) = [] := by decide +kernel
theorem jn_tl (ws : List Str) : TL.tl (jn ws) = TL.joinL [32] (ws.map TL.tl) := by
  unfold jn
  rw [TL.join_eq, TL.tl_join, tl_blank]
theorem jc_tl (ws : List Str) : TL.tl (Txt.join ("," : Str) ws) = TL.joinL [44] (ws.map TL.tl) := by rw [TL.join_eq, TL.tl_join, tl_comma]
theorem len_tl (x : Str) : (TL.tl x).length = x.length := (TL.len_tl x).symm
structure Wd (x : Str) : Prop where
  blank : 32 ∉ TL.tl x
  low : LowS x
  len : x.length ≤ 40
structure Wp (x : Str) : Prop where
  blank : 32 ∉ TL.tl x
  comma : 44 ∉ TL.tl x
  low : LowS x
  len : x.length ≤ 9
theorem wd_ptxt {p : HP.Pt} (h : GP p) : Wd (ptxt p) := ⟨ptxt_blank h, ptxt_lowG h, by have := ptxt_lenG h; omega⟩
theorem wp_sI {i : Int} (G : Good1 i) : Wp (sI i) := ⟨G.noBlank, G.noComma, G.low, by have := G.len; omega⟩
theorem wp_app {x y : Str} (hx : Wp x) (hy : Wp y) (hl : x.length + y.length ≤ 9) : Wp (x ++ y) := by
  refine ⟨fun k => ?_, fun k => ?_, hx.low.app hy.low, by rw [Str.length_append]; exact hl⟩
  · rw [TL.tl_append] at k
    exact (List.mem_append.mp k).elim hx.blank hy.blank
  · rw [TL.tl_append] at k
    exact (List.mem_append.mp k).elim hx.comma hy.comma
def wpB (x : Str) : Bool := !((TL.tl x).contains 32) && !((TL.tl x).contains 44) && (TL.tl x).all (fun c => decide (c < 256)) && decide (x.length ≤ 9)
theorem wp_of {x : Str} (h : wpB x = true) : Wp x := by
  unfold wpB at h
  simp only [Bool.and_eq_true, Bool.not_eq_true', List.all_eq_true, decide_eq_true_eq] at h
  obtain ⟨⟨⟨h1, h2⟩, h3⟩, h4⟩ := h
  refine ⟨fun k => ?_, fun k => ?_, h3, h4⟩
  · have := List.contains_iff_mem.mpr k
    rw [h1] at this
    cases this
  · have := List.contains_iff_mem.mpr k
    rw [h2] at this
    cases this
theorem wd_parts {parts : List Str} (h : ∀ p ∈ parts, Wp p) (hl : parts.length ≤ 4) : Wd (Txt.join ("," : Str) parts) := by
  refine ⟨fun k => ?_, fun c hc => ?_, ?_⟩
  · rw [jc_tl] at k
    rcases joinL_mem k with k | ⟨x, hx, k⟩
    · cases k
    · obtain ⟨p, hp, rfl⟩ := List.mem_map.mp hx
      exact (h p hp).blank k
  · have hc' : c ∈ TL.tl (Txt.join ("," : Str) parts) := hc
    rw [jc_tl] at hc'
    rcases joinL_mem hc' with k | ⟨x, hx, k⟩
    · omega
    · obtain ⟨p, hp, rfl⟩ := List.mem_map.mp hx
      exact (h p hp).low c k
  · rw [← len_tl, jc_tl]
    have := joinL_len (s := 44) (m := 9) (l := parts.map TL.tl) fun x hx => by
      obtain ⟨p, hp, rfl⟩ := List.mem_map.mp hx
      rw [len_tl]
      exact (h p hp).len
    rw [List.length_map] at this
    omega
theorem jn_low {ws : List Str} (h : ∀ w ∈ ws, Wd w) : LowS (jn ws) := fun c hc => by
  have hc' : c ∈ TL.tl (jn ws) := hc
  rw [jn_tl] at hc'
  rcases joinL_mem hc' with k | ⟨x, hx, k⟩
  · omega
  · obtain ⟨p, hp, rfl⟩ := List.mem_map.mp hx
    exact (h p hp).low c k
theorem jn_len {ws : List Str} (h : ∀ w ∈ ws, Wd w) : (jn ws).length ≤ ws.length * 41 := by
  rw [← len_tl, jn_tl]
  have := joinL_len (s := 32) (m := 40) (l := ws.map TL.tl) fun x hx => by
    obtain ⟨p, hp, rfl⟩ := List.mem_map.mp hx
    rw [len_tl]
    exact (h p hp).len
  rw [List.length_map] at this
  exact this
theorem jn_split {ws : List Str} (hne : ws ≠ []) (h : ∀ w ∈ ws, Wd w) : Txt.split (jn ws) (" " : Str) = ws := TL.split_join (s := 32) (S := []) (by decide +kernel) (by decide +kernel) hne fun w hw => (h w hw).blank
theorem wd_nil : Wd ("" : Str) := by
  have : Wp ("" : Str) := wp_of (by decide +kernel)
  exact ⟨this.blank, this.low, by have := this.len; omega⟩
theorem split_nil : Txt.split ("" : Str) (" " : Str) = [("" : Str)] := by
  have e : jn [("" : Str)] = ("" : Str) := TL.ext_tl (by rw [jn_tl]; rfl)
  have h : ∀ w ∈ [("" : Str)], Wd w := fun w hw => by
    rw [show w = ("" : Str) by simpa using hw]
    exact wd_nil
  have := jn_split (ws := [("" : Str)]) (by simp) h
  rw [e] at this
  exact this
theorem jn_ne {ws : List Str} (hne : ws ≠ []) (h : ∀ w ∈ ws, Wd w) (h1 : ws ≠ [("" : Str)]) : jn ws ≠ ("" : Str) := fun k => h1 (by rw [← jn_split hne h, k, split_nil])
theorem cm_split {parts : List Str} (hne : parts ≠ []) (h : ∀ p ∈ parts, Wp p) : Txt.split (Txt.join ("," : Str) parts) ("," : Str) = parts := TL.split_join (s := 44) (S := []) (by decide +kernel) (by decide +kernel) hne fun w hw => (h w hw).comma
theorem bad_word {pre : List HP.Pt} {w : Str} {post : List Str} (hpre : ∀ q ∈ pre, GP q) (hl : pre.length + post.length ≤ 20) (hpost : ∀ x ∈ post, Wd x) (hw : Wd w) (hb : WordBad w) (ne : pre.map ptxt ++ w :: post ≠ [("" : Str)]) : ReadBad (jn (pre.map ptxt ++ w :: post)) := by
  have all : ∀ x ∈ pre.map ptxt ++ w :: post, Wd x := fun x hx => by
    rcases List.mem_append.mp hx with k | k
    · obtain ⟨p, hp, rfl⟩ := List.mem_map.mp k
      exact wd_ptxt (hpre p hp)
    · rcases List.mem_cons.mp k with k | k
      · rw [k]; exact hw
      · exact hpost x k
  have hn : pre.map ptxt ++ w :: post ≠ [] := by simp
  refine .inl ⟨_, pre, w, post, rfl, jn_low all, ?_, jn_ne hn all ne, jn_split hn all, by omega, hpre, hb⟩
  have := jn_len all
  simp only [List.length_append, List.length_map, List.length_cons] at this
  omega
theorem bad_many {ps : List HP.Pt} (hg : ∀ q ∈ ps, GP q) (hl : ps.length ≤ 20) (hne : ps ≠ []) (hb : BadPs ps) : ReadBad (jn (ps.map ptxt)) := by
  have all : ∀ x ∈ ps.map ptxt, Wd x := fun x hx => by
    obtain ⟨p, hp, rfl⟩ := List.mem_map.mp hx
    exact wd_ptxt (hg p hp)
  have hn : ps.map ptxt ≠ [] := by simpa using hne
  refine .inr ⟨_, ps, rfl, jn_low all, ?_, jn_ne hn all ?_, jn_split hn all, by omega, hg, hb⟩
  · have := jn_len all
    rw [List.length_map] at this
    omega
  · intro k
    cases ps with
    | nil => exact hne rfl
    | cons p qs =>
      have h1 : ptxt p = ("" : Str) := (List.cons.inj k).1
      have h2 := txt_tl (p := p) (ps := [])
      rw [show txt [p] = ptxt p from TL.ext_tl (by show TL.tl (Txt.join (" " : Str) [ptxt p]) = _; rw [TL.join_eq]; rfl), h1, tl_nil] at h2
      cases h2
theorem wb_len {parts : List Str} (h : ∀ p ∈ parts, Wp p) (hne : parts ≠ []) (h2 : parts.length ≠ 2) (hl : parts.length ≤ 4) : WordBad (Txt.join ("," : Str) parts) :=
  ⟨by have := (wd_parts h hl).len; omega, .inl (by rw [cm_split hne h]; exact h2)⟩
theorem pb_of {x : Str} (h : Wp x) (hx : placeOk x = false) : PlaceBad x := ⟨h.low, by have := h.len; omega, hx⟩
theorem two_parts {a b : Str} (ha : Wp a) (hb : Wp b) : ∀ p ∈ [a, b], Wp p := fun p hp => by
  simp only [List.mem_cons, List.not_mem_nil, or_false] at hp
  rcases hp with e | e <;> rw [e] <;> assumption
theorem wb_a {a b : Str} (ha : Wp a) (hb : Wp b) (h : placeOk a = false) : WordBad (Txt.join ("," : Str) [a, b]) :=
  ⟨by have := (wd_parts (two_parts ha hb) (by simp)).len; omega, .inr ⟨a, b, cm_split (by simp) (two_parts ha hb), .inl (pb_of ha h)⟩⟩
theorem wb_b {i : Int} {b : Str} (G : Good1 i) (hb : Wp b) (h : placeOk b = false) : WordBad (Txt.join ("," : Str) [sI i, b]) :=
  ⟨by have := (wd_parts (two_parts (wp_sI G) hb) (by simp)).len; omega, .inr ⟨sI i, b, cm_split (by simp) (two_parts (wp_sI G) hb), .inr ⟨⟨i, rfl, G⟩, pb_of hb h⟩⟩⟩
def decoB (i : Int) : Bool := !placeOk (sI i ++ ("\n" : Str)) && !placeOk (("\t" : Str) ++ sI i) && !placeOk (("\n" : Str) ++ sI i) && !placeOk (("(" : Str) ++ sI i)
theorem deco_all : ∀ k : Nat, k < 2001 → decoB ((k : Int) - 1000) = true := by decide +kernel
theorem deco {i : Int} (h : -1000 ≤ i ∧ i ≤ 1000) : placeOk (sI i ++ ("\n" : Str)) = false ∧ placeOk (("\t" : Str) ++ sI i) = false ∧ placeOk (("\n" : Str) ++ sI i) = false ∧ placeOk (("(" : Str) ++ sI i) = false := by
  have e : ((i + 1000).toNat : Int) - 1000 = i := by omega
  have g := deco_all (i + 1000).toNat (by omega)
  rw [e] at g
  unfold decoB at g
  simp only [Bool.and_eq_true, Bool.not_eq_true'] at g
  exact ⟨g.1.1.1, g.1.1.2, g.1.2, g.2⟩
theorem some0_bad : ∀ x ∈ some0.drop 2, (wpB x && !placeOk x) = true := by decide +kernel
theorem some0_ok : some0.take 2 = [sI 1001, sI (-1001)] := by decide +kernel
theorem jn_front (x w : Str) (ws : List Str) : x ++ jn (w :: ws) = jn ((x ++ w) :: ws) := TL.ext_tl (by
  rw [TL.tl_append, jn_tl, jn_tl, List.map_cons, List.map_cons, TL.tl_append]
  exact joinL_front _ _ _ _)
theorem jn_back (x w : Str) (ws : List Str) : jn (ws ++ [w]) ++ x = jn (ws ++ [w ++ x]) := TL.ext_tl (by
  rw [TL.tl_append, jn_tl, jn_tl, List.map_append, List.map_append, List.map_singleton, List.map_singleton, TL.tl_append]
  exact joinL_back _ _ _ _)
theorem jn_cut (x y : Str) (pre post : List Str) : jn (pre ++ (x ++ (" " : Str) ++ y) :: post) = jn (pre ++ x :: y :: post) := TL.ext_tl (by
  rw [jn_tl, jn_tl, List.map_append, List.map_append, List.map_cons, List.map_cons, List.map_cons, TL.tl_append, TL.tl_append, tl_blank, List.append_assoc]
  exact joinL_cut _ _ _ _ _)
theorem app_nil (x : Str) : x ++ ("" : Str) = x := TL.ext_tl (by rw [TL.tl_append, tl_nil, List.append_nil])
theorem nil_app (x : Str) : ("" : Str) ++ x = x := TL.ext_tl (by rw [TL.tl_append, tl_nil, List.nil_append])
theorem app_assoc (x y z : Str) : x ++ y ++ z = x ++ (y ++ z) := TL.ext_tl (by simp only [TL.tl_append, List.append_assoc])
theorem jn_head (w : Str) (ws : List Str) : (" " : Str) ++ jn (w :: ws) = jn ("" :: w :: ws) := by
  rw [jn_front, ← nil_app (" " : Str)]
  exact jn_cut "" w [] ws
theorem jn_last (w : Str) (ws : List Str) : jn (ws ++ [w]) ++ (" " : Str) = jn (ws ++ [w, ""]) := by
  rw [jn_back, ← app_nil (w ++ (" " : Str))]
  exact jn_cut w "" ws []
theorem jc1 (x : Str) : Txt.join ("," : Str) [x] = x := by rw [TL.join_eq]; rfl
theorem jc2 (x y : Str) : Txt.join ("," : Str) [x, y] = x ++ ("," : Str) ++ y := by rw [TL.join_eq]; rfl
theorem jc3 (x y z : Str) : Txt.join ("," : Str) [x, y, z] = x ++ ("," : Str) ++ (y ++ ("," : Str) ++ z) := by rw [TL.join_eq]; rfl
theorem ne_of {c : Nat} {x : Str} (h : c ∈ TL.tl x) : x ≠ ("" : Str) := fun e => by
  rw [e, tl_nil] at h
  cases h
theorem ne_one {pre post : List Str} {w : Str} (h : w ≠ ("" : Str) ∨ pre ≠ [] ∨ post ≠ []) : pre ++ w :: post ≠ [("" : Str)] := fun k => by
  cases pre with
  | nil =>
    rw [List.nil_append] at k
    injection k with k1 k2
    exact h.elim (fun q => q k1) fun q => q.elim (fun q => q rfl) fun q => q k2
  | cons a pre =>
    rw [List.cons_append] at k
    injection k with k1 k2
    simp at k2
theorem put_eq (ps : List HP.Pt) (k : Nat) (x : Str) : put (ps.map ptxt) k x = (ps.take k).map ptxt ++ x :: (ps.drop (k + 1)).map ptxt := by
  unfold put
  rw [List.map_take, List.map_drop, List.append_assoc]
  rfl
theorem put_bad {ps : List HP.Pt} {k : Nat} {x : Str} (hn : ∀ q ∈ ps, Near q) (hl : ps.length ≤ 12) (hw : Wd x) (hb : WordBad x) (hx : x ≠ ("" : Str)) : ReadBad (jn (put (ps.map ptxt) k x)) := by
  rw [put_eq]
  refine bad_word (fun q hq => gp_near (hn q (List.mem_of_mem_take hq))) ?_ (fun y hy => ?_) hw hb (ne_one (.inl hx))
  · rw [List.length_take, List.length_map, List.length_drop]
    omega
  · obtain ⟨p, hp, rfl⟩ := List.mem_map.mp hy
    exact wd_ptxt (gp_near (hn p (List.mem_of_mem_drop hp)))
theorem put_many {ps : List HP.Pt} {k : Nat} {q : HP.Pt} (hn : ∀ q ∈ ps, Near q) (hl : ps.length ≤ 12) (hq : GP q) (hb : ¬ Near q) : ReadBad (jn (put (ps.map ptxt) k (ptxt q))) := by
  rw [put_eq, show (ps.take k).map ptxt ++ ptxt q :: (ps.drop (k + 1)).map ptxt = (ps.take k ++ q :: ps.drop (k + 1)).map ptxt by rw [List.map_append, List.map_cons]]
  refine bad_many (fun x hx => ?_) ?_ (by simp) (.inr ⟨q, by simp, hb⟩)
  · rcases List.mem_append.mp hx with h | h
    · exact gp_near (hn x (List.mem_of_mem_take h))
    · rcases List.mem_cons.mp h with h | h
      · rw [h]; exact hq
      · exact gp_near (hn x (List.mem_of_mem_drop h))
  · simp only [List.length_append, List.length_cons, List.length_take, List.length_drop]
    omega
theorem sI_ne {i : Int} (G : Good1 i) : sI i ≠ ("" : Str) := fun e => by
  have := G.f1
  rw [e] at this
  revert this
  decide +kernel
theorem wds {ps : List HP.Pt} (hn : ∀ q ∈ ps, Near q) : ∀ x ∈ ps.map ptxt, Wd x := fun x hx => by
  obtain ⟨p, hp, rfl⟩ := List.mem_map.mp hx
  exact wd_ptxt (gp_near (hn p hp))
theorem wb_nil : WordBad ("" : Str) := by
  have h : ∀ p ∈ [("" : Str)], Wp p := fun p hp => by
    rw [show p = ("" : Str) by simpa using hp]
    exact wp_of (by decide +kernel)
  have := wb_len h (by simp) (by simp) (by simp)
  rwa [jc1] at this
/-- the spoiled word ahead -/
theorem head_bad {w : Str} {ws : List Str} (hws : ∀ x ∈ ws, Wd x) (hl : ws.length ≤ 20) (hw : Wd w) (hb : WordBad w) (ne : w ≠ ("" : Str) ∨ ws ≠ []) : ReadBad (jn (w :: ws)) :=
  bad_word (pre := []) (post := ws) (fun q hq => nomatch hq) (by simpa using hl) hws hw hb (ne_one (pre := []) (ne.elim .inl fun q => .inr (.inr q)))
/-- .. at the end -/
theorem last_bad {ps : List HP.Pt} {w : Str} (hn : ∀ q ∈ ps, Near q) (hl : ps.length ≤ 12) (hw : Wd w) (hb : WordBad w) (ne : w ≠ ("" : Str) ∨ ps ≠ []) : ReadBad (jn (ps.map ptxt ++ [w])) :=
  bad_word (post := []) (fun q hq => gp_near (hn q hq)) (by simp; omega) (fun x hx => nomatch hx) hw hb (ne_one (ne.elim .inl fun q => .inr (.inl (by simpa using q))))
theorem comma_in (x y : Str) : 44 ∈ TL.tl (x ++ ("," : Str) ++ y) := by
  rw [TL.tl_append, TL.tl_append, tl_comma]
  simp
def litBad (z : Str) : Bool := (TL.tl z).all (fun c => decide (c < 256)) && decide (z.length ≤ 9) && !((TL.tl z).isEmpty) && (match Txt.split z (" " : Str) with | w :: _ => decide (w.length ≤ 9) && (match Txt.split w ("," : Str) with | [a, _] => wpB a && !placeOk a | _ => true) | [] => false)
theorem lit_bad {z : Str} (h : litBad z = true) : ReadBad z := by
  unfold litBad at h
  rw [Bool.and_eq_true, Bool.and_eq_true, Bool.and_eq_true] at h
  obtain ⟨⟨⟨h1, h2⟩, h3⟩, h4⟩ := h
  have h2' := of_decide_eq_true h2
  cases e : Txt.split z (" " : Str) with
  | nil => rw [e] at h4; cases h4
  | cons w post =>
    rw [e] at h4
    simp only [Bool.and_eq_true, decide_eq_true_eq] at h4
    refine .inl ⟨z, [], w, post, rfl, fun c hc => of_decide_eq_true (List.all_eq_true.mp h1 c hc), by omega, fun k => ?_, e, by simp, fun q hq => (nomatch hq), by omega, ?_⟩
    · rw [k, tl_nil] at h3
      cases h3
    · have h5 := h4.2
      generalize Txt.split w ("," : Str) = l at h5
      match l, h5 with
      | [a, b], h5 =>
        simp only [Bool.and_eq_true, Bool.not_eq_true'] at h5
        exact .inr ⟨a, b, rfl, .inl (pb_of (wp_of h5.1) h5.2)⟩
      | [], _ => exact .inl (by simp)
      | [_], _ => exact .inl (by simp)
      | _ :: _ :: _ :: _, _ => exact .inl (by simp)
def lits : List Str := [" ", "\n", "\t", "  ", " \n", "\n\n", "\t ", ",", "-", ",\n", " , ", "0"]
theorem lits_bad : ∀ z ∈ lits, litBad z = true := by decide +kernel
theorem getD_mem {xs : List Str} {i : Nat} (h : i < xs.length) : xs.getD i "" ∈ xs := by
  rw [List.getD_eq_getElem?_getD, List.getElem?_eq_getElem h]
  exact List.getElem_mem h
theorem spoil_bad {ps : List HP.Pt} {way c : Int} (hne : ps ≠ []) (hl : ps.length ≤ 12) (hn : ∀ q ∈ ps, Near q) (hc : 0 ≤ c) : ReadBad (spoil ps way c) := by
  have hpos : 0 < ps.length := List.length_pos_iff.mpr hne
  have hk : kOf ps c < ps.length := by
    have := Int.emod_lt_of_pos c (show (0 : Int) < (ps.length : Int) by omega)
    have := Int.emod_nonneg c (show (ps.length : Int) ≠ 0 by omega)
    unfold kOf
    omega
  have bd : ∀ (m n : Int), 0 < n → 0 ≤ c / m % n ∧ c / m % n < n := fun m n h => ⟨Int.emod_nonneg _ (by omega), Int.emod_lt_of_pos _ h⟩
  have wn : ∀ s : Str, wpB s = true → Wp s := fun s h => wp_of h
  unfold spoil
  generalize kOf ps c = k at hk ⊢
  have np : Near (HP.atN ps k) := hn _ (by
    unfold HP.atN
    rw [List.getD_eq_getElem?_getD, List.getElem?_eq_getElem hk]
    exact List.getElem_mem hk)
  generalize HP.atN ps k = p at np ⊢
  have G := gp_near np
  have wa := wp_sI G.1
  have wb := wp_sI G.2
  by_cases h0 : way = 0
  · rw [if_pos h0]
    have b1 := bd 24 16 (by omega)
    have b2 := bd 12 2 (by omega)
    have hlt : (c / 24 % 16).toNat < some0.length := by show _ < 16; omega
    have hx : some0.getD (c / 24 % 16).toNat "" ∈ some0.take 2 ++ some0.drop 2 := by rw [List.take_append_drop]; exact getD_mem hlt
    generalize some0.getD (c / 24 % 16).toNat "" = x at hx ⊢
    have ej : (c / 12 % 2).toNat = 0 ∨ (c / 12 % 2).toNat = 1 := by omega
    rcases List.mem_append.mp hx with hx | hx
    · have hx' : ∃ i : Int, x = sI i ∧ (i = 1001 ∨ i = -1001) := by
        rw [some0_ok] at hx
        simp only [List.mem_cons, List.not_mem_nil, or_false] at hx
        rcases hx with e | e
        · exact ⟨1001, e, .inl rfl⟩
        · exact ⟨-1001, e, .inr rfl⟩
      obtain ⟨i, rfl, hi⟩ := hx'
      have gi : Good1 i := goodW (by omega)
      unfold Near at np
      rcases ej with e | e <;> rw [e]
      · show ReadBad (jn (put (ps.map ptxt) k (Txt.join ("," : Str) [sI i, sI p.2])))
        rw [← ptxt_join (i, p.2)]
        exact put_many hn hl ⟨gi, G.2⟩ (by unfold Near; simp only; omega)
      · show ReadBad (jn (put (ps.map ptxt) k (Txt.join ("," : Str) [sI p.1, sI i])))
        rw [← ptxt_join (p.1, i)]
        exact put_many hn hl ⟨G.1, gi⟩ (by unfold Near; simp only; omega)
    · have hb := some0_bad x hx
      rw [Bool.and_eq_true, Bool.not_eq_true'] at hb
      have wx := wp_of hb.1
      rcases ej with e | e <;> rw [e]
      · show ReadBad (jn (put (ps.map ptxt) k (Txt.join ("," : Str) [x, sI p.2])))
        exact put_bad hn hl (wd_parts (two_parts wx wb) (by simp)) (wb_a wx wb hb.2) (by rw [jc2]; exact ne_of (comma_in _ _))
      · show ReadBad (jn (put (ps.map ptxt) k (Txt.join ("," : Str) [sI p.1, x])))
        exact put_bad hn hl (wd_parts (two_parts wa wx) (by simp)) (wb_b G.1 wx hb.2) (by rw [jc2]; exact ne_of (comma_in _ _))
  · rw [if_neg h0]
    by_cases h1 : way = 1
    · rw [if_pos h1]
      have b1 := bd 12 5 (by omega)
      have hx := getD_mem (xs := some1 p) (i := (c / 12 % 5).toNat) (by show _ < 5; omega)
      generalize (some1 p).getD (c / 12 % 5).toNat "" = x at hx ⊢
      unfold some1 at hx
      simp only [List.mem_cons, List.not_mem_nil, or_false] at hx
      rcases hx with e | e | e | e | e
      · have h : ∀ q ∈ [sI p.1], Wp q := fun q hq => by rw [show q = sI p.1 by simpa using hq]; exact wa
        have h2 := wb_len h (by simp) (by simp) (by simp)
        have h3 := wd_parts h (by simp)
        rw [jc1] at h2 h3
        rw [e]
        exact put_bad hn hl h3 h2 (sI_ne G.1)
      · have w0 : Wp ("0" : Str) := wp_of (by decide +kernel)
        have h : ∀ q ∈ [sI p.1, sI p.2, ("0" : Str)], Wp q := fun q hq => by
          simp only [List.mem_cons, List.not_mem_nil, or_false] at hq
          rcases hq with e | e | e <;> rw [e] <;> assumption
        have h2 := wb_len h (by simp) (by simp) (by simp)
        have h3 := wd_parts h (by simp)
        have ex : x = Txt.join ("," : Str) [sI p.1, sI p.2, ("0" : Str)] := by
          rw [e, jc3]
          unfold ptxt
          have e0 : (",0" : Str) = ("," : Str) ++ ("0" : Str) := by decide +kernel
          rw [e0]
          simp only [app_assoc]
        rw [ex]
        exact put_bad hn hl h3 h2 (by rw [jc3]; exact ne_of (comma_in _ _))
      · have l1 := G.1.len
        have l2 := G.2.len
        have cm : Wd x ∧ 44 ∉ TL.tl x ∧ x ≠ ("" : Str) := by
          have hs : Wp (";" : Str) := wp_of (by decide +kernel)
          have z : (";" : Str).length = 1 := by decide +kernel
          have ts : TL.tl (";" : Str) = [59] := by decide +kernel
          rw [e]
          refine ⟨⟨fun k => ?_, (wa.low.app hs.low).app wb.low, by rw [Str.length_append, Str.length_append]; omega⟩, fun k => ?_, ne_of (c := 59) (by rw [TL.tl_append, TL.tl_append, ts]; simp)⟩
          · rw [TL.tl_append, TL.tl_append] at k
            exact (List.mem_append.mp k).elim (fun k => (List.mem_append.mp k).elim wa.blank hs.blank) wb.blank
          · rw [TL.tl_append, TL.tl_append] at k
            exact (List.mem_append.mp k).elim (fun k => (List.mem_append.mp k).elim wa.comma hs.comma) wb.comma
        refine put_bad hn hl cm.1 ⟨by have := cm.1.len; omega, .inl ?_⟩ cm.2.2
        have := TL.split_join (y := ("," : Str)) (s := 44) (S := []) (by decide +kernel) (by decide +kernel) (parts := [x]) (by simp) fun q hq => by rw [show q = x by simpa using hq]; exact cm.2.1
        rw [jc1] at this
        rw [this]
        simp
      · have wc : Wp ("" : Str) := wp_of (by decide +kernel)
        have ex : x = Txt.join ("," : Str) [sI p.1, ("" : Str)] ++ (" " : Str) ++ sI p.2 := by
          rw [e, jc2]
          have e0 : (", " : Str) = ("," : Str) ++ (" " : Str) := by decide +kernel
          rw [e0, app_nil]
          simp only [app_assoc]
        rw [ex, put_eq, jn_cut]
        refine bad_word (fun q hq => gp_near (hn q (List.mem_of_mem_take hq))) ?_ (fun y hy => ?_) (wd_parts (two_parts wa wc) (by simp)) (wb_b G.1 wc (by decide +kernel)) (ne_one (.inr (.inr (by simp))))
        · rw [List.length_take, List.length_cons, List.length_map, List.length_drop]
          omega
        · rcases List.mem_cons.mp hy with q | q
          · rw [q]
            exact ⟨wb.blank, wb.low, by have := wb.len; omega⟩
          · obtain ⟨r, hr, rfl⟩ := List.mem_map.mp q
            exact wd_ptxt (gp_near (hn r (List.mem_of_mem_drop hr)))
      · have wc : Wp ("" : Str) := wp_of (by decide +kernel)
        have ex : x = Txt.join ("," : Str) [("" : Str), ("" : Str)] := by rw [e, jc2]; decide +kernel
        rw [ex]
        exact put_bad hn hl (wd_parts (two_parts wc wc) (by simp)) (wb_a wc wc (by decide +kernel)) (by rw [jc2]; exact ne_of (comma_in _ _))
    · rw [if_neg h1]
      have wN : Wp ("\n" : Str) := wp_of (by decide +kernel)
      have wT : Wp ("\t" : Str) := wp_of (by decide +kernel)
      have wO : Wp ("(" : Str) := wp_of (by decide +kernel)
      have wC : Wp (")" : Str) := wp_of (by decide +kernel)
      have z1 : ("\n" : Str).length = 1 := by decide +kernel
      have z2 : ("\t" : Str).length = 1 := by decide +kernel
      have z3 : ("(" : Str).length = 1 := by decide +kernel
      have z4 : (")" : Str).length = 1 := by decide +kernel
      have et : txt ps = jn (ps.map ptxt) := rfl
      -- the first word with a sign ahead
      have front : ∀ (s : Str) (ws : List Str) (q : HP.Pt) (t : Str), Near q → Wp s → s.length = 1 → Wp t → t.length ≤ 1 → placeOk (s ++ sI q.1) = false → (∀ x ∈ ws, Wd x) → ws.length ≤ 20 → ReadBad (jn ((s ++ (ptxt q ++ t)) :: ws)) := fun s ws q t hq hs zs ht zt hb hws hwl => by
        have Gq := gp_near hq
        have l1 := Gq.1.len
        have l2 := Gq.2.len
        have w1 := wp_app hs (wp_sI Gq.1) (by omega)
        have w2 := wp_app (wp_sI Gq.2) ht (by omega)
        have ex : s ++ (ptxt q ++ t) = Txt.join ("," : Str) [s ++ sI q.1, sI q.2 ++ t] := by
          rw [jc2]
          unfold ptxt
          simp only [app_assoc]
        rw [ex]
        exact head_bad hws hwl (wd_parts (two_parts w1 w2) (by simp)) (wb_a w1 w2 hb) (.inl (by rw [jc2]; exact ne_of (comma_in _ _)))
      have front1 : ∀ s : Str, Wp s → s.length = 1 → (∀ q : HP.Pt, Near q → placeOk (s ++ sI q.1) = false) → ReadBad (s ++ txt ps) := fun s hs zs hb => by
        rw [et]
        cases ps with
        | nil => exact absurd rfl hne
        | cons q qs =>
          have hq := hn q (by simp)
          rw [List.map_cons, jn_front, ← app_nil (ptxt q)]
          exact front s (qs.map ptxt) q "" hq hs zs (wp_of (by decide +kernel)) (by decide +kernel) (hb q hq) (wds fun r hr => hn r (List.mem_cons_of_mem _ hr)) (by rw [List.length_map]; simp only [List.length_cons] at hl; omega)
      by_cases h2 : way = 2
      · rw [if_pos h2]
        have b1 := bd 12 6 (by omega)
        have hx := getD_mem (xs := some2 (txt ps)) (i := (c / 12 % 6).toNat) (by show _ < 6; omega)
        generalize (some2 (txt ps)).getD (c / 12 % 6).toNat "" = x at hx ⊢
        unfold some2 at hx
        simp only [List.mem_cons, List.not_mem_nil, or_false] at hx
        obtain ⟨qs, q, eq⟩ : ∃ qs q, ps = qs ++ [q] := ⟨_, _, (List.dropLast_concat_getLast hne).symm⟩
        have lq : qs.length ≤ 12 := by rw [eq, List.length_append] at hl; omega
        have nq : Near q := hn q (by rw [eq]; simp)
        have nqs : ∀ r ∈ qs, Near r := fun r hr => hn r (by rw [eq]; exact List.mem_append_left _ hr)
        have Gq := gp_near nq
        have dq := deco (i := q.2) (by unfold Near at nq; omega)
        rcases hx with e | e | e | e | e | e
        · rw [e, et]
          cases ps with
          | nil => exact absurd rfl hne
          | cons r rs =>
            rw [List.map_cons, jn_head, ← List.map_cons]
            exact head_bad (wds hn) (by rw [List.length_map]; omega) wd_nil wb_nil (.inr (by simp))
        · rw [e, et, eq, List.map_append, List.map_singleton, jn_last]
          have := last_bad (w := ("" : Str)) hn hl wd_nil wb_nil (.inr hne)
          rw [eq, List.map_append, List.map_singleton, List.append_assoc] at this
          exact this
        · rw [e, et, eq, List.map_append, List.map_singleton, jn_back]
          have l2 := Gq.2.len
          have w2 := wp_app (wp_sI Gq.2) wN (by omega)
          have ex : ptxt q ++ ("\n" : Str) = Txt.join ("," : Str) [sI q.1, sI q.2 ++ ("\n" : Str)] := by
            rw [jc2]
            unfold ptxt
            simp only [app_assoc]
          rw [ex]
          exact last_bad nqs lq (wd_parts (two_parts (wp_sI Gq.1) w2) (by simp)) (wb_b Gq.1 w2 dq.1) (.inl (by rw [jc2]; exact ne_of (comma_in _ _)))
        · rw [e]
          exact front1 _ wT z2 fun r hr => (deco (i := r.1) (by unfold Near at hr; omega)).2.1
        · rw [e]
          exact front1 _ wN z1 fun r hr => (deco (i := r.1) (by unfold Near at hr; omega)).2.2.1
        · rw [e, et, eq, List.map_append, List.map_singleton, jn_back]
          have wc : Wp ("" : Str) := wp_of (by decide +kernel)
          have w1 := wp_sI Gq.1
          have w2 := wp_sI Gq.2
          have h : ∀ q' ∈ [sI q.1, sI q.2, ("" : Str)], Wp q' := fun q' hq' => by
            simp only [List.mem_cons, List.not_mem_nil, or_false] at hq'
            rcases hq' with e | e | e <;> rw [e] <;> assumption
          have ex : ptxt q ++ ("," : Str) = Txt.join ("," : Str) [sI q.1, sI q.2, ("" : Str)] := by
            rw [jc3, app_nil]
            unfold ptxt
            simp only [app_assoc]
          rw [ex]
          exact last_bad nqs lq (wd_parts h (by simp)) (wb_len h (by simp) (by simp) (by simp)) (.inl (by rw [jc3]; exact ne_of (comma_in _ _)))
      · rw [if_neg h2]
        by_cases h3 : way = 3
        · rw [if_pos h3, ← List.map_take, ← List.map_drop, List.append_assoc, List.singleton_append]
          refine bad_word (fun q hq => gp_near (hn q (List.mem_of_mem_take hq))) ?_ (wds fun q hq => hn q (List.mem_of_mem_drop hq)) wd_nil wb_nil (ne_one (.inr (.inr ?_)))
          · rw [List.length_take, List.length_map, List.length_drop]
            omega
          · intro e
            have := congrArg List.length e
            rw [List.length_map, List.length_drop, List.length_nil] at this
            omega
        · rw [if_neg h3]
          by_cases h4 : way = 4
          · rw [if_pos h4, et, app_assoc]
            cases ps with
            | nil => exact absurd rfl hne
            | cons q qs =>
              have hq := hn q (by simp)
              have dq := (deco (i := q.1) (by unfold Near at hq; omega)).2.2.2
              by_cases hqs : qs = []
              · subst hqs
                have e1 : jn ([q].map ptxt) ++ (")" : Str) = jn [ptxt q ++ (")" : Str)] := jn_back _ _ []
                rw [e1, jn_front]
                exact front _ [] q _ hq wO z3 wC (by omega) dq (fun x hx => nomatch hx) (by simp)
              · obtain ⟨rs, r, er⟩ : ∃ rs r, qs = rs ++ [r] := ⟨_, _, (List.dropLast_concat_getLast hqs).symm⟩
                have nr : Near r := hn r (by rw [er]; simp)
                have nrs : ∀ s ∈ rs, Near s := fun s hs => hn s (by rw [er]; simp [hs])
                have e1 : jn ((q :: qs).map ptxt) ++ (")" : Str) = jn (ptxt q :: (rs.map ptxt ++ [ptxt r ++ (")" : Str)])) := by
                  rw [er, List.map_cons, List.map_append, List.map_singleton, ← List.cons_append, jn_back]
                  rfl
                have e2 := front ("(" : Str) (rs.map ptxt ++ [ptxt r ++ (")" : Str)]) q ("" : Str) hq wO z3 (wp_of (by decide +kernel)) (by decide +kernel) dq (fun x hx => ?_) ?_
                · rw [e1, jn_front, ← app_nil (ptxt q)]
                  exact e2
                · rcases List.mem_append.mp hx with hx | hx
                  · exact wds nrs x hx
                  · rw [show x = ptxt r ++ (")" : Str) by simpa using hx]
                    have wr := wd_ptxt (gp_near nr)
                    have lr := ptxt_lenG (gp_near nr)
                    refine ⟨fun k => ?_, wr.low.app wC.low, by rw [Str.length_append]; omega⟩
                    rw [TL.tl_append] at k
                    exact (List.mem_append.mp k).elim wr.blank wC.blank
                · rw [er] at hl
                  simp only [List.length_append, List.length_cons, List.length_map, List.length_nil] at hl ⊢
                  omega
          · rw [if_neg h4]
            have b1 := bd 12 3 (by omega)
            have e0 : ("0,0" : Str) = ptxt (0, 0) := by decide +kernel
            have g0 : GP ((0 : Int), (0 : Int)) := ⟨goodW (by simp), goodW (by simp)⟩
            have hN : 13 ≤ ps.length + (13 - (ps.length : Int) + c / 12 % 3).toNat ∧ ps.length + (13 - (ps.length : Int) + c / 12 % 3).toNat ≤ 20 := by omega
            generalize (13 - (ps.length : Int) + c / 12 % 3).toNat = n at hN ⊢
            rw [show ps.map ptxt ++ List.replicate n ("0,0" : Str) = (ps ++ List.replicate n ((0 : Int), (0 : Int))).map ptxt by rw [List.map_append, List.map_replicate, ← e0]]
            refine bad_many (fun q hq => ?_) (by rw [List.length_append, List.length_replicate]; omega) (by simp [hne]) (.inl (by rw [List.length_append, List.length_replicate]; omega))
            rcases List.mem_append.mp hq with h | h
            · exact gp_near (hn q h)
            · rw [(List.mem_replicate.mp h).2]
              exact g0
theorem ok_law {P : Program} {w : World} {K : PySem.W.Frag} {mg : Str → Option Value} {base : Heap} {ad : Ad} (T : Txt K mg ad) : FnOk P w K mg base CX0 5 ad.a_law ad.d_law ["script"] (spD K F_law) := by
  have G__law_points := ok__law_points (P := P) (w := w) (base := base) T
  have G__law_cell_at := ok__law_cell_at (P := P) (w := w) (base := base) T
  have G__law_spoiled := ok__law_spoiled (P := P) (w := w) (base := base) T
  have G__law_tried := ok__law_tried (P := P) (w := w) (base := base) T
  have G__law_text := ok__law_text (P := P) (w := w) (base := base) T
  refine ok_D (k := 4) T.F_law sc_law (by rintro _ _ ⟨_, rfl, _⟩; rfl) (fun cdv A outer s H E hr ds res hF => ?_)
  refine ⟨_, (pss_cons (ps_set (i := 1) sc_law.nd rfl (Or.inl rfl) (pe_call G__law_points (hr.mono (by decide)) (by rfl) T.g__law_points T.F__law_points.kp T.b__law_points .nil pass0 (pa_cons (pe_op op_cat (pe_lst (pa_cons (pe_op op_add pe_int (pe_op op_mod (pe_call G__law_cell_at (hr.mono (by decide)) (by rfl) T.g__law_cell_at T.F__law_cell_at.kp T.b__law_cell_at .nil pass0 (pa_cons (pv 0) (pa_cons pe_int pa_nil))) pe_int)) pa_nil)) (pe_slice sl_list (pv 0) (po_some pe_int) po_none)) (pa_cons pe_int (pa_cons pe_int pa_nil)))))
      (pss_cons (ps_setLcA (i := 2) (own := [("point", 5)]) rfl sc_law.nd rfl rfl (sw_true rfl rfl rfl (by decide +kernel)) (pi_list (pv 1)) (blkOk_by (own := [("point", 5)]) (N := N_law) (sc := defScope s_law) (by decide +kernel)) (fun _ _ _ _ _ => (pg_name (i := 5) sc_law.nd rfl (Or.inl rfl) (hf := Or.inr rfl))) (fun _ _ _ _ _ => pts_nil) (fun _ _ _ _ _ => (pe_op op_add_str (pe_op op_add_str (pe_callTy call_str_int (by rfl) T.n_str (by decide +kernel) (pa_cons (pe_ix ix_seq (pv 5) pe_int (fun _ _ => rfl)) pa_nil)) pe_str) (pe_callTy call_str_int (by rfl) T.n_str (by decide +kernel) (pa_cons (pe_ix ix_seq (pv 5) pe_int (fun _ _ => rfl)) pa_nil)))))
      (pss_cons (ps_set (i := 3) sc_law.nd rfl (Or.inl rfl) (pe_call G__law_spoiled (hr.mono (by decide)) (by rfl) T.g__law_spoiled T.F__law_spoiled.kp T.b__law_spoiled .nil pass0 (pa_cons (pv 2) (pa_cons (pe_op op_mod (pe_call G__law_cell_at (hr.mono (by decide)) (by rfl) T.g__law_cell_at T.F__law_cell_at.kp T.b__law_cell_at .nil pass0 (pa_cons (pv 0) (pa_cons pe_int pa_nil))) pe_int) (pa_cons (pe_op op_mod (pe_call G__law_cell_at (hr.mono (by decide)) (by rfl) T.g__law_cell_at T.F__law_cell_at.kp T.b__law_cell_at .nil pass0 (pa_cons (pv 0) (pa_cons pe_int pa_nil))) pe_int) pa_nil)))))
      (pss_cons (ps_if (pt_cmpR (op_eqD hr.units) (pe_op op_mod (pe_call G__law_cell_at (hr.mono (by decide)) (by rfl) T.g__law_cell_at T.F__law_cell_at.kp T.b__law_cell_at .nil pass0 (pa_cons (pv 0) (pa_cons pe_int pa_nil))) pe_int) pe_int (nomark _)) (pss_cons (ps_set (i := 4) sc_law.nd rfl (Or.inl rfl) (pe_lst (pa_cons pe_str (pa_cons pe_str (pa_cons pe_str (pa_cons pe_str (pa_cons pe_str (pa_cons pe_str (pa_cons pe_str (pa_cons pe_str (pa_cons pe_str (pa_cons pe_str (pa_cons pe_str (pa_cons pe_str pa_nil))))))))))))))
      (pss_one (ps_set (i := 3) sc_law.nd rfl (Or.inl rfl) (pe_ix ix_seq (pv 4) (pe_op op_mod (pe_call G__law_cell_at (hr.mono (by decide)) (by rfl) T.g__law_cell_at T.F__law_cell_at.kp T.b__law_cell_at .nil pass0 (pa_cons (pv 0) (pa_cons pe_int pa_nil))) pe_int) (fun _ _ => rfl))))) pss_nil)
      (pss_cons (ps_if (PW.pt (pw_or (pt_cmpR (op_neD hr.units) (pe_call G__law_tried (hr.mono (by decide)) (by rfl) T.g__law_tried T.F__law_tried.kp T.b__law_tried .nil pass0 (pa_cons (pv 3) pa_nil)) pe_str (nomark _)) (pw_or1 (pt_cmpR (op_neD hr.units) (pe_call G__law_tried (hr.mono (by decide)) (by rfl) T.g__law_tried T.F__law_tried.kp T.b__law_tried .nil pass0 (pa_cons (pv 3) pa_nil)) pe_str (nomark _))))) (pss_one (ps_ret pe_bl)) pss_nil)
      (pss_one (ps_ret (pe_cmpR (op_eqD hr.units) (pe_call G__law_tried (hr.mono (by decide)) (by rfl) T.g__law_tried T.F__law_tried.kp T.b__law_tried .nil pass0 (pa_cons (pe_call G__law_text (hr.mono (by decide)) (by rfl) T.g__law_text T.F__law_text.kp T.b__law_text .nil pass0 (pa_cons (pv 1) pa_nil)) pa_nil)) pe_str (nomark _))))))))), ?_⟩
  obtain ⟨ns, rfl, hns, rfl⟩ := hF
  have cl : ∀ (e : SE) (k : Nat), e[0]? = some (.dat (scrD ns)) → EvX K (tCall (spD K F__law_cell_at) [] E0 (tCons (tVar 0) (tCons (tC (.int (k : Nat))) tNil))) e (.int (cell ns k)) := fun e k h0 => ex_call (ea_cons (ex_var h0) (ea_cons ex_int ea_nil)) ⟨ns, _, k, rfl, .inl rfl, rfl⟩
  have c0 := Int.emod_nonneg (cell ns 0) (show (12 : Int) ≠ 0 by omega)
  have c1 := Int.emod_lt_of_pos (cell ns 0) (show (0 : Int) < 12 by omega)
  have ct := cut_tail ns
  generalize hc : 1 + cell ns 0 % 12 = c at c0 c1
  have hlen := lawPoints_length (c :: cutD ns (some 1) none) 0 12
  have e0 : cell (c :: cutD ns (some 1) none) 0 = c := rfl
  rw [e0] at hlen
  have hlen2 : (lawPoints (c :: cutD ns (some 1) none) 0 12).length = c.toNat := by
    rw [hlen]
    have : c % ((12 : Nat) + 1 : Int) = c := Int.emod_eq_of_lt (by omega) (by omega)
    rw [this]
  have hn := lawPoints_near (ns := c :: cutD ns (some 1) none) (at_ := 0) (most := 12)
  refine rx_seq (e1 := [.dat (scrD ns), .dat (ptsD (lawPoints (c :: cutD ns (some 1) none) 0 12)), .no, .no, .no, .no]) (rx_asg (ex_new (xf_call (ea_cons (ex_is (ex_new (xf_cat (ex_new (xf_lst (ea_cons (ex_is (ex_I0 (g := fun i j => i + j) ex_int (ex_I (g := fun i j => i % j) (cl _ 0 rfl) ex_int (by omega))) (congrArg PyData.int hc)) ea_nil) (Nat.le_of_ble_eq_true rfl))) (ex_new (xf_slScr (ex_var rfl) (eo_at ex_int) eo_no)) ?_)) (show _ = PyData.list ((c :: cutD ns (some 1) none).map PyData.int) from rfl)) (ea_cons ex_int (ea_cons ex_int ea_nil))) ⟨c :: cutD ns (some 1) none, _, 0, 12, rfl, .inr rfl, by omega, rfl⟩)) rfl) ?_
  · rw [List.length_map]; simp only [List.length_cons, List.length_nil]; omega
  generalize lawPoints (c :: cutD ns (some 1) none) 0 12 = ps at hlen2 hn ⊢
  have h1 : 1 ≤ ps.length := by omega
  have h12 : ps.length ≤ 12 := by omega
  have hne : ps ≠ [] := fun e => by rw [e] at h1; simp at h1
  clear hlen e0
  refine rx_seq (e1 := [.dat (scrD ns), .dat (ptsD ps), .dat (wordsD ps), .no, .no, .no]) (rx_asg (ex_new (xf_is (xf_lc ps ptD (fun _ => true) (fun p => .str (ptxt p)) (fun p => [.dat (scrD ns), .dat (ptsD ps), .no, .no, .no, .dat (ptD p)]) (ex_var rfl) rfl (by omega) (fun p _ => cg_name (by decide) rfl) (fun p _ => xt_true) (fun p hp _ => ex_ptxt (i := 5) rfl (hn p hp)) (fun _ _ _ => rfl)) (lc_txt ps))) rfl) ?_
  have m1 : ∀ (k : Nat) (n : Int), 0 < n → 0 ≤ cell ns k % n ∧ cell ns k % n < n := fun k n h => ⟨Int.emod_nonneg _ (by omega), Int.emod_lt_of_pos _ h⟩
  refine rx_seq (e1 := [.dat (scrD ns), .dat (ptsD ps), .dat (wordsD ps), .dat (.str (spoil ps (cell ns 11 % 6) (cell ns 12 % 1000003))), .no, .no]) (rx_asg (ex_call (ea_cons (ex_var rfl) (ea_cons (ex_I (g := fun i j => i % j) (cl _ 11 rfl) ex_int (by omega)) (ea_cons (ex_I (g := fun i j => i % j) (cl _ 12 rfl) ex_int (by omega)) ea_nil))) ⟨ps, _, _, rfl, hne, h12, hn, m1 11 6 (by omega), m1 12 1000003 (by omega), rfl⟩) rfl) ?_
  have hb := spoil_bad (way := cell ns 11 % 6) (c := cell ns 12 % 1000003) hne h12 hn (m1 12 1000003 (by omega)).1
  have b12 := m1 12 12 (by omega)
  have hlit : lits.getD (cell ns 12 % 12).toNat "" ∈ lits := getD_mem (by show _ < 12; omega)
  have hb2 := lit_bad (lits_bad _ hlit)
  refine rx_seqE (α := Str) (P := ReadBad) (e := fun t => [.dat (scrD ns), .dat (ptsD ps), .dat (wordsD ps), .dat (.str t), .no, .no]) ?_ (fun t ht => ?_)
  · by_cases h8 : cell ns 13 % 8 = 1
    · refine ⟨_, hb2, rx_if (b := true) (xt_is (xt_test (ex_eq (ex_I (g := fun i j => i % j) (cl _ 13 rfl) ex_int (by omega)) ex_int rfl rfl)) (by rw [eqv_int]; exact decide_eq_true h8)) (fun _ => ?_) (fun e => by cases e)⟩
      refine rx_seq (e1 := [.dat (scrD ns), .dat (ptsD ps), .dat (wordsD ps), .dat (.str (spoil ps (cell ns 11 % 6) (cell ns 12 % 1000003))), .dat (.list (lits.map PyData.str)), .no]) (rx_asg (ex_new (xf_lst (ea_cons ex_str (ea_cons ex_str (ea_cons ex_str (ea_cons ex_str (ea_cons ex_str (ea_cons ex_str (ea_cons ex_str (ea_cons ex_str (ea_cons ex_str (ea_cons ex_str (ea_cons ex_str (ea_cons ex_str ea_nil)))))))))))) (Nat.le_of_ble_eq_true rfl))) rfl) ?_
      exact rx_post (rx_asg (ex_ixL (ex_var rfl) (ex_I (g := fun i j => i % j) (cl _ 12 rfl) ex_int (by omega)) (getD_at b12.1 (by show _ < 12; omega))) rfl) (.keep (.keep (.keep (.keep (.drop (.keep .nil))))))
    · exact ⟨_, hb, rx_if (b := false) (xt_is (xt_test (ex_eq (ex_I (g := fun i j => i % j) (cl _ 13 rfl) ex_int (by omega)) ex_int rfl rfl)) (by rw [eqv_int]; exact decide_eq_false h8)) (fun e => by cases e) (fun _ => rx_next)⟩
  · have tr : ∀ e : SE, e[3]? = some (.dat (.str t)) → EvTX K (tTest (tOp (rNeD K) (tCall (spD K F__law_tried) [] E0 (tCons (tVar 3) tNil)) (tC (.str "note")))) e false := fun e h3 => xt_is (xt_test (ex_ne (ex_call (ea_cons (ex_var h3) ea_nil) ⟨t, rfl, .inr ⟨ht, rfl⟩⟩) ex_str (by decide +kernel) (by decide +kernel))) (by decide +kernel)
    refine rx_ifS (b := false) (xt_is (xt_or (a := false) (b := false) (tr _ rfl) fun _ => tr _ rfl) rfl) (fun e => by cases e) (fun _ => rx_nextS ?_)
    exact rx_ret (ex_is (ex_eq (ex_call (ea_cons (ex_call (ea_cons (ex_var rfl) ea_nil) ⟨ps, rfl, h12, hn, rfl⟩) ea_nil) ⟨txt ps, rfl, .inl ⟨ps, rfl, h12, hn, rfl⟩⟩) ex_str (by decide +kernel) (by decide +kernel)) (by rw [eqv_str]; exact congrArg PyData.bool (beq_self_eq_true _)))

/-! ### the end -/
theorem all_mk {l : PySem.W.OpenLaw} {w : World} {K : PySem.W.Frag} {h : Heap} {mg : Str → Option Value} {fa f0 f1 f2 f3 f4 f5 f6 f7 f8 f9 f10 f11 f12 : Addr} {t0 : Tok} {t1 : Tok} {t2 : Tok} {y0 y1 y2 y3 y4 y5 : Addr} (X : K.In h) (G : h.Ns mainGlobals mg) (hfa : mg "law" = some (.ref fa)) {od0 an0 : Option Addr} {sl0 : Array (Option Value)} {oc0 kV0 dc0 pm0 cd0 ct0 : Value} {od1 an1 : Option Addr} {sl1 : Array (Option Value)} {oc1 kV1 dc1 pm1 cd1 ct1 : Value} {od2 an2 : Option Addr} {sl2 : Array (Option Value)} {oc2 kV2 dc2 pm2 cd2 ct2 : Value} {od3 an3 : Option Addr} {sl3 : Array (Option Value)} {oc3 kV3 dc3 pm3 cd3 ct3 : Value} {od4 an4 : Option Addr} {sl4 : Array (Option Value)} {oc4 kV4 dc4 pm4 cd4 ct4 : Value} {od5 an5 : Option Addr} {sl5 : Array (Option Value)} {oc5 kV5 dc5 pm5 cd5 ct5 : Value} {od6 an6 : Option Addr} {sl6 : Array (Option Value)} {oc6 kV6 dc6 pm6 cd6 ct6 : Value} {od7 an7 : Option Addr} {sl7 : Array (Option Value)} {oc7 kV7 dc7 pm7 cd7 ct7 : Value} {od8 an8 : Option Addr} {sl8 : Array (Option Value)} {oc8 kV8 dc8 pm8 cd8 ct8 : Value} {od9 an9 : Option Addr} {sl9 : Array (Option Value)} {oc9 kV9 dc9 pm9 cd9 ct9 : Value} {od10 an10 : Option Addr} {sl10 : Array (Option Value)} {oc10 kV10 dc10 pm10 cd10 ct10 : Value} {od11 an11 : Option Addr} {sl11 : Array (Option Value)} {oc11 kV11 dc11 pm11 cd11 ct11 : Value} {od12 an12 : Option Addr} {sl12 : Array (Option Value)} {oc12 kV12 dc12 pm12 cd12 ct12 : Value}
    (a0 : PySem.W.nsIn K mainGlobals "ask_point" = some (some (.ref f0))) (l0 : K.lookup f0 = some ⟨oc0, od0, .func (PySem.W.fnOf "ask_point" "ask_point" (defArgs s_ask_point) (defBody s_ask_point) (defScope s_ask_point) .none kV0 dc0 pm0 an0 cd0 ct0), sl0⟩) (c0 : PySem.W.codeIn K cd0 "ask_point" = true) (k0 : PySem.W.keepIn K (.ref f0) = true)
    (a1 : PySem.W.nsIn K mainGlobals "ask_points" = some (some (.ref f1))) (l1 : K.lookup f1 = some ⟨oc1, od1, .func (PySem.W.fnOf "ask_points" "ask_points" (defArgs s_ask_points) (defBody s_ask_points) (defScope s_ask_points) .none kV1 dc1 pm1 an1 cd1 ct1), sl1⟩) (c1 : PySem.W.codeIn K cd1 "ask_points" = true) (k1 : PySem.W.keepIn K (.ref f1) = true)
    (a2 : PySem.W.nsIn K mainGlobals "place_of" = some (some (.ref f2))) (l2 : K.lookup f2 = some ⟨oc2, od2, .func (PySem.W.fnOf "place_of" "place_of" (defArgs s_place_of) (defBody s_place_of) (defScope s_place_of) .none kV2 dc2 pm2 an2 cd2 ct2), sl2⟩) (c2 : PySem.W.codeIn K cd2 "place_of" = true) (k2 : PySem.W.keepIn K (.ref f2) = true)
    (a3 : PySem.W.nsIn K mainGlobals "point_of" = some (some (.ref f3))) (l3 : K.lookup f3 = some ⟨oc3, od3, .func (PySem.W.fnOf "point_of" "point_of" (defArgs s_point_of) (defBody s_point_of) (defScope s_point_of) .none kV3 dc3 pm3 an3 cd3 ct3), sl3⟩) (c3 : PySem.W.codeIn K cd3 "point_of" = true) (k3 : PySem.W.keepIn K (.ref f3) = true)
    (a4 : PySem.W.nsIn K mainGlobals "read" = some (some (.ref f4))) (l4 : K.lookup f4 = some ⟨oc4, od4, .func (PySem.W.fnOf "read" "read" (defArgs s_read) (defBody s_read) (defScope s_read) .none kV4 dc4 pm4 an4 cd4 ct4), sl4⟩) (c4 : PySem.W.codeIn K cd4 "read" = true) (k4 : PySem.W.keepIn K (.ref f4) = true)
    (a5 : PySem.W.nsIn K mainGlobals "_law_cell_at" = some (some (.ref f5))) (l5 : K.lookup f5 = some ⟨oc5, od5, .func (PySem.W.fnOf "_law_cell_at" "_law_cell_at" (defArgs s__law_cell_at) (defBody s__law_cell_at) (defScope s__law_cell_at) .none kV5 dc5 pm5 an5 cd5 ct5), sl5⟩) (c5 : PySem.W.codeIn K cd5 "_law_cell_at" = true) (k5 : PySem.W.keepIn K (.ref f5) = true)
    (a6 : PySem.W.nsIn K mainGlobals "_law_next" = some (some (.ref f6))) (l6 : K.lookup f6 = some ⟨oc6, od6, .func (PySem.W.fnOf "_law_next" "_law_next" (defArgs s__law_next) (defBody s__law_next) (defScope s__law_next) .none kV6 dc6 pm6 an6 cd6 ct6), sl6⟩) (c6 : PySem.W.codeIn K cd6 "_law_next" = true) (k6 : PySem.W.keepIn K (.ref f6) = true)
    (a7 : PySem.W.nsIn K mainGlobals "_law_points" = some (some (.ref f7))) (l7 : K.lookup f7 = some ⟨oc7, od7, .func (PySem.W.fnOf "_law_points" "_law_points" (defArgs s__law_points) (defBody s__law_points) (defScope s__law_points) .none kV7 dc7 pm7 an7 cd7 ct7), sl7⟩) (c7 : PySem.W.codeIn K cd7 "_law_points" = true) (k7 : PySem.W.keepIn K (.ref f7) = true)
    (a8 : PySem.W.nsIn K mainGlobals "_law_text" = some (some (.ref f8))) (l8 : K.lookup f8 = some ⟨oc8, od8, .func (PySem.W.fnOf "_law_text" "_law_text" (defArgs s__law_text) (defBody s__law_text) (defScope s__law_text) .none kV8 dc8 pm8 an8 cd8 ct8), sl8⟩) (c8 : PySem.W.codeIn K cd8 "_law_text" = true) (k8 : PySem.W.keepIn K (.ref f8) = true)
    (a9 : PySem.W.nsIn K mainGlobals "_law_kind" = some (some (.ref f9))) (l9 : K.lookup f9 = some ⟨oc9, od9, .func (PySem.W.fnOf "_law_kind" "_law_kind" (defArgs s__law_kind) (defBody s__law_kind) (defScope s__law_kind) .none kV9 dc9 pm9 an9 cd9 ct9), sl9⟩) (c9 : PySem.W.codeIn K cd9 "_law_kind" = true) (k9 : PySem.W.keepIn K (.ref f9) = true)
    (a10 : PySem.W.nsIn K mainGlobals "_law_tried" = some (some (.ref f10))) (l10 : K.lookup f10 = some ⟨oc10, od10, .func (PySem.W.fnOf "_law_tried" "_law_tried" (defArgs s__law_tried) (defBody s__law_tried) (defScope s__law_tried) .none kV10 dc10 pm10 an10 cd10 ct10), sl10⟩) (c10 : PySem.W.codeIn K cd10 "_law_tried" = true) (k10 : PySem.W.keepIn K (.ref f10) = true)
    (a11 : PySem.W.nsIn K mainGlobals "_law_spoiled" = some (some (.ref f11))) (l11 : K.lookup f11 = some ⟨oc11, od11, .func (PySem.W.fnOf "_law_spoiled" "_law_spoiled" (defArgs s__law_spoiled) (defBody s__law_spoiled) (defScope s__law_spoiled) .none kV11 dc11 pm11 an11 cd11 ct11), sl11⟩) (c11 : PySem.W.codeIn K cd11 "_law_spoiled" = true) (k11 : PySem.W.keepIn K (.ref f11) = true)
    (a12 : PySem.W.nsIn K mainGlobals "law" = some (some (.ref f12))) (l12 : K.lookup f12 = some ⟨oc12, od12, .func (PySem.W.fnOf "law" "law" (defArgs s_law) (defBody s_law) (defScope s_law) .none kV12 dc12 pm12 an12 cd12 ct12), sl12⟩) (c12 : PySem.W.codeIn K cd12 "law" = true) (k12 : PySem.W.keepIn K (.ref f12) = true)
    (q0 : PySem.W.nsIn K mainGlobals "MOST" = some (some (.int 12 t0)))
    (q1 : PySem.W.nsIn K mainGlobals "FAR" = some (some (.int 1000 t1)))
    (q2 : PySem.W.nsIn K mainGlobals "FIGURES" = some (some (.str "0123456789" t2)))
    (z0 : PySem.W.nsIn K mainGlobals "len" = some none)
    (z1 : PySem.W.nsIn K mainGlobals "int" = some none)
    (z2 : PySem.W.nsIn K mainGlobals "range" = some none)
    (z3 : PySem.W.nsIn K mainGlobals "str" = some none)
    (z4 : PySem.W.nsIn K mainGlobals "isinstance" = some none)
    (z5 : PySem.W.nsIn K mainGlobals "ValueError" = some none)
    (x5 : PySem.W.specialIn K (.builtin "object.__class__") "__get__" = some (some (.builtin "getset_descriptor.__get__"))) (x6 : PySem.W.takesIn K (.builtin "object.__class__") = some true)
    (yn0 : PySem.W.nsIn K mainGlobals "HullError" = some (some (.ref y0))) (ye0 : PySem.W.excIn K y0 veMro "ValueError.__new__" = true) (yk0 : PySem.W.keepIn K (.ref y0) = true) (yb0 : PySem.W.subIn K (.ref y0) (.type "BaseException") = some true) (yt0 : PySem.W.typeIn K (.ref y0) = some (.type "type")) (yi0 : PySem.W.isClsIn K y0 = true) (ys0 : PySem.W.subIn K (.ref y0) (.ref y0) = some true) (yv0 : PySem.W.subIn K (.ref y0) (.type "ValueError") = some true)
    (yg0 : PySem.W.findIn K (.ref y0) "__getattribute__" = some (some (.builtin "BaseException.__getattribute__"))) (yh0 : PySem.W.findIn K (.ref y0) "__getattr__" = some none) (yd0 : PySem.W.hasDictIn K y0 = true) (ya0 : PySem.W.findIn K (.ref y0) "__class__" = some (some (.builtin "object.__class__"))) (ym0 : PySem.W.mroIn K y0 (.type "object") = some true)
    (yn1 : PySem.W.nsIn K mainGlobals "NoPoint" = some (some (.ref y1))) (ye1 : PySem.W.excIn K y1 veMro "ValueError.__new__" = true) (yk1 : PySem.W.keepIn K (.ref y1) = true) (yb1 : PySem.W.subIn K (.ref y1) (.type "BaseException") = some true) (yt1 : PySem.W.typeIn K (.ref y1) = some (.type "type")) (yi1 : PySem.W.isClsIn K y1 = true) (ys1 : PySem.W.subIn K (.ref y1) (.ref y1) = some true) (yv1 : PySem.W.subIn K (.ref y1) (.type "ValueError") = some true)
    (yg1 : PySem.W.findIn K (.ref y1) "__getattribute__" = some (some (.builtin "BaseException.__getattribute__"))) (yh1 : PySem.W.findIn K (.ref y1) "__getattr__" = some none) (yd1 : PySem.W.hasDictIn K y1 = true) (ya1 : PySem.W.findIn K (.ref y1) "__class__" = some (some (.builtin "object.__class__"))) (ym1 : PySem.W.mroIn K y1 (.type "object") = some true)
    (yn2 : PySem.W.nsIn K mainGlobals "NoSpot" = some (some (.ref y2))) (ye2 : PySem.W.excIn K y2 veMro "ValueError.__new__" = true) (yk2 : PySem.W.keepIn K (.ref y2) = true) (yb2 : PySem.W.subIn K (.ref y2) (.type "BaseException") = some true) (yt2 : PySem.W.typeIn K (.ref y2) = some (.type "type")) (yi2 : PySem.W.isClsIn K y2 = true) (ys2 : PySem.W.subIn K (.ref y2) (.ref y2) = some true) (yv2 : PySem.W.subIn K (.ref y2) (.type "ValueError") = some true)
    (yg2 : PySem.W.findIn K (.ref y2) "__getattribute__" = some (some (.builtin "BaseException.__getattribute__"))) (yh2 : PySem.W.findIn K (.ref y2) "__getattr__" = some none) (yd2 : PySem.W.hasDictIn K y2 = true) (ya2 : PySem.W.findIn K (.ref y2) "__class__" = some (some (.builtin "object.__class__"))) (ym2 : PySem.W.mroIn K y2 (.type "object") = some true)
    (yn3 : PySem.W.nsIn K mainGlobals "NoFour" = some (some (.ref y3))) (ye3 : PySem.W.excIn K y3 veMro "ValueError.__new__" = true) (yk3 : PySem.W.keepIn K (.ref y3) = true) (yb3 : PySem.W.subIn K (.ref y3) (.type "BaseException") = some true) (yt3 : PySem.W.typeIn K (.ref y3) = some (.type "type")) (yi3 : PySem.W.isClsIn K y3 = true) (ys3 : PySem.W.subIn K (.ref y3) (.ref y3) = some true) (yv3 : PySem.W.subIn K (.ref y3) (.type "ValueError") = some true)
    (yg3 : PySem.W.findIn K (.ref y3) "__getattribute__" = some (some (.builtin "BaseException.__getattribute__"))) (yh3 : PySem.W.findIn K (.ref y3) "__getattr__" = some none) (yd3 : PySem.W.hasDictIn K y3 = true) (ya3 : PySem.W.findIn K (.ref y3) "__class__" = some (some (.builtin "object.__class__"))) (ym3 : PySem.W.mroIn K y3 (.type "object") = some true)
    (yn4 : PySem.W.nsIn K mainGlobals "NoMiddle" = some (some (.ref y4))) (ye4 : PySem.W.excIn K y4 veMro "ValueError.__new__" = true) (yk4 : PySem.W.keepIn K (.ref y4) = true) (yb4 : PySem.W.subIn K (.ref y4) (.type "BaseException") = some true) (yt4 : PySem.W.typeIn K (.ref y4) = some (.type "type")) (yi4 : PySem.W.isClsIn K y4 = true) (ys4 : PySem.W.subIn K (.ref y4) (.ref y4) = some true) (yv4 : PySem.W.subIn K (.ref y4) (.type "ValueError") = some true)
    (yg4 : PySem.W.findIn K (.ref y4) "__getattribute__" = some (some (.builtin "BaseException.__getattribute__"))) (yh4 : PySem.W.findIn K (.ref y4) "__getattr__" = some none) (yd4 : PySem.W.hasDictIn K y4 = true) (ya4 : PySem.W.findIn K (.ref y4) "__class__" = some (some (.builtin "object.__class__"))) (ym4 : PySem.W.mroIn K y4 (.type "object") = some true)
    (yn5 : PySem.W.nsIn K mainGlobals "NoNote" = some (some (.ref y5))) (ye5 : PySem.W.excIn K y5 veMro "ValueError.__new__" = true) (yk5 : PySem.W.keepIn K (.ref y5) = true) (yb5 : PySem.W.subIn K (.ref y5) (.type "BaseException") = some true) (yt5 : PySem.W.typeIn K (.ref y5) = some (.type "type")) (yi5 : PySem.W.isClsIn K y5 = true) (ys5 : PySem.W.subIn K (.ref y5) (.ref y5) = some true) (yv5 : PySem.W.subIn K (.ref y5) (.type "ValueError") = some true)
    (yg5 : PySem.W.findIn K (.ref y5) "__getattribute__" = some (some (.builtin "BaseException.__getattribute__"))) (yh5 : PySem.W.findIn K (.ref y5) "__getattr__" = some none) (yd5 : PySem.W.hasDictIn K y5 = true) (ya5 : PySem.W.findIn K (.ref y5) "__class__" = some (some (.builtin "object.__class__"))) (ym5 : PySem.W.mroIn K y5 (.type "object") = some true)
    (yp5_0 : PySem.W.subIn K (.ref y5) (.ref y0) = some true)
    (yp5_1 : PySem.W.subIn K (.ref y5) (.ref y1) = some false)
    (yp5_2 : PySem.W.subIn K (.ref y5) (.ref y2) = some false)
    (yp5_3 : PySem.W.subIn K (.ref y5) (.ref y3) = some false)
    (yp5_4 : PySem.W.subIn K (.ref y5) (.ref y4) = some false)
    (yp1_0 : PySem.W.subIn K (.ref y1) (.ref y0) = some true)
    (yp1_2 : PySem.W.subIn K (.ref y1) (.ref y2) = some false)
    (yp1_3 : PySem.W.subIn K (.ref y1) (.ref y3) = some false)
    (yp1_4 : PySem.W.subIn K (.ref y1) (.ref y4) = some false)
    (yp1_5 : PySem.W.subIn K (.ref y1) (.ref y5) = some false) :
    ∃ fd : FuncData, (∀ (s : Shared) (v : Value), BindsTo s fd ⟨[v], []⟩ [("script", v)]) ∧ ∀ base : Heap, K.In base → base.Ns mainGlobals mg → FnOk l.prog w K mg base CX0 5 fa fd ["script"] (spD K F_law) := by
  have e := hfa.symm.trans (PySem.W.mg_of X G a12)
  cases e
  have F0 := fun_mk (st := s_ask_point) l0 c0 k0
  have F1 := fun_mk (st := s_ask_points) l1 c1 k1
  have F2 := fun_mk (st := s_place_of) l2 c2 k2
  have F3 := fun_mk (st := s_point_of) l3 c3 k3
  have F4 := fun_mk (st := s_read) l4 c4 k4
  have F5 := fun_mk (st := s__law_cell_at) l5 c5 k5
  have F6 := fun_mk (st := s__law_next) l6 c6 k6
  have F7 := fun_mk (st := s__law_points) l7 c7 k7
  have F8 := fun_mk (st := s__law_text) l8 c8 k8
  have F9 := fun_mk (st := s__law_kind) l9 c9 k9
  have F10 := fun_mk (st := s__law_tried) l10 c10 k10
  have F11 := fun_mk (st := s__law_spoiled) l11 c11 k11
  have F12 := fun_mk (st := s_law) l12 c12 k12
  refine ⟨PySem.W.fnOf "law" "law" (defArgs s_law) (defBody s_law) (defScope s_law) .none kV12 dc12 pm12 an12 cd12 ct12, fun s v => .of_eq rfl, fun base _ _ => ?_⟩
  have T : Txt K mg ⟨f0, (PySem.W.fnOf "ask_point" "ask_point" (defArgs s_ask_point) (defBody s_ask_point) (defScope s_ask_point) .none kV0 dc0 pm0 an0 cd0 ct0), f1, (PySem.W.fnOf "ask_points" "ask_points" (defArgs s_ask_points) (defBody s_ask_points) (defScope s_ask_points) .none kV1 dc1 pm1 an1 cd1 ct1), f2, (PySem.W.fnOf "place_of" "place_of" (defArgs s_place_of) (defBody s_place_of) (defScope s_place_of) .none kV2 dc2 pm2 an2 cd2 ct2), f3, (PySem.W.fnOf "point_of" "point_of" (defArgs s_point_of) (defBody s_point_of) (defScope s_point_of) .none kV3 dc3 pm3 an3 cd3 ct3), f4, (PySem.W.fnOf "read" "read" (defArgs s_read) (defBody s_read) (defScope s_read) .none kV4 dc4 pm4 an4 cd4 ct4), f5, (PySem.W.fnOf "_law_cell_at" "_law_cell_at" (defArgs s__law_cell_at) (defBody s__law_cell_at) (defScope s__law_cell_at) .none kV5 dc5 pm5 an5 cd5 ct5), f6, (PySem.W.fnOf "_law_next" "_law_next" (defArgs s__law_next) (defBody s__law_next) (defScope s__law_next) .none kV6 dc6 pm6 an6 cd6 ct6), f7, (PySem.W.fnOf "_law_points" "_law_points" (defArgs s__law_points) (defBody s__law_points) (defScope s__law_points) .none kV7 dc7 pm7 an7 cd7 ct7), f8, (PySem.W.fnOf "_law_text" "_law_text" (defArgs s__law_text) (defBody s__law_text) (defScope s__law_text) .none kV8 dc8 pm8 an8 cd8 ct8), f9, (PySem.W.fnOf "_law_kind" "_law_kind" (defArgs s__law_kind) (defBody s__law_kind) (defScope s__law_kind) .none kV9 dc9 pm9 an9 cd9 ct9), f10, (PySem.W.fnOf "_law_tried" "_law_tried" (defArgs s__law_tried) (defBody s__law_tried) (defScope s__law_tried) .none kV10 dc10 pm10 an10 cd10 ct10), f11, (PySem.W.fnOf "_law_spoiled" "_law_spoiled" (defArgs s__law_spoiled) (defBody s__law_spoiled) (defScope s__law_spoiled) .none kV11 dc11 pm11 an11 cd11 ct11), fa, (PySem.W.fnOf "law" "law" (defArgs s_law) (defBody s_law) (defScope s_law) .none kV12 dc12 pm12 an12 cd12 ct12), t0, t1, t2, y0, y1, y2, y3, y4, y5⟩ := ⟨F0,
    PySem.W.mg_of X G a0,
    F0.binds (ps := ["point"]) (fun _ _ _ _ _ _ us hl => match us, hl with | [_], _ => rfl),
    F1,
    PySem.W.mg_of X G a1,
    F1.binds (ps := ["points"]) (fun _ _ _ _ _ _ us hl => match us, hl with | [_], _ => rfl),
    F2,
    PySem.W.mg_of X G a2,
    F2.binds (ps := ["word"]) (fun _ _ _ _ _ _ us hl => match us, hl with | [_], _ => rfl),
    F3,
    PySem.W.mg_of X G a3,
    F3.binds (ps := ["word"]) (fun _ _ _ _ _ _ us hl => match us, hl with | [_], _ => rfl),
    F4,
    PySem.W.mg_of X G a4,
    F4.binds (ps := ["text"]) (fun _ _ _ _ _ _ us hl => match us, hl with | [_], _ => rfl),
    F5,
    PySem.W.mg_of X G a5,
    F5.binds (ps := ["script", "k"]) (fun _ _ _ _ _ _ us hl => match us, hl with | [_, _], _ => rfl),
    F6,
    PySem.W.mg_of X G a6,
    F6.binds (ps := ["seed"]) (fun _ _ _ _ _ _ us hl => match us, hl with | [_], _ => rfl),
    F7,
    PySem.W.mg_of X G a7,
    F7.binds (ps := ["script", "at", "most"]) (fun _ _ _ _ _ _ us hl => match us, hl with | [_, _, _], _ => rfl),
    F8,
    PySem.W.mg_of X G a8,
    F8.binds (ps := ["points"]) (fun _ _ _ _ _ _ us hl => match us, hl with | [_], _ => rfl),
    F9,
    PySem.W.mg_of X G a9,
    F9.binds (ps := ["e"]) (fun _ _ _ _ _ _ us hl => match us, hl with | [_], _ => rfl),
    F10,
    PySem.W.mg_of X G a10,
    F10.binds (ps := ["text"]) (fun _ _ _ _ _ _ us hl => match us, hl with | [_], _ => rfl),
    F11,
    PySem.W.mg_of X G a11,
    F11.binds (ps := ["words", "way", "cell"]) (fun _ _ _ _ _ _ us hl => match us, hl with | [_, _, _], _ => rfl),
    F12,
    PySem.W.mg_of X G a12,
    F12.binds (ps := ["script"]) (fun _ _ _ _ _ _ us hl => match us, hl with | [_], _ => rfl),
    PySem.W.mg_of X G q0,
    PySem.W.mg_of X G q1,
    PySem.W.mg_of X G q2,
    PySem.W.mg_none_of X G z0,
    PySem.W.mg_none_of X G z1,
    PySem.W.mg_none_of X G z2,
    PySem.W.mg_none_of X G z3,
    PySem.W.mg_none_of X G z4,
    PySem.W.mg_none_of X G z5,
    PySem.W.mg_of X G yn0,
    ⟨ye0, yk0, yb0, yt0, yi0, ys0, yv0, ⟨yg0, yh0, yb0, yd0, ya0, x5, x6, ym0⟩⟩,
    PySem.W.mg_of X G yn1,
    ⟨ye1, yk1, yb1, yt1, yi1, ys1, yv1, ⟨yg1, yh1, yb1, yd1, ya1, x5, x6, ym1⟩⟩,
    PySem.W.mg_of X G yn2,
    ⟨ye2, yk2, yb2, yt2, yi2, ys2, yv2, ⟨yg2, yh2, yb2, yd2, ya2, x5, x6, ym2⟩⟩,
    PySem.W.mg_of X G yn3,
    ⟨ye3, yk3, yb3, yt3, yi3, ys3, yv3, ⟨yg3, yh3, yb3, yd3, ya3, x5, x6, ym3⟩⟩,
    PySem.W.mg_of X G yn4,
    ⟨ye4, yk4, yb4, yt4, yi4, ys4, yv4, ⟨yg4, yh4, yb4, yd4, ya4, x5, x6, ym4⟩⟩,
    PySem.W.mg_of X G yn5,
    ⟨ye5, yk5, yb5, yt5, yi5, ys5, yv5, ⟨yg5, yh5, yb5, yd5, ya5, x5, x6, ym5⟩⟩,
    yp5_0,
    yp5_1,
    yp5_2,
    yp5_3,
    yp5_4,
    yp1_0,
    yp1_2,
    yp1_3,
    yp1_4,
    yp1_5⟩
  exact ok_law T
end HB
open PySem PySem.W PyProof.Rows
set_option maxHeartbeats 0 in
theorem PySem.Challenge.cw_hullpart_k14_unread_holds : PySem.Challenge.rw_hullpart_k14_unread.Holds := by
  w_on; o_law; k_head; (case hw => w_witness2)
  k_fill
  refine L2.walk_of (l := PySem.Challenge.rw_hullpart_k14_unread) (n := 63) (k := 5) (x := "script") (CX := fun _ => L2.CX0) (sp := fun w => LD.spD _ HB.F_law) rfl (by decide) rfl ⟨rfl, by decide, by decide⟩ (fun w h Y => PySem.W.kIn_of Y) ?F (fun _ _ a ns hl _ hS => ⟨[LD.scrD ns], .bool true, .cons (.scr (by rw [LD.scrV_ints]; exact hS)) .nil, ⟨ns, rfl, hl, rfl⟩, fun v H' e r => r.bl_inv⟩) (fun _ _ _ _ _ h => h)
  case F =>
    intro w mg fa h KX G hmg
    refine' HB.all_mk KX G hmg ?a0 ?l0 ?c0 ?k0 ?a1 ?l1 ?c1 ?k1 ?a2 ?l2 ?c2 ?k2 ?a3 ?l3 ?c3 ?k3 ?a4 ?l4 ?c4 ?k4 ?a5 ?l5 ?c5 ?k5 ?a6 ?l6 ?c6 ?k6 ?a7 ?l7 ?c7 ?k7 ?a8 ?l8 ?c8 ?k8 ?a9 ?l9 ?c9 ?k9 ?a10 ?l10 ?c10 ?k10 ?a11 ?l11 ?c11 ?k11 ?a12 ?l12 ?c12 ?k12 ?q0 ?q1 ?q2 ?z0 ?z1 ?z2 ?z3 ?z4 ?z5 ?x5 ?x6 ?yn0 ?ye0 ?yk0 ?yb0 ?yt0 ?yi0 ?ys0 ?yv0 ?yg0 ?yh0 ?yd0 ?ya0 ?ym0 ?yn1 ?ye1 ?yk1 ?yb1 ?yt1 ?yi1 ?ys1 ?yv1 ?yg1 ?yh1 ?yd1 ?ya1 ?ym1 ?yn2 ?ye2 ?yk2 ?yb2 ?yt2 ?yi2 ?ys2 ?yv2 ?yg2 ?yh2 ?yd2 ?ya2 ?ym2 ?yn3 ?ye3 ?yk3 ?yb3 ?yt3 ?yi3 ?ys3 ?yv3 ?yg3 ?yh3 ?yd3 ?ya3 ?ym3 ?yn4 ?ye4 ?yk4 ?yb4 ?yt4 ?yi4 ?ys4 ?yv4 ?yg4 ?yh4 ?yd4 ?ya4 ?ym4 ?yn5 ?ye5 ?yk5 ?yb5 ?yt5 ?yi5 ?ys5 ?yv5 ?yg5 ?yh5 ?yd5 ?ya5 ?ym5 ?yp5_0 ?yp5_1 ?yp5_2 ?yp5_3 ?yp5_4 ?yp1_0 ?yp1_2 ?yp1_3 ?yp1_4 ?yp1_5
    (case a0 => k_is)
    (case l0 => k_is)
    (case c0 => k_is)
    (case k0 => k_is)
    (case a1 => k_is)
    (case l1 => k_is)
    (case c1 => k_is)
    (case k1 => k_is)
    (case a2 => k_is)
    (case l2 => k_is)
    (case c2 => k_is)
    (case k2 => k_is)
    (case a3 => k_is)
    (case l3 => k_is)
    (case c3 => k_is)
    (case k3 => k_is)
    (case a4 => k_is)
    (case l4 => k_is)
    (case c4 => k_is)
    (case k4 => k_is)
    (case a5 => k_is)
    (case l5 => k_is)
    (case c5 => k_is)
    (case k5 => k_is)
    (case a6 => k_is)
    (case l6 => k_is)
    (case c6 => k_is)
    (case k6 => k_is)
    (case a7 => k_is)
    (case l7 => k_is)
    (case c7 => k_is)
    (case k7 => k_is)
    (case a8 => k_is)
    (case l8 => k_is)
    (case c8 => k_is)
    (case k8 => k_is)
    (case a9 => k_is)
    (case l9 => k_is)
    (case c9 => k_is)
    (case k9 => k_is)
    (case a10 => k_is)
    (case l10 => k_is)
    (case c10 => k_is)
    (case k10 => k_is)
    (case a11 => k_is)
    (case l11 => k_is)
    (case c11 => k_is)
    (case k11 => k_is)
    (case a12 => k_is)
    (case l12 => k_is)
    (case c12 => k_is)
    (case k12 => k_is)
    (case q0 => k_is)
    (case q1 => k_is)
    (case q2 => k_is)
    (case z0 => k_is)
    (case z1 => k_is)
    (case z2 => k_is)
    (case z3 => k_is)
    (case z4 => k_is)
    (case z5 => k_is)
    (case x5 => k_is)
    (case x6 => k_is)
    (case yn0 => k_is)
    (case ye0 => k_exc)
    (case yk0 => k_is)
    (case yb0 => k_is)
    (case yt0 => k_is)
    (case yi0 => k_is)
    (case ys0 => first | k_is | rfl)
    (case yv0 => k_is)
    (case yg0 => k_is)
    (case yh0 => k_is)
    (case yd0 => k_is)
    (case ya0 => k_is)
    (case ym0 => k_is)
    (case yn1 => k_is)
    (case ye1 => k_exc)
    (case yk1 => k_is)
    (case yb1 => k_is)
    (case yt1 => k_is)
    (case yi1 => k_is)
    (case ys1 => first | k_is | rfl)
    (case yv1 => k_is)
    (case yg1 => k_is)
    (case yh1 => k_is)
    (case yd1 => k_is)
    (case ya1 => k_is)
    (case ym1 => k_is)
    (case yn2 => k_is)
    (case ye2 => k_exc)
    (case yk2 => k_is)
    (case yb2 => k_is)
    (case yt2 => k_is)
    (case yi2 => k_is)
    (case ys2 => first | k_is | rfl)
    (case yv2 => k_is)
    (case yg2 => k_is)
    (case yh2 => k_is)
    (case yd2 => k_is)
    (case ya2 => k_is)
    (case ym2 => k_is)
    (case yn3 => k_is)
    (case ye3 => k_exc)
    (case yk3 => k_is)
    (case yb3 => k_is)
    (case yt3 => k_is)
    (case yi3 => k_is)
    (case ys3 => first | k_is | rfl)
    (case yv3 => k_is)
    (case yg3 => k_is)
    (case yh3 => k_is)
    (case yd3 => k_is)
    (case ya3 => k_is)
    (case ym3 => k_is)
    (case yn4 => k_is)
    (case ye4 => k_exc)
    (case yk4 => k_is)
    (case yb4 => k_is)
    (case yt4 => k_is)
    (case yi4 => k_is)
    (case ys4 => first | k_is | rfl)
    (case yv4 => k_is)
    (case yg4 => k_is)
    (case yh4 => k_is)
    (case yd4 => k_is)
    (case ya4 => k_is)
    (case ym4 => k_is)
    (case yn5 => k_is)
    (case ye5 => k_exc)
    (case yk5 => k_is)
    (case yb5 => k_is)
    (case yt5 => k_is)
    (case yi5 => k_is)
    (case ys5 => first | k_is | rfl)
    (case yv5 => k_is)
    (case yg5 => k_is)
    (case yh5 => k_is)
    (case yd5 => k_is)
    (case ya5 => k_is)
    (case ym5 => k_is)
    (case yp5_0 => first | k_is | rfl)
    (case yp5_1 => first | k_is | rfl)
    (case yp5_2 => first | k_is | rfl)
    (case yp5_3 => first | k_is | rfl)
    (case yp5_4 => first | k_is | rfl)
    (case yp1_0 => first | k_is | rfl)
    (case yp1_2 => first | k_is | rfl)
    (case yp1_3 => first | k_is | rfl)
    (case yp1_4 => first | k_is | rfl)
    (case yp1_5 => first | k_is | rfl)
