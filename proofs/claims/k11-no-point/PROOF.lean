import PyProof.Rows.All
import Wide.All
import OpenK.AllK
import Wide.FinOn
import HandS.ForMost
import HandS.TupSets
import HandS.Deep
import HandS.IsInst
import HandS.Evl
import HandS.SortRule
import KE.KDictList
import HandS.Rev
import HandS.Text
import HandS.Iter
import HandS.Exc
import HandS.ExcOwn
import HandS.ExcCtx
import HandS.ExcIs
import HandS.HotCalls
import HandS.WordsExc
import PyProof.Rows.CountFlat
import PySem.Challenge.RW_hullpart_k11_no_point
set_option Elab.async false
set_option linter.all false
set_option maxRecDepth 100000
set_option maxHeartbeats 4000000
/-! Points of the plane: turns, order, the monotone chain. -/
namespace HP
abbrev Pt := Int × Int
def turn (a b c : Pt) : Int := (b.1 - a.1) * (c.2 - a.2) - (b.2 - a.2) * (c.1 - a.1)
theorem turn_rot (a b c : Pt) : turn a b c = turn b c a := by unfold turn; grind
theorem turn_swap (a b c : Pt) : turn a b c = - turn b a c := by unfold turn; grind
theorem turn_self1 (a c : Pt) : turn a a c = 0 := by unfold turn; grind
theorem turn_self2 (a b : Pt) : turn a b b = 0 := by unfold turn; grind
theorem turn_self3 (a b : Pt) : turn a b a = 0 := by unfold turn; grind

theorem nonneg_of_mul {u z : Int} (hu : 0 < u) (h : 0 ≤ u * z) : 0 ≤ z := by
  rcases Int.lt_or_le z 0 with h1 | h1
  · have := Int.mul_neg_of_pos_of_neg hu h1
    omega
  · exact h1
theorem pos_of_mul {u z : Int} (hu : 0 < u) (h : 0 < u * z) : 0 < z := by
  rcases Int.lt_or_le 0 z with h1 | h1
  · exact h1
  · have := Int.mul_nonneg (Int.le_of_lt hu) (show 0 ≤ -z by omega)
    have e : u * -z = -(u * z) := Int.mul_neg u z
    omega

/-- lexicographic order -/
def lt (a b : Pt) : Prop := a.1 < b.1 ∨ (a.1 = b.1 ∧ a.2 < b.2)
def gt (a b : Pt) : Prop := lt b a
instance (a b : Pt) : Decidable (lt a b) := by unfold lt; infer_instance
theorem lt_trans {a b c : Pt} (h : lt a b) (k : lt b c) : lt a c := by unfold lt at *; omega
theorem lt_irrefl (a : Pt) : ¬ lt a a := by unfold lt; omega
theorem lt_tot (a b : Pt) : lt a b ∨ a = b ∨ lt b a := by
  obtain ⟨x, y⟩ := a
  obtain ⟨u, v⟩ := b
  unfold lt
  by_cases h : x = u
  · by_cases k : y = v
    · right; left; rw [h, k]
    · simp only; omega
  · simp only; omega

/-- what the chain wants of an order -/
structure Ord (r : Pt → Pt → Prop) : Prop where
  trans : ∀ {a b c : Pt}, r a b → r b c → r a c
  irr : ∀ a : Pt, ¬ r a a
  k1 : ∀ {a b c d : Pt}, r a b → r b c → r c d → 0 < turn a b c → 0 < turn b c d → 0 < turn a b d ∧ 0 < turn a c d
  k2 : ∀ {s t p q : Pt}, r s t → r q t → r t p → 0 ≤ turn s t q → 0 < turn s t p → 0 ≤ turn t p q
  k3 : ∀ {b c q p : Pt}, r b c → r b q → r b p → 0 ≤ turn b c q → turn b c p ≤ 0 → 0 ≤ turn b p q

/-- vectors that point up in the order -/
def up (x y : Int) : Prop := 0 < x ∨ (x = 0 ∧ 0 < y)
theorem lt_up {a b : Pt} (h : lt a b) : up (b.1 - a.1) (b.2 - a.2) := by unfold lt at h; unfold up; omega
/-- u, v, w up: turning from u to v, and from v to w, is turning from u to w -/
theorem up_trans {ux uy vx vy wx wy : Int} (hu : up ux uy) (hv : up vx vy) (hw : up wx wy) (h1 : 0 ≤ ux * vy - uy * vx) (h2 : 0 < vx * wy - vy * wx) : 0 ≤ ux * wy - uy * wx := by
  have e : vx * (ux * wy - uy * wx) = wx * (ux * vy - uy * vx) + ux * (vx * wy - vy * wx) := by grind
  have hux : 0 ≤ ux := by unfold up at hu; omega
  have hwx : 0 ≤ wx := by unfold up at hw; omega
  rcases hv with hv | ⟨hv, hv2⟩
  · refine nonneg_of_mul hv ?_
    rw [e]
    have := Int.mul_nonneg hwx h1
    have := Int.mul_nonneg hux (Int.le_of_lt h2)
    omega
  · subst hv
    have : 0 ≤ vy * wx := Int.mul_nonneg (Int.le_of_lt hv2) hwx
    omega
theorem up_trans' {ux uy vx vy wx wy : Int} (hu : up ux uy) (hv : up vx vy) (hw : up wx wy) (h1 : 0 < ux * vy - uy * vx) (h2 : 0 ≤ vx * wy - vy * wx) : 0 ≤ ux * wy - uy * wx := by
  have e : vx * (ux * wy - uy * wx) = wx * (ux * vy - uy * vx) + ux * (vx * wy - vy * wx) := by grind
  have hux : 0 ≤ ux := by unfold up at hu; omega
  have hwx : 0 ≤ wx := by unfold up at hw; omega
  rcases hv with hv | ⟨hv, hv2⟩
  · refine nonneg_of_mul hv ?_
    rw [e]
    have := Int.mul_nonneg hwx (Int.le_of_lt h1)
    have := Int.mul_nonneg hux h2
    omega
  · subst hv
    have h3 : 0 ≤ vy * wx := Int.mul_nonneg (Int.le_of_lt hv2) hwx
    have h4 : vy * wx = 0 := by omega
    have h5 : wx = 0 := by
      rcases Int.mul_eq_zero.mp h4 with h | h <;> omega
    subst h5
    have h6 : 0 < wy := by unfold up at hw; omega
    have := Int.mul_nonneg hux (Int.le_of_lt h6)
    omega
theorem ord_lt : Ord lt where
  trans := lt_trans
  irr := lt_irrefl
  k1 := by
    intro a b c d h1 h2 h3 t1 t2
    have h := up_trans (lt_up h1) (lt_up h2) (lt_up h3) (by unfold turn at t1; grind) (by unfold turn at t2; grind)
    unfold turn at *
    constructor <;> grind
  k2 := by
    intro s t p q h1 h2 h3 t1 t2
    have h := up_trans (lt_up h2) (lt_up h1) (lt_up h3) (by unfold turn at t1; grind) (by unfold turn at t2; grind)
    unfold turn at *
    grind
  k3 := by
    intro b c q p h1 h2 h3 t1 t2
    -- p, c, q round b
    rcases Int.lt_or_le (turn b c p) 0 with h | h
    · have h := up_trans' (lt_up h3) (lt_up h1) (lt_up h2) (by unfold turn at h; grind) (by unfold turn at t1; grind)
      unfold turn at *
      grind
    · rcases Int.lt_or_le 0 (turn b c q) with h' | h'
      · have h := up_trans (lt_up h3) (lt_up h1) (lt_up h2) (by unfold turn at t2; grind) (by unfold turn at h'; grind)
        unfold turn at *
        grind
      · -- all three on one way
        have e1 : turn b c p = 0 := by omega
        have e2 : turn b c q = 0 := by omega
        have u := lt_up h1
        unfold turn at *
        rcases u with u | ⟨u, u2⟩
        · have e : (c.1 - b.1) * ((p.1 - b.1) * (q.2 - b.2) - (p.2 - b.2) * (q.1 - b.1)) = 0 := by grind
          rcases Int.mul_eq_zero.mp e with z | z <;> omega
        · have e : (c.2 - b.2) * ((p.1 - b.1) * (q.2 - b.2) - (p.2 - b.2) * (q.1 - b.1)) = 0 := by grind
          rcases Int.mul_eq_zero.mp e with z | z <;> omega
def neg (a : Pt) : Pt := (-a.1, -a.2)
theorem turn_neg (a b c : Pt) : turn (neg a) (neg b) (neg c) = turn a b c := by unfold turn neg; grind
theorem lt_neg {a b : Pt} (h : gt a b) : lt (neg a) (neg b) := by unfold gt lt at h; unfold lt neg; simp only; omega
theorem ord_gt : Ord gt where
  trans h k := lt_trans k h
  irr := lt_irrefl
  k1 := by
    intro a b c d h1 h2 h3 t1 t2
    have := ord_lt.k1 (lt_neg h1) (lt_neg h2) (lt_neg h3) (by rw [turn_neg]; exact t1) (by rw [turn_neg]; exact t2)
    rwa [turn_neg, turn_neg] at this
  k2 := by
    intro s t p q h1 h2 h3 t1 t2
    have := ord_lt.k2 (lt_neg h1) (lt_neg h2) (lt_neg h3) (by rw [turn_neg]; exact t1) (by rw [turn_neg]; exact t2)
    rwa [turn_neg] at this
  k3 := by
    intro b c q p h1 h2 h3 t1 t2
    have := ord_lt.k3 (lt_neg h1) (lt_neg h2) (lt_neg h3) (by rw [turn_neg]; exact t1) (by rw [turn_neg]; exact t2)
    rwa [turn_neg] at this
end HP
/-! The chain of one side. -/
namespace HP
/-- neighbours in a list -/
def Adj (R : Pt → Pt → Prop) : List Pt → Prop
  | a :: b :: r => R a b ∧ Adj R (b :: r)
  | _ => True
theorem Adj.tail {R : Pt → Pt → Prop} {a : Pt} {l : List Pt} (h : Adj R (a :: l)) : Adj R l := by
  cases l with
  | nil => trivial
  | cons b r => exact h.2
theorem Adj.imp {R S : Pt → Pt → Prop} : ∀ {l : List Pt}, (∀ a b, a ∈ l → b ∈ l → R a b → S a b) → Adj R l → Adj S l
  | [], _, _ => trivial
  | [_], _, _ => trivial
  | a :: b :: r, f, h => ⟨f a b (by simp) (by simp) h.1, Adj.imp (l := b :: r) (fun x y hx hy => f x y (List.mem_cons_of_mem _ hx) (List.mem_cons_of_mem _ hy)) h.2⟩
theorem Adj.and {R S : Pt → Pt → Prop} : ∀ {l : List Pt}, Adj R l → Adj S l → Adj (fun a b => R a b ∧ S a b) l
  | [], _, _ => trivial
  | [_], _, _ => trivial
  | _ :: b :: r, h, k => ⟨⟨h.1, k.1⟩, Adj.and (l := b :: r) h.2 k.2⟩
theorem Adj.glue {R : Pt → Pt → Prop} {x : Pt} : ∀ {l m : List Pt}, Adj R (l ++ [x]) → Adj R (x :: m) → Adj R (l ++ x :: m)
  | [], _, _, k => k
  | [a], _, h, k => ⟨h.1, k⟩
  | a :: b :: r, m, h, k => ⟨h.1, Adj.glue (l := b :: r) h.2 k⟩
theorem Adj.left {R : Pt → Pt → Prop} : ∀ {l m : List Pt}, Adj R (l ++ m) → Adj R l
  | [], _, _ => trivial
  | [_], _, _ => trivial
  | a :: b :: r, m, h => ⟨h.1, Adj.left (l := b :: r) (m := m) h.2⟩
theorem Adj.right {R : Pt → Pt → Prop} : ∀ {l m : List Pt}, Adj R (l ++ m) → Adj R m
  | [], _, h => h
  | a :: r, m, h => Adj.right (l := r) (m := m) (Adj.tail h)
theorem Adj.rev {R : Pt → Pt → Prop} : ∀ {l : List Pt}, Adj R l → Adj (fun a b => R b a) l.reverse
  | [], _ => trivial
  | [_], _ => trivial
  | a :: b :: r, h => by
    have ih := Adj.rev (l := b :: r) h.2
    rw [List.reverse_cons, List.reverse_cons, List.append_assoc]
    rw [List.reverse_cons] at ih
    exact Adj.glue ih ⟨h.1, trivial⟩
theorem Adj.get {R : Pt → Pt → Prop} : ∀ {l : List Pt} {i : Nat} {a b : Pt}, Adj R l → l[i]? = some a → l[i + 1]? = some b → R a b
  | [], _, _, _, _, h, _ => by simp at h
  | [_], 0, _, _, _, _, h => by simp at h
  | [_], i + 1, _, _, _, h, _ => by simp at h
  | x :: y :: r, 0, a, b, h, h1, h2 => by
    simp at h1 h2
    subst h1 h2
    exact h.1
  | x :: y :: r, i + 1, a, b, h, h1, h2 => Adj.get (l := y :: r) h.2 (by simpa using h1) (by simpa using h2)
theorem Adj.of_pairwise {R : Pt → Pt → Prop} : ∀ {l : List Pt}, l.Pairwise R → Adj R l
  | [], _ => trivial
  | [_], _ => trivial
  | a :: b :: r, h => by
    rw [List.pairwise_cons] at h
    exact ⟨h.1 b (by simp), Adj.of_pairwise (l := b :: r) h.2⟩

/-! stacks: the last point stands first -/
def popW : List Pt → Pt → List Pt
  | c :: b :: r, p => if turn b c p ≤ 0 then popW (b :: r) p else c :: b :: r
  | s, _ => s
def hrS (rows : List Pt) : List Pt := rows.foldl (fun s p => p :: popW s p) []
def halfRound (rows : List Pt) : List Pt := (hrS rows).reverse

def Conv : List Pt → Prop
  | c :: b :: a :: r => 0 < turn a b c ∧ Conv (b :: a :: r)
  | _ => True
theorem Conv.tail {c : Pt} {l : List Pt} (h : Conv (c :: l)) : Conv l := by
  match l, h with
  | [], _ => trivial
  | [_], _ => trivial
  | b :: a :: r, h => exact h.2
/-- all of ps to the left of each edge (b below c on the stack) -/
def Edges (ps : List Pt) : List Pt → Prop := Adj fun c b => ∀ q ∈ ps, 0 ≤ turn b c q

structure StkOk (r : Pt → Pt → Prop) (ps S : List Pt) : Prop where
  desc : S.Pairwise fun x y => r y x
  conv : Conv S
  edges : Edges ps S
  sub : ∀ x ∈ S, x ∈ ps
  bot : ∀ x, S.getLast? = some x → ∀ q ∈ ps, q = x ∨ r x q

section
variable {r : Pt → Pt → Prop} {ps : List Pt} {p : Pt}

/-- popping keeps the stack well, and what is above the new top lies to the left of the way from the top to p -/
theorem pop_ok (O : Ord r) (hp : ∀ q ∈ ps, r q p) (tot : ∀ x ∈ ps, ∀ y ∈ ps, r x y ∨ x = y ∨ r y x) :
    ∀ (S : List Pt) (t : Pt), StkOk r ps (t :: S) → (∀ q ∈ ps, r t q → 0 ≤ turn t p q) →
      ∃ t' S', popW (t :: S) p = t' :: S' ∧ StkOk r ps (t' :: S') ∧ (t' :: S').getLast? = (t :: S).getLast? ∧ (∀ q ∈ ps, r t' q → 0 ≤ turn t' p q) ∧ (∀ b S'', S' = b :: S'' → 0 < turn b t' p)
  | [], t, ok, g => ⟨t, [], rfl, ok, rfl, g, fun b S'' e => by cases e⟩
  | b :: S, t, ok, g => by
    by_cases h : turn b t p ≤ 0
    · have e : popW (t :: b :: S) p = popW (b :: S) p := by rw [popW, if_pos h]
      have hbt : r b t := (List.pairwise_cons.mp ok.desc).1 b (by simp)
      have ok' : StkOk r ps (b :: S) := ⟨(List.pairwise_cons.mp ok.desc).2, ok.conv.tail, Adj.tail ok.edges, fun x hx => ok.sub x (List.mem_cons_of_mem _ hx), fun x hx => ok.bot x (by rw [List.getLast?_cons_cons]; exact hx)⟩
      have g' : ∀ q ∈ ps, r b q → 0 ≤ turn b p q := fun q hq hbq => O.k3 hbt hbq (hp b (ok.sub b (by simp))) (ok.edges.1 q hq) h
      obtain ⟨t', S', e1, e2, e3, e4, e5⟩ := pop_ok O hp tot S b ok' g'
      exact ⟨t', S', e.trans e1, e2, e3.trans (by rw [List.getLast?_cons_cons]), e4, e5⟩
    · refine ⟨t, b :: S, by rw [popW, if_neg h], ok, rfl, g, fun b' S'' e => ?_⟩
      cases e
      omega
/-- p beyond all: it lies to the left of all edges of the stack -/
theorem edges_new (O : Ord r) : ∀ (S : List Pt) (t : Pt), (t :: S).Pairwise (fun x y => r y x) → Conv (t :: S) → r t p → (∀ b S'', S = b :: S'' → 0 < turn b t p) → Adj (fun c b => 0 < turn b c p) (t :: S)
  | [], t, _, _, _, _ => trivial
  | [b], t, _, _, _, h => ⟨h b [] rfl, trivial⟩
  | b :: a :: S, t, hd, hc, ht, h => by
    have hbt : 0 < turn b t p := h b _ rfl
    have d := List.pairwise_cons.mp hd
    have d2 := List.pairwise_cons.mp d.2
    have rbt : r b t := d.1 b (by simp)
    have rab : r a b := d2.1 a (by simp)
    refine ⟨hbt, edges_new O (a :: S) b d.2 hc.tail (O.trans rbt ht) fun a' S'' e => ?_⟩
    cases e
    exact (O.k1 rab rbt ht hc.1 hbt).1
theorem step_ok (O : Ord r) (hp : ∀ q ∈ ps, r q p) (tot : ∀ x ∈ ps, ∀ y ∈ ps, r x y ∨ x = y ∨ r y x) {t : Pt} {S : List Pt} (ok : StkOk r ps (t :: S)) (top : ∀ q ∈ ps, q = t ∨ r q t) :
    StkOk r (ps ++ [p]) (p :: popW (t :: S) p) ∧ (p :: popW (t :: S) p).getLast? = (t :: S).getLast? := by
  obtain ⟨t', S', e1, ok', e3, g, h5⟩ := pop_ok O hp tot S t ok fun q hq hr => by
    rcases top q hq with e | e
    · subst e; exact absurd hr (O.irr _)
    · exact absurd (O.trans hr e) (O.irr _)
  rw [e1]
  have ht' : t' ∈ ps := ok'.sub t' (by simp)
  have en := edges_new O S' t' ok'.desc ok'.conv (hp t' ht') h5
  refine ⟨⟨?_, ?_, ?_, ?_, ?_⟩, ?_⟩
  · exact List.pairwise_cons.mpr ⟨fun x hx => hp x (ok'.sub x hx), ok'.desc⟩
  · cases S' with
    | nil => trivial
    | cons b S'' => exact ⟨h5 b S'' rfl, ok'.conv⟩
  · refine ⟨fun q hq => ?_, ?_⟩
    · rcases List.mem_append.mp hq with hq | hq
      · rcases tot t' ht' q hq with h | h | h
        · exact g q hq h
        · subst h; rw [turn_self3]; omega
        · cases S' with
          | nil =>
            rcases ok'.bot t' rfl q hq with h' | h'
            · subst h'; exact absurd h (O.irr _)
            · exact absurd (O.trans h h') (O.irr _)
          | cons b S'' =>
            have rbt : r b t' := (List.pairwise_cons.mp ok'.desc).1 b (by simp)
            exact O.k2 rbt h (hp t' ht') (ok'.edges.1 q hq) (h5 b S'' rfl)
      · rw [List.mem_singleton.mp hq, turn_self2]; omega
    · refine Adj.imp (fun a b _ _ hab => ?_) (Adj.and ok'.edges en)
      intro q hq
      rcases List.mem_append.mp hq with hq | hq
      · exact hab.1 q hq
      · rw [List.mem_singleton.mp hq]; exact Int.le_of_lt hab.2
  · intro x hx
    rcases List.mem_cons.mp hx with e | hx
    · rw [e]; simp
    · exact List.mem_append_left _ (ok'.sub x hx)
  · intro x hx q hq
    rw [List.getLast?_cons_cons] at hx
    rcases List.mem_append.mp hq with hq | hq
    · exact ok'.bot x hx q hq
    · rw [List.mem_singleton.mp hq]
      exact .inr (hp x (ok'.sub x (List.mem_of_getLast? hx)))
  · rw [List.getLast?_cons_cons, e3]
end
/-- the whole chain -/
theorem chain_ok {r : Pt → Pt → Prop} (O : Ord r) : ∀ (rows done S : List Pt) (t : Pt), (done ++ rows).Pairwise r → (∀ x ∈ done ++ rows, ∀ y ∈ done ++ rows, r x y ∨ x = y ∨ r y x) → StkOk r done (t :: S) → (∀ q ∈ done, q = t ∨ r q t) →
    ∃ t' S', rows.foldl (fun s p => p :: popW s p) (t :: S) = t' :: S' ∧ StkOk r (done ++ rows) (t' :: S') ∧ (t' :: S').getLast? = (t :: S).getLast? ∧ (∀ q ∈ done ++ rows, q = t' ∨ r q t')
  | [], done, S, t, _, _, ok, top => ⟨t, S, rfl, by rw [List.append_nil]; exact ok, rfl, by rw [List.append_nil]; exact top⟩
  | p :: rows, done, S, t, hs, tot, ok, top => by
    have hp : ∀ q ∈ done, r q p := fun q hq => (List.pairwise_append.mp hs).2.2 q hq p (by simp)
    obtain ⟨ok1, e1⟩ := step_ok O hp (fun x hx y hy => tot x (List.mem_append_left _ hx) y (List.mem_append_left _ hy)) ok top
    have e : done ++ p :: rows = (done ++ [p]) ++ rows := by simp
    rw [e] at hs tot ⊢
    obtain ⟨t', S', f1, f2, f3, f4⟩ := chain_ok O rows (done ++ [p]) _ p hs tot ok1 fun q hq => by
      rcases List.mem_append.mp hq with hq | hq
      · exact .inr (hp q hq)
      · exact .inl (List.mem_singleton.mp hq)
    exact ⟨t', S', f1, f2, f3.trans e1, f4⟩
theorem hrS_ok {r : Pt → Pt → Prop} (O : Ord r) (a : Pt) (rows : List Pt) (hs : (a :: rows).Pairwise r) (tot : ∀ x ∈ a :: rows, ∀ y ∈ a :: rows, r x y ∨ x = y ∨ r y x) :
    ∃ t S, hrS (a :: rows) = t :: S ∧ StkOk r (a :: rows) (t :: S) ∧ (t :: S).getLast? = some a ∧ (∀ q ∈ a :: rows, q = t ∨ r q t) := by
  have ok : StkOk r [a] (a :: []) := ⟨by simp, trivial, trivial, by simp, fun x hx q hq => by
    simp at hx hq
    exact .inl (hq.trans hx)⟩
  obtain ⟨t', S', f1, f2, f3, f4⟩ := chain_ok O rows [a] [] a (by simpa using hs) (by simpa using tot) ok (by simp)
  exact ⟨t', S', f1, by simpa using f2, f3, by simpa using f4⟩
/-- from the lowest point all edges but the first are seen turning left -/
theorem fan_bot {r : Pt → Pt → Prop} (O : Ord r) : ∀ (S : List Pt) (b c z : Pt), (c :: b :: S).Pairwise (fun x y => r y x) → Conv (c :: b :: S) → (b :: S).getLast? = some z → z ≠ b → 0 < turn z b c
  | [], b, c, z, _, _, hz, hn => by
    simp at hz
    exact absurd hz.symm hn
  | [a], b, c, z, _, hc, hz, _ => by
    simp at hz
    subst hz
    exact hc.1
  | a :: a' :: S, b, c, z, hd, hc, hz, _ => by
    have d := List.pairwise_cons.mp hd
    have d2 := List.pairwise_cons.mp d.2
    have d3 := List.pairwise_cons.mp d2.2
    have hz' : (a :: a' :: S).getLast? = some z := by
      rw [List.getLast?_cons_cons] at hz
      exact hz
    have hzm : z ∈ a' :: S := by
      rw [List.getLast?_cons_cons] at hz'
      exact List.mem_of_getLast? hz'
    have rza : r z a := d3.1 z hzm
    have ih := fan_bot O (a' :: S) a b z d.2 hc.tail hz' (fun e => by subst e; exact O.irr _ rza)
    exact (O.k1 rza (d2.1 a (by simp)) (d.1 b (by simp)) ih hc.1).2
end HP
/-! The corners. -/
namespace HP
/-! sorted, each once -/
def insP (p : Pt) : List Pt → List Pt
  | [] => [p]
  | q :: r => if p = q then q :: r else if lt p q then p :: q :: r else q :: insP p r
def srt : List Pt → List Pt
  | [] => []
  | p :: r => insP p (srt r)
theorem mem_insP {p x : Pt} : ∀ {l : List Pt}, x ∈ insP p l ↔ x = p ∨ x ∈ l
  | [] => by simp [insP]
  | q :: r => by
    unfold insP
    split
    · rename_i h; subst h; simp
    · split
      · simp
      · simp only [List.mem_cons, mem_insP (l := r)]
        constructor
        · rintro (h | h | h) <;> simp [h]
        · rintro (h | h | h) <;> simp [h]
theorem mem_srt {x : Pt} : ∀ {l : List Pt}, x ∈ srt l ↔ x ∈ l
  | [] => by simp [srt]
  | p :: r => by rw [srt, mem_insP, mem_srt (l := r)]; simp
theorem insP_sorted {p : Pt} : ∀ {l : List Pt}, l.Pairwise lt → (insP p l).Pairwise lt
  | [], _ => by simp [insP]
  | q :: r, h => by
    have d := List.pairwise_cons.mp h
    unfold insP
    split
    · exact h
    · rename_i hne
      split
      · rename_i hl
        refine List.pairwise_cons.mpr ⟨fun x hx => ?_, h⟩
        rcases List.mem_cons.mp hx with e | hx
        · rw [e]; exact hl
        · exact lt_trans hl (d.1 x hx)
      · rename_i hl
        refine List.pairwise_cons.mpr ⟨fun x hx => ?_, insP_sorted d.2⟩
        rcases mem_insP.mp hx with e | hx
        · rw [e]
          rcases lt_tot p q with h' | h' | h'
          · exact absurd h' hl
          · exact absurd h' hne
          · exact h'
        · exact d.1 x hx
theorem srt_sorted : ∀ (l : List Pt), (srt l).Pairwise lt
  | [] => List.Pairwise.nil
  | _ :: r => insP_sorted (srt_sorted r)
/-- two rising lists of the same points are one -/
theorem sorted_unique : ∀ {l m : List Pt}, l.Pairwise lt → m.Pairwise lt → (∀ x, x ∈ l ↔ x ∈ m) → l = m
  | [], [], _, _, _ => rfl
  | [], b :: m, _, _, h => by have := (h b).mpr (by simp); simp at this
  | a :: l, [], _, _, h => by have := (h a).mp (by simp); simp at this
  | a :: l, b :: m, hl, hm, h => by
    have dl := List.pairwise_cons.mp hl
    have dm := List.pairwise_cons.mp hm
    have e : a = b := by
      have h1 := (h a).mp (by simp)
      have h2 := (h b).mpr (by simp)
      rcases List.mem_cons.mp h1 with e | h1
      · exact e
      · rcases List.mem_cons.mp h2 with e | h2
        · exact e.symm
        · exact absurd (lt_trans (dl.1 b h2) (dm.1 a h1)) (lt_irrefl _)
    subst e
    have t : l = m := sorted_unique dl.2 dm.2 fun x => by
      have k := h x
      simp only [List.mem_cons] at k
      constructor
      · intro hx
        rcases k.mp (.inr hx) with e | e
        · subst e; exact absurd (dl.1 _ hx) (lt_irrefl _)
        · exact e
      · intro hx
        rcases k.mpr (.inr hx) with e | e
        · subst e; exact absurd (dm.1 _ hx) (lt_irrefl _)
        · exact e
    rw [t]

def cornersOf (ps : List Pt) : List Pt :=
  if (srt ps).length < 3 then srt ps else (halfRound (srt ps)).dropLast ++ (halfRound (srt ps).reverse).dropLast

/-- a line at a point -/
def at3 (a b c : Int) (p : Pt) : Int := a * p.1 + b * p.2 + c
/-- p is shut out of ps -/
def Sep (ps : List Pt) (p : Pt) : Prop := ∃ a b c : Int, (∀ q ∈ ps, 0 ≤ at3 a b c q) ∧ at3 a b c p < 0
theorem Sep.sub {ps qs : List Pt} {p : Pt} (h : Sep ps p) (k : ∀ q ∈ qs, q ∈ ps) : Sep qs p := by
  obtain ⟨a, b, c, h1, h2⟩ := h
  exact ⟨a, b, c, fun q hq => h1 q (k q hq), h2⟩

structure Rim (ps rim : List Pt) : Prop where
  sub : ∀ x ∈ rim, x ∈ ps
  nil : ps ≠ [] → rim ≠ []
  nodup : rim.Nodup
  least : ∀ z r, rim = z :: r → ∀ q ∈ ps, q = z ∨ lt z q
  edge : ∀ z w r, rim = z :: w :: r → Adj (fun a b => ∀ q ∈ ps, 0 ≤ turn a b q) (rim ++ [z])
  fan : ∀ z r, rim = z :: r → Adj (fun a b => 0 < turn z a b) r
  one : ∀ z, rim = [z] → ∀ q ∈ ps, q = z
  two : ∀ z w, rim = [z, w] → lt z w ∧ ∀ q ∈ ps, q = w ∨ lt q w
  ext : ∀ x ∈ rim, Sep (ps.filter (· ≠ x)) x

/-- a bound of all places -/
theorem bound_of : ∀ (ps : List Pt), ∃ N : Int, 0 < N ∧ ∀ q ∈ ps, -N < q.1 ∧ q.1 < N ∧ -N < q.2 ∧ q.2 < N
  | [] => ⟨1, by omega, by simp⟩
  | p :: r => by
    obtain ⟨N, h0, h⟩ := bound_of r
    refine ⟨N + p.1.natAbs + p.2.natAbs + 1, by omega, fun q hq => ?_⟩
    rcases List.mem_cons.mp hq with e | hq
    · subst e; omega
    · have := h q hq; omega
/-- the least point is apart from the others -/
theorem sep_least {ps : List Pt} {z : Pt} (hz : z ∈ ps) (h : ∀ q ∈ ps, q = z ∨ lt z q) : Sep (ps.filter (· ≠ z)) z := by
  obtain ⟨N, h0, hN⟩ := bound_of ps
  refine ⟨2 * N, 1, -(2 * N * z.1) - z.2 - 1, fun q hq => ?_, ?_⟩
  · obtain ⟨hq, hne⟩ := List.mem_filter.mp hq
    have hl : lt z q := by
      rcases h q hq with e | e
      · simp [e] at hne
      · exact e
    have b1 := hN q hq
    have b2 := hN z hz
    unfold at3
    rcases hl with hl | ⟨h1, h2⟩
    · have : 2 * N * 1 ≤ 2 * N * (q.1 - z.1) := Int.mul_le_mul_of_nonneg_left (by omega) (by omega)
      grind
    · grind
  · unfold at3; grind
theorem at3_neg (a b c : Int) (p : Pt) : at3 (-a) (-b) c (neg p) = at3 a b c p := by unfold at3 neg; grind
theorem sep_greatest {ps : List Pt} {z : Pt} (hz : z ∈ ps) (h : ∀ q ∈ ps, q = z ∨ lt q z) : Sep (ps.filter (· ≠ z)) z := by
  obtain ⟨N, h0, hN⟩ := bound_of ps
  refine ⟨-(2 * N), -1, 2 * N * z.1 + z.2 - 1, fun q hq => ?_, ?_⟩
  · obtain ⟨hq, hne⟩ := List.mem_filter.mp hq
    have hl : lt q z := by
      rcases h q hq with e | e
      · simp [e] at hne
      · exact e
    have b1 := hN q hq
    have b2 := hN z hz
    unfold at3
    rcases hl with hl | ⟨h1, h2⟩
    · have : 2 * N * 1 ≤ 2 * N * (z.1 - q.1) := Int.mul_le_mul_of_nonneg_left (by omega) (by omega)
      grind
    · grind
  · unfold at3; grind
/-- a point between two edges that turn is apart from the others -/
theorem sep_turn {ps : List Pt} {a b c : Pt} (h1 : ∀ q ∈ ps, 0 ≤ turn a b q) (h2 : ∀ q ∈ ps, 0 ≤ turn b c q) (h : 0 < turn a b c) : Sep (ps.filter (· ≠ b)) b := by
  refine ⟨-(b.2 - a.2) - (c.2 - b.2), (b.1 - a.1) + (c.1 - b.1), -(b.1 - a.1) * a.2 + (b.2 - a.2) * a.1 - (c.1 - b.1) * b.2 + (c.2 - b.2) * b.1 - 1, fun q hq => ?_, ?_⟩
  · obtain ⟨hq, hne⟩ := List.mem_filter.mp hq
    have e1 := h1 q hq
    have e2 := h2 q hq
    have key : turn a b q + turn b c q ≠ 0 := by
      intro e
      have z1 : turn a b q = 0 := by omega
      have z2 : turn b c q = 0 := by omega
      have x : turn a b c * (q.1 - b.1) = 0 := by unfold turn at *; grind
      have y : turn a b c * (q.2 - b.2) = 0 := by unfold turn at *; grind
      have x' : q.1 - b.1 = 0 := by rcases Int.mul_eq_zero.mp x with z | z <;> omega
      have y' : q.2 - b.2 = 0 := by rcases Int.mul_eq_zero.mp y with z | z <;> omega
      have : q = b := by
        obtain ⟨qx, qy⟩ := q
        obtain ⟨bx, b_y⟩ := b
        simp only at x' y'
        rw [show qx = bx by omega, show qy = b_y by omega]
      simp [this] at hne
    have k : 0 < turn a b q + turn b c q := by omega
    unfold at3
    unfold turn at k
    grind
  · unfold at3; grind
end HP
/-! The corners keep Rim. -/
namespace HP
theorem conv_ext {ps : List Pt} : ∀ (S : List Pt) (c b a : Pt) (pre : List Pt), Conv (pre ++ c :: b :: a :: S) → Edges ps (pre ++ c :: b :: a :: S) → Sep (ps.filter (· ≠ b)) b
  | S, c, b, a, [], hc, he => sep_turn he.2.1 he.1 hc.1
  | S, c, b, a, x :: pre, hc, he => conv_ext S c b a pre hc.tail (Adj.tail he)
/-- each point of a stack is apart from the others: the top and the bottom as greatest and least -/
theorem stack_ext {r : Pt → Pt → Prop} {ps S : List Pt} {t z : Pt} (ok : StkOk r ps (t :: S)) (hz : (t :: S).getLast? = some z) (ht : Sep (ps.filter (· ≠ t)) t) (hb : Sep (ps.filter (· ≠ z)) z) : ∀ x ∈ t :: S, Sep (ps.filter (· ≠ x)) x := by
  intro x hx
  obtain ⟨pre, post, e⟩ := List.append_of_mem hx
  cases hpre : pre.reverse with
  | nil =>
    have : pre = [] := by simpa using hpre
    subst this
    simp at e
    rw [← e.1]; exact ht
  | cons c pre' =>
    have hp : pre = pre'.reverse ++ [c] := by
      have := congrArg List.reverse hpre
      simpa using this
    cases post with
    | nil =>
      rw [e] at hz
      simp at hz
      subst hz
      exact hb
    | cons a post' =>
      have e2 : t :: S = pre'.reverse ++ c :: x :: a :: post' := by rw [e, hp]; simp
      have hc := ok.conv
      have he := ok.edges
      rw [e2] at hc he
      exact conv_ext post' c x a _ hc he
/-- turning round the least point is an order -/
theorem fan_trans {z a b c : Pt} (ha : lt z a) (hb : lt z b) (hc : lt z c) (h1 : 0 < turn z a b) (h2 : 0 < turn z b c) : 0 < turn z a c := by
  have ua := lt_up ha
  have ub := lt_up hb
  have uc := lt_up hc
  have h := up_trans ua ub uc (by unfold turn at h1; grind) (by unfold turn at h2; grind)
  rcases Int.lt_or_le 0 (turn z a c) with k | k
  · exact k
  · exfalso
    have e : turn z a c = 0 := by unfold turn at k ⊢; omega
    -- (b-z) * turn z a c = (c-z) * turn z a b + (a-z) * turn z b c
    have ex : (c.1 - z.1) * turn z a b + (a.1 - z.1) * turn z b c = 0 := by unfold turn at *; grind
    have ey : (c.2 - z.2) * turn z a b + (a.2 - z.2) * turn z b c = 0 := by unfold turn at *; grind
    have hax : 0 ≤ a.1 - z.1 := by unfold up at ua; omega
    have hcx : 0 ≤ c.1 - z.1 := by unfold up at uc; omega
    have p1 := Int.mul_nonneg hcx (Int.le_of_lt h1)
    have p2 := Int.mul_nonneg hax (Int.le_of_lt h2)
    have q1 : (c.1 - z.1) * turn z a b = 0 := by omega
    have q2 : (a.1 - z.1) * turn z b c = 0 := by omega
    have c0 : c.1 - z.1 = 0 := by rcases Int.mul_eq_zero.mp q1 with z | z <;> omega
    have a0 : a.1 - z.1 = 0 := by rcases Int.mul_eq_zero.mp q2 with z | z <;> omega
    have cy : 0 < c.2 - z.2 := by unfold up at uc; omega
    have ay : 0 < a.2 - z.2 := by unfold up at ua; omega
    have := Int.mul_pos cy h1
    have := Int.mul_pos ay h2
    omega
theorem fan_pairwise {z : Pt} : ∀ {r : List Pt}, (∀ x ∈ r, lt z x) → Adj (fun a b => 0 < turn z a b) r → r.Pairwise fun a b => 0 < turn z a b
  | [], _, _ => List.Pairwise.nil
  | [_], _, _ => by simp
  | a :: b :: r, hl, h => by
    have ih := fan_pairwise (r := b :: r) (fun x hx => hl x (List.mem_cons_of_mem _ hx)) h.2
    refine List.pairwise_cons.mpr ⟨fun x hx => ?_, ih⟩
    rcases List.mem_cons.mp hx with e | hx
    · rw [e]; exact h.1
    · exact fan_trans (hl a (by simp)) (hl b (by simp)) (hl x (by simp [hx])) h.1 ((List.pairwise_cons.mp ih).1 x hx)
theorem edges_rev {ps S : List Pt} (h : Edges ps S) : Adj (fun a b => ∀ q ∈ ps, 0 ≤ turn a b q) S.reverse := Adj.rev h

theorem rim_few {ps : List Pt} (h : (srt ps).length < 3) : Rim ps (srt ps) := by
  have hs := srt_sorted ps
  have hm : ∀ x, x ∈ srt ps ↔ x ∈ ps := fun x => mem_srt
  have hn : ps ≠ [] → srt ps ≠ [] := fun h1 h2 => by
    cases ps with
    | nil => exact h1 rfl
    | cons a r => have := (hm a).mpr (by simp); rw [h2] at this; simp at this
  match hr : srt ps, h with
  | [], _ =>
    exact ⟨fun x hx => by simp at hx, fun h1 _ => hn h1 hr, by simp, fun z r e => (by cases e), fun z w r e => (by cases e), fun z r e => (by cases e), fun z e => (by cases e), fun z w e => (by cases e), fun x hx => by simp at hx⟩
  | [z], _ =>
    rw [hr] at hm
    have hall : ∀ q ∈ ps, q = z := fun q hq => by simpa using (hm q).mpr hq
    refine ⟨fun x hx => (hm x).mp hx, fun _ => by simp, by simp, fun z' r e q hq => ?_, fun z w r e => (by cases e), fun z' r e => ?_, fun z' e q hq => ?_, fun z w e => (by cases e), fun x hx => ?_⟩
    · cases e; exact .inl (hall q hq)
    · cases e; trivial
    · cases e; exact hall q hq
    · simp at hx
      subst hx
      exact sep_least ((hm x).mp (by simp)) fun q hq => .inl (hall q hq)
  | [z, w], _ =>
    rw [hr] at hm hs
    have hzw : lt z w := (List.pairwise_cons.mp hs).1 w (by simp)
    have hall : ∀ q ∈ ps, q = z ∨ q = w := fun q hq => by simpa using (hm q).mpr hq
    have hmin : ∀ q ∈ ps, q = z ∨ lt z q := fun q hq => (hall q hq).imp id fun e => by rw [e]; exact hzw
    have hmax : ∀ q ∈ ps, q = w ∨ lt q w := fun q hq => (hall q hq).symm.imp id fun e => by rw [e]; exact hzw
    have hne : z ≠ w := fun e => by subst e; exact lt_irrefl _ hzw
    refine ⟨fun x hx => (hm x).mp hx, fun _ => by simp, by simp [hne], fun z' r e q hq => ?_, fun z' w' r e => ?_, fun z' r e => ?_, fun z' e q hq => (by cases e), fun z' w' e => ?_, fun x hx => ?_⟩
    · cases e; exact hmin q hq
    · cases e
      refine ⟨fun q hq => ?_, fun q hq => ?_, trivial⟩
      · rcases hall q hq with e | e
        · rw [e, turn_self3]; omega
        · rw [e, turn_self2]; omega
      · rcases hall q hq with e | e
        · rw [e, turn_self2]; omega
        · rw [e, turn_self3]; omega
    · cases e; trivial
    · cases e; exact ⟨hzw, hmax⟩
    · simp at hx
      rcases hx with e | e
      · subst e; exact sep_least ((hm x).mp (by simp)) hmin
      · subst e; exact sep_greatest ((hm x).mp (by simp)) hmax
theorem getLast?_tail {α : Type} {t z : α} {S : List α} (h : (t :: S).getLast? = some z) (hn : t ≠ z) : ∃ S', S = S' ++ [z] := by
  cases S with
  | nil => simp at h; exact absurd h hn
  | cons b S =>
    rw [List.getLast?_cons_cons] at h
    exact List.getLast?_eq_some_iff.mp h
theorem rim_many {ps : List Pt} (h : ¬ (srt ps).length < 3) : Rim ps ((halfRound (srt ps)).dropLast ++ (halfRound (srt ps).reverse).dropLast) := by
  have hs := srt_sorted ps
  have hm : ∀ x, x ∈ srt ps ↔ x ∈ ps := fun x => mem_srt
  have tot : ∀ x ∈ srt ps, ∀ y ∈ srt ps, lt x y ∨ x = y ∨ lt y x := fun x _ y _ => lt_tot x y
  -- the lower side
  obtain ⟨a, rows, hr⟩ : ∃ a rows, srt ps = a :: rows := by
    cases e : srt ps with
    | nil => rw [e] at h; simp at h
    | cons a r => exact ⟨a, r, rfl⟩
  obtain ⟨t, S, eL, okL, lastL, topL⟩ := hrS_ok ord_lt a rows (by rw [← hr]; exact hs) (fun x _ y _ => lt_tot x y)
  rw [← hr] at eL okL topL
  obtain ⟨a', rows', hr'⟩ : ∃ a' rows', (srt ps).reverse = a' :: rows' := by
    cases e : (srt ps).reverse with
    | nil => rw [List.reverse_eq_nil_iff] at e; rw [e] at hr; cases hr
    | cons a r => exact ⟨a, r, rfl⟩
  obtain ⟨t', S', eU, okU, lastU, topU⟩ := hrS_ok ord_gt a' rows' (by
    rw [← hr', List.pairwise_reverse]; exact hs) (fun x _ y _ => by
    rcases lt_tot x y with h | h | h
    · exact .inr (.inr h)
    · exact .inr (.inl h)
    · exact .inl h)
  rw [← hr'] at eU okU topU
  -- a = t' the least, a' = t the greatest
  have min_a : ∀ q ∈ srt ps, q = a ∨ lt a q := okL.bot a lastL
  have max_t : ∀ q ∈ srt ps, q = t ∨ lt q t := topL
  have a_in : a ∈ srt ps := by rw [hr]; simp
  have t_in : t ∈ srt ps := okL.sub t (by simp)
  have max_a' : ∀ q ∈ srt ps, q = a' ∨ lt q a' := fun q hq => okU.bot a' lastU q (by simpa using hq)
  have min_t' : ∀ q ∈ srt ps, q = t' ∨ lt t' q := fun q hq => topU q (by simpa using hq)
  have t'_in : t' ∈ srt ps := by simpa using okU.sub t' (by simp)
  have a'_in : a' ∈ srt ps := by
    have : a' ∈ (srt ps).reverse := by rw [hr']; simp
    simpa using this
  have et' : t' = a := by
    rcases min_a t' t'_in with e | e
    · exact e
    · rcases min_t' a a_in with e' | e'
      · exact e'.symm
      · exact absurd (lt_trans e e') (lt_irrefl _)
  have ea' : a' = t := by
    rcases max_t a' a'_in with e | e
    · exact e
    · rcases max_a' t t_in with e' | e'
      · exact e'.symm
      · exact absurd (lt_trans e e') (lt_irrefl _)
  subst et' ea'
  have hat : lt t' a' := by
    obtain ⟨b, rows2, e2⟩ : ∃ b rows2, rows = b :: rows2 := by
      cases rows with
      | nil => rw [hr] at h; simp at h
      | cons b r => exact ⟨b, r, rfl⟩
    have hb : lt t' b := by
      rw [hr, e2] at hs
      exact (List.pairwise_cons.mp hs).1 b (by simp)
    rcases max_t b (by rw [hr, e2]; simp) with e | e
    · rw [← e]; exact hb
    · exact lt_trans hb e
  have hne : a' ≠ t' := fun e => by rw [e] at hat; exact lt_irrefl _ hat
  obtain ⟨S1, eS⟩ := getLast?_tail lastL hne
  obtain ⟨S2, eS'⟩ := getLast?_tail lastU (Ne.symm hne)
  have hL : (halfRound (srt ps)).dropLast = S.reverse := by
    unfold halfRound; rw [eL, List.reverse_cons, List.dropLast_concat]
  have hU : (halfRound (srt ps).reverse).dropLast = S'.reverse := by
    unfold halfRound; rw [eU, List.reverse_cons, List.dropLast_concat]
  rw [hL, hU]
  have hSr : S.reverse = t' :: S1.reverse := by rw [eS]; simp
  have hSr' : S'.reverse = a' :: S2.reverse := by rw [eS']; simp
  have inS : ∀ x ∈ S, x ∈ srt ps := fun x hx => okL.sub x (List.mem_cons_of_mem _ hx)
  have inS' : ∀ x ∈ S', x ∈ srt ps := fun x hx => by simpa using okU.sub x (List.mem_cons_of_mem _ hx)
  have ltS1 : ∀ x ∈ S1, lt t' x := fun x hx => by
    have d := (List.pairwise_cons.mp okL.desc).2
    rw [eS, List.pairwise_append] at d
    exact d.2.2 x hx t' (by simp)
  have ltS' : ∀ x ∈ S', lt t' x := fun x hx => (List.pairwise_cons.mp okU.desc).1 x hx
  have edgesL := edges_rev okL.edges
  have edgesU := edges_rev okU.edges
  rw [List.reverse_cons] at edgesL edgesU
  have cyc : Adj (fun a b => ∀ q ∈ ps, 0 ≤ turn a b q) (S.reverse ++ S'.reverse ++ [t']) := by
    have h2 : Adj (fun a b => ∀ q ∈ srt ps, 0 ≤ turn a b q) (S.reverse ++ (S'.reverse ++ [t'])) := by
      rw [hSr'] at edgesU ⊢
      refine Adj.glue edgesL ?_
      refine Adj.imp (fun a b _ _ hab q hq => hab q (by simpa using hq)) edgesU
    rw [List.append_assoc]
    exact Adj.imp (fun a b _ _ hab q hq => hab q ((hm q).mpr hq)) h2
  have fan : Adj (fun a b => 0 < turn t' a b) (S1.reverse ++ S'.reverse) := by
    have f2 : Adj (fun a b => 0 < turn t' a b) S'.reverse := by
      -- the upper side, seen from its top
      cases hS' : S' with
      | nil => trivial
      | cons b S3 =>
        have d := List.pairwise_cons.mp okU.desc
        have hc := okU.conv
        rw [hS'] at d hc
        have hb : gt b t' := d.1 b (by simp)
        have en := edges_new ord_gt S3 b d.2 hc.tail hb fun b' S'' e => by subst e; exact hc.1
        refine Adj.imp (fun x y _ _ k => ?_) (Adj.rev en)
        rw [turn_rot]; exact k
    have f1 : Adj (fun a b => 0 < turn t' a b) (S1.reverse ++ [a']) := by
      -- the lower side, seen from its bottom
      have g : ∀ (L : List Pt) (c : Pt), (c :: (L ++ [t'])).Pairwise (fun x y => lt y x) → Conv (c :: (L ++ [t'])) → Adj (fun c b => 0 < turn t' b c) (c :: L) := by
        intro L
        induction L with
        | nil => intro c _ _; trivial
        | cons b L ih =>
          intro c hd hc
          refine ⟨?_, ih b (List.pairwise_cons.mp hd).2 hc.tail⟩
          refine fan_bot ord_lt (L ++ [t']) b c t' hd hc (List.getLast?_eq_some_iff.mpr ⟨b :: L, rfl⟩) ?_
          have := (List.pairwise_cons.mp (List.pairwise_cons.mp hd).2).1 t' (by simp)
          intro e
          rw [← e] at this
          exact lt_irrefl _ this
      have k := g S1 a' (by rw [← eS]; exact okL.desc) (by rw [← eS]; exact okL.conv)
      have k2 := Adj.rev k
      rw [List.reverse_cons] at k2
      exact k2
    rw [hSr'] at f2 ⊢
    exact Adj.glue f1 f2
  have ltR : ∀ x ∈ S1.reverse ++ S'.reverse, lt t' x := fun x hx => by
    rcases List.mem_append.mp hx with hx | hx
    · exact ltS1 x (by simpa using hx)
    · exact ltS' x (by simpa using hx)
  have eR : S.reverse ++ S'.reverse = t' :: (S1.reverse ++ S'.reverse) := by rw [hSr]; rfl
  have inR : ∀ x ∈ S.reverse ++ S'.reverse, x ∈ srt ps := fun x hx => by
    rcases List.mem_append.mp hx with hx | hx
    · exact inS x (by simpa using hx)
    · exact inS' x (by simpa using hx)
  have pw := fan_pairwise ltR fan
  have filt : ∀ x, (srt ps).filter (· ≠ x) ⊆ ps.filter (· ≠ x) := fun x y hy => by
    obtain ⟨h1, h2⟩ := List.mem_filter.mp hy
    exact List.mem_filter.mpr ⟨(hm y).mp h1, h2⟩
  have filt' : ∀ x, ∀ q ∈ ps.filter (· ≠ x), q ∈ (srt ps).filter (· ≠ x) := fun x y hy => by
    obtain ⟨h1, h2⟩ := List.mem_filter.mp hy
    exact List.mem_filter.mpr ⟨(hm y).mpr h1, h2⟩
  have sepMin : Sep ((srt ps).filter (· ≠ t')) t' := sep_least a_in min_a
  have sepMax : Sep ((srt ps).filter (· ≠ a')) a' := sep_greatest t_in max_t
  refine ⟨fun x hx => (hm x).mp (inR x hx), fun _ => by rw [eR]; simp, ?_, fun z r e q hq => ?_, fun z w r e => ?_, fun z r e => ?_, fun z e => ?_, fun z w e => ?_, fun x hx => ?_⟩
  · rw [eR]
    refine List.nodup_cons.mpr ⟨fun hx => lt_irrefl _ (ltR t' hx), ?_⟩
    refine List.Pairwise.imp (fun {x y} k e => ?_) pw
    subst e
    rw [turn_self2] at k
    omega
  · rw [eR] at e
    cases e
    exact min_a q ((hm q).mpr hq)
  · have hz : z = t' := by
      rw [eR] at e
      exact (List.cons.inj e).1.symm
    rw [hz]; exact cyc
  · rw [eR] at e
    cases e
    exact fan
  · rw [eR, hSr'] at e
    have := congrArg List.length e
    simp at this
  · rw [eR, hSr'] at e
    have hl := congrArg List.length e
    simp at hl
    have e1 : S1 = [] := List.eq_nil_of_length_eq_zero (by omega)
    have e2 : S2 = [] := List.eq_nil_of_length_eq_zero (by omega)
    subst e1 e2
    simp at e
    obtain ⟨rfl, rfl⟩ := e
    exact ⟨hat, fun q hq => max_t q ((hm q).mpr hq)⟩
  · refine Sep.sub ?_ (filt' x)
    rcases List.mem_append.mp hx with hx | hx
    · exact stack_ext okL lastL sepMax sepMin x (List.mem_cons_of_mem _ (by simpa using hx))
    · have okU' : StkOk gt (srt ps) (t' :: S') := ⟨okU.desc, okU.conv, Adj.imp (fun a b _ _ hab q hq => hab q (by simpa using hq)) okU.edges, fun x hx => by simpa using okU.sub x hx, fun x hx q hq => okU.bot x hx q (by simpa using hq)⟩
      exact stack_ext okU' lastU sepMin sepMax x (List.mem_cons_of_mem _ (by simpa using hx))
theorem rim_ok (ps : List Pt) : Rim ps (cornersOf ps) := by
  unfold cornersOf
  split
  · rename_i h; exact rim_few h
  · rename_i h; exact rim_many h
end HP
/-! Weighings. -/
namespace HP
abbrev W := Int × Int × Int

/-! insertion sort -/
def insW {α : Type} (le : α → α → Bool) (x : α) : List α → List α
  | [] => [x]
  | y :: r => if le x y then x :: y :: r else y :: insW le x r
def isort {α : Type} (le : α → α → Bool) : List α → List α
  | [] => []
  | x :: r => insW le x (isort le r)
theorem insW_perm {α : Type} {le : α → α → Bool} {x : α} : ∀ {l : List α}, (insW le x l).Perm (x :: l)
  | [] => List.Perm.refl _
  | y :: r => by
    unfold insW
    split
    · exact List.Perm.refl _
    · exact (List.Perm.cons y insW_perm).trans (List.Perm.swap x y r)
theorem isort_perm {α : Type} {le : α → α → Bool} : ∀ {l : List α}, (isort le l).Perm l
  | [] => List.Perm.refl _
  | x :: r => insW_perm.trans (List.Perm.cons x isort_perm)
theorem insW_sorted {α : Type} {le : α → α → Bool} (tot : ∀ a b, le a b = true ∨ le b a = true) (tr : ∀ a b c, le a b = true → le b c = true → le a c = true) {x : α} : ∀ {l : List α}, l.Pairwise (fun a b => le a b = true) → (insW le x l).Pairwise (fun a b => le a b = true)
  | [], _ => by simp [insW]
  | y :: r, h => by
    have d := List.pairwise_cons.mp h
    unfold insW
    split
    · rename_i hxy
      refine List.pairwise_cons.mpr ⟨fun z hz => ?_, h⟩
      rcases List.mem_cons.mp hz with e | hz
      · rw [e]; exact hxy
      · exact tr _ _ _ hxy (d.1 z hz)
    · rename_i hxy
      refine List.pairwise_cons.mpr ⟨fun z hz => ?_, insW_sorted tot tr d.2⟩
      rcases List.mem_cons.mp (insW_perm.mem_iff.mp hz) with e | hz
      · rw [e]
        rcases tot x y with k | k
        · exact absurd k hxy
        · exact k
      · exact d.1 z hz
theorem isort_sorted {α : Type} {le : α → α → Bool} (tot : ∀ a b, le a b = true ∨ le b a = true) (tr : ∀ a b c, le a b = true → le b c = true → le a c = true) : ∀ (l : List α), (isort le l).Pairwise (fun a b => le a b = true)
  | [] => List.Pairwise.nil
  | _ :: r => insW_sorted tot tr (isort_sorted tot tr r)
theorem isort_unique {α : Type} {le : α → α → Bool} (tot : ∀ a b, le a b = true ∨ le b a = true) (tr : ∀ a b c, le a b = true → le b c = true → le a c = true) (anti : ∀ a b, le a b = true → le b a = true → a = b) {l m : List α}
    (hp : m.Perm l) (hs : m.Pairwise (fun a b => le a b = true)) : m = isort le l :=
  List.Perm.eq_of_pairwise (le := fun a b => le a b = true) (fun a b _ _ => anti a b) hs (isort_sorted tot tr l) (hp.trans isort_perm.symm)

/-- tuples of three, by their order -/
def le3 (u v : W) : Bool := decide (u.1 < v.1 ∨ (u.1 = v.1 ∧ (u.2.1 < v.2.1 ∨ (u.2.1 = v.2.1 ∧ u.2.2 ≤ v.2.2))))
theorem le3_tot (u v : W) : le3 u v = true ∨ le3 v u = true := by unfold le3; simp only [decide_eq_true_eq]; omega
theorem le3_trans (u v w : W) : le3 u v = true → le3 v w = true → le3 u w = true := by unfold le3; simp only [decide_eq_true_eq]; omega
theorem le3_anti (u v : W) : le3 u v = true → le3 v u = true → u = v := by
  obtain ⟨a, b, c⟩ := u
  obtain ⟨d, e, f⟩ := v
  unfold le3; simp only [decide_eq_true_eq, Prod.mk.injEq]; omega

/-! a weight in lowest terms -/
def signGcd (a b : Int) : Int := if b < 0 then -(Int.gcd a b : Int) else (Int.gcd a b : Int)
def weightW (n a b : Int) : W := (n, a.fdiv (signGcd a b), b.fdiv (signGcd a b))
theorem weightW_ok (n a b : Int) (hb : b ≠ 0) : ∃ x y : Int, weightW n a b = (n, x, y) ∧ 0 < y ∧ x * b = a * y ∧ Int.gcd x y = 1 ∧ ((0 < a ∧ 0 < b) ∨ (a < 0 ∧ b < 0) → 0 < x) := by
  obtain ⟨g, hg⟩ : ∃ g : Int, g = (Int.gcd a b : Int) := ⟨_, rfl⟩
  have hgp : 0 < g := by
    have : 0 < Int.gcd a b := Int.gcd_pos_of_ne_zero_right a hb
    omega
  have da : g ∣ a := by rw [hg]; exact Int.gcd_dvd_left a b
  have db : g ∣ b := by rw [hg]; exact Int.gcd_dvd_right a b
  obtain ⟨x, hx⟩ := da
  obtain ⟨y, hy⟩ := db
  have hco : Int.gcd x y = 1 := by
    have h := Int.gcd_mul_left g x y
    rw [← hx, ← hy] at h
    have h2 : (g.natAbs : Int) = g := by omega
    have h3 : (Int.gcd a b : Int) = g.natAbs * Int.gcd x y := by exact_mod_cast h
    rw [h2, ← hg] at h3
    have h4 : g * 1 = g * (Int.gcd x y : Int) := by omega
    have h5 := Int.eq_of_mul_eq_mul_left (by omega : g ≠ 0) h4
    omega
  by_cases hneg : b < 0
  · have hs : signGcd a b = -g := by unfold signGcd; rw [if_pos hneg, hg]
    have ex : a.fdiv (-g) = -x := by
      rw [Int.fdiv_eq_ediv_of_dvd ⟨-x, by rw [hx]; grind⟩, Int.ediv_neg, hx, Int.mul_ediv_cancel_left _ (by omega)]
    have ey : b.fdiv (-g) = -y := by
      rw [Int.fdiv_eq_ediv_of_dvd ⟨-y, by rw [hy]; grind⟩, Int.ediv_neg, hy, Int.mul_ediv_cancel_left _ (by omega)]
    refine ⟨-x, -y, by unfold weightW; rw [hs, ex, ey], ?_, by rw [hx, hy]; grind, by rw [Int.gcd_neg, Int.neg_gcd]; exact hco, ?_⟩
    · rw [hy] at hneg
      refine pos_of_mul hgp ?_
      have : g * -y = -(g * y) := by grind
      omega
    · rintro (h | h)
      · omega
      · have h1 := h.1
        rw [hx] at h1
        refine pos_of_mul hgp ?_
        have : g * -x = -(g * x) := by grind
        omega
  · have hs : signGcd a b = g := by unfold signGcd; rw [if_neg hneg, hg]
    have ex : a.fdiv g = x := by
      rw [Int.fdiv_eq_ediv_of_dvd ⟨x, hx⟩, hx, Int.mul_ediv_cancel_left _ (by omega)]
    have ey : b.fdiv g = y := by
      rw [Int.fdiv_eq_ediv_of_dvd ⟨y, hy⟩, hy, Int.mul_ediv_cancel_left _ (by omega)]
    refine ⟨x, y, by unfold weightW; rw [hs, ex, ey], ?_, by rw [hx, hy]; grind, hco, ?_⟩
    · have : 0 < b := by omega
      rw [hy] at this
      exact pos_of_mul hgp this
    · rintro (h | h)
      · have h1 := h.1
        rw [hx] at h1
        exact pos_of_mul hgp h1
      · omega

/-! what the law adds up -/
def ptAt (ps : List Pt) (n : Int) : Pt := ps.getD n.toNat (0, 0)
def wstep (ps : List Pt) (s : Int × Int × Int × Int) (u : W) : Int × Int × Int × Int :=
  (s.1 * u.2.2 + (ptAt ps u.1).1 * u.2.1 * s.2.2.2, s.2.1 * u.2.2 + (ptAt ps u.1).2 * u.2.1 * s.2.2.2, s.2.2.1 * u.2.2 + 1 * u.2.1 * s.2.2.2, s.2.2.2 * u.2.2)
structure WOk (ps : List Pt) (ws : List W) (X Y B : Int) : Prop where
  len : 1 ≤ ws.length ∧ ws.length ≤ 3
  rise : ws.Pairwise fun u v => u.1 < v.1
  each : ∀ u ∈ ws, 0 ≤ u.1 ∧ u.1 < ps.length ∧ 0 < u.2.1 ∧ 0 < u.2.2 ∧ Int.gcd u.2.1 u.2.2 = 1
  sum : ∀ s, ws.foldl (wstep ps) (0, 0, 0, 1) = s → s.2.2.1 = s.2.2.2 ∧ s.1 * B = X * s.2.2.2 ∧ s.2.1 * B = Y * s.2.2.2
def wsum (f : W → Int) : List W → Int
  | [] => 0
  | u :: r => f u + wsum f r
theorem wsum_perm {f : W → Int} {l m : List W} (h : l.Perm m) : wsum f l = wsum f m := by
  induction h with
  | nil => rfl
  | cons x _ ih => simp [wsum, ih]
  | swap x y l => simp only [wsum]; omega
  | trans _ _ a b => exact a.trans b
theorem fold_sum (ps : List Pt) (M : Int) (m : W → Int) : ∀ (ws : List W) (s : Int × Int × Int × Int) (x y z : Int), (∀ u ∈ ws, u.2.1 * M = m u * u.2.2) → s.1 * M = s.2.2.2 * x → s.2.1 * M = s.2.2.2 * y → s.2.2.1 * M = s.2.2.2 * z →
    ∀ s', ws.foldl (wstep ps) s = s' → s'.1 * M = s'.2.2.2 * (x + wsum (fun u => m u * (ptAt ps u.1).1) ws) ∧ s'.2.1 * M = s'.2.2.2 * (y + wsum (fun u => m u * (ptAt ps u.1).2) ws) ∧ s'.2.2.1 * M = s'.2.2.2 * (z + wsum m ws)
  | [], s, x, y, z, _, h1, h2, h3, s', e => by
    cases e
    simp only [wsum, Int.add_zero]
    exact ⟨h1, h2, h3⟩
  | u :: ws, s, x, y, z, hu, h1, h2, h3, s', e => by
    have k := hu u (by simp)
    have ih := fold_sum ps M m ws (wstep ps s u) (x + m u * (ptAt ps u.1).1) (y + m u * (ptAt ps u.1).2) (z + m u) (fun v hv => hu v (List.mem_cons_of_mem _ hv))
      (by unfold wstep; simp only; grind) (by unfold wstep; simp only; grind) (by unfold wstep; simp only; grind) s' e
    simp only [wsum]
    refine ⟨?_, ?_, ?_⟩
    · rw [← Int.add_assoc]; exact ih.1
    · rw [← Int.add_assoc]; exact ih.2.1
    · rw [← Int.add_assoc]; exact ih.2.2
theorem fold_below (ps : List Pt) : ∀ (ws : List W) (s : Int × Int × Int × Int), (∀ u ∈ ws, 0 < u.2.2) → 0 < s.2.2.2 → 0 < (ws.foldl (wstep ps) s).2.2.2
  | [], s, _, h => h
  | u :: ws, s, hu, h => fold_below ps ws (wstep ps s u) (fun v hv => hu v (List.mem_cons_of_mem _ hv)) (Int.mul_pos h (hu u (by simp)))
/-- a weighing by parts of a whole is one to the spot -/
theorem wok_of (ps : List Pt) (ws : List W) (M X Y B : Int) (m : W → Int) (hM : 0 < M) (len : 1 ≤ ws.length ∧ ws.length ≤ 3) (rise : ws.Pairwise fun u v => u.1 < v.1)
    (each : ∀ u ∈ ws, 0 ≤ u.1 ∧ u.1 < ps.length ∧ 0 < u.2.1 ∧ 0 < u.2.2 ∧ Int.gcd u.2.1 u.2.2 = 1) (hm : ∀ u ∈ ws, u.2.1 * M = m u * u.2.2) (hs : wsum m ws = M)
    (hx : wsum (fun u => m u * (ptAt ps u.1).1) ws * B = X * M) (hy : wsum (fun u => m u * (ptAt ps u.1).2) ws * B = Y * M) : WOk ps ws X Y B := by
  refine ⟨len, rise, each, fun s e => ?_⟩
  obtain ⟨h1, h2, h3⟩ := fold_sum ps M m ws (0, 0, 0, 1) 0 0 0 hm (by simp) (by simp) (by simp) s e
  rw [Int.zero_add] at h1 h2 h3
  rw [hs] at h3
  have e1 : s.2.2.1 = s.2.2.2 := Int.eq_of_mul_eq_mul_right (by omega) h3
  refine ⟨e1, ?_, ?_⟩
  · refine Int.eq_of_mul_eq_mul_right (show M ≠ 0 by omega) ?_
    grind
  · refine Int.eq_of_mul_eq_mul_right (show M ≠ 0 by omega) ?_
    grind
end HP
/-! Points in hulls: parts of a whole. -/
namespace HP
def psum (f : Pt × Int → Int) : List (Pt × Int) → Int
  | [] => 0
  | x :: r => f x + psum f r
/-- a spot in the hull of S: parts of points of S -/
structure InH (S : List Pt) (X Y B : Int) (parts : List (Pt × Int)) : Prop where
  mem : ∀ x ∈ parts, x.1 ∈ S ∧ 0 ≤ x.2
  pos : 0 < psum (·.2) parts
  ex : psum (fun x => x.2 * x.1.1) parts * B = X * psum (·.2) parts
  ey : psum (fun x => x.2 * x.1.2) parts * B = Y * psum (·.2) parts
def InHull (S : List Pt) (X Y B : Int) : Prop := ∃ parts, InH S X Y B parts
theorem InH.sub {S T : List Pt} {X Y B : Int} {parts : List (Pt × Int)} (h : InH S X Y B parts) (k : ∀ q ∈ S, q ∈ T) : InH T X Y B parts := ⟨fun x hx => ⟨k _ (h.mem x hx).1, (h.mem x hx).2⟩, h.pos, h.ex, h.ey⟩
theorem InHull.sub {S T : List Pt} {X Y B : Int} (h : InHull S X Y B) (k : ∀ q ∈ S, q ∈ T) : InHull T X Y B := by
  obtain ⟨p, hp⟩ := h
  exact ⟨p, hp.sub k⟩
theorem psum_line (a b c : Int) : ∀ parts : List (Pt × Int), psum (fun x => x.2 * at3 a b c x.1) parts = a * psum (fun x => x.2 * x.1.1) parts + b * psum (fun x => x.2 * x.1.2) parts + c * psum (·.2) parts
  | [] => by simp [psum]
  | x :: r => by
    simp only [psum, psum_line a b c r]
    unfold at3
    grind
theorem psum_nonneg (f : Pt × Int → Int) : ∀ parts : List (Pt × Int), (∀ x ∈ parts, 0 ≤ f x) → 0 ≤ psum f parts
  | [], _ => by simp [psum]
  | x :: r, h => by
    have := psum_nonneg f r fun y hy => h y (List.mem_cons_of_mem _ hy)
    have := h x (by simp)
    simp only [psum]; omega
theorem psum_pos (f : Pt × Int → Int) : ∀ parts : List (Pt × Int), (∀ x ∈ parts, 0 ≤ f x) → (∃ x ∈ parts, 0 < f x) → 0 < psum f parts
  | [], _, h => by obtain ⟨_, h, _⟩ := h; simp at h
  | x :: r, h, k => by
    have h1 := psum_nonneg f r fun y hy => h y (List.mem_cons_of_mem _ hy)
    have h2 := h x (by simp)
    obtain ⟨y, hy, hp⟩ := k
    simp only [psum]
    rcases List.mem_cons.mp hy with e | hy
    · subst e; omega
    · have := psum_pos f r (fun y hy => h y (List.mem_cons_of_mem _ hy)) ⟨y, hy, hp⟩
      omega
theorem psum_some_pos {f : Pt × Int → Int} : ∀ {parts : List (Pt × Int)}, 0 < psum f parts → ∃ x ∈ parts, 0 < f x
  | [], h => by simp [psum] at h
  | x :: r, h => by
    simp only [psum] at h
    by_cases k : 0 < f x
    · exact ⟨x, by simp, k⟩
    · obtain ⟨y, hy, hp⟩ := psum_some_pos (f := f) (parts := r) (by omega)
      exact ⟨y, List.mem_cons_of_mem _ hy, hp⟩
theorem lin_aux {a b c P Q M X Y B : Int} (e1 : P * B = X * M) (e2 : Q * B = Y * M) : (a * P + b * Q + c * M) * B = M * (a * X + b * Y + c * B) := by grind
/-- a line that is nought or above at S is so at each spot of its hull -/
theorem InH.line {S : List Pt} {X Y B : Int} {parts : List (Pt × Int)} (h : InH S X Y B parts) (hB : 0 < B) {a b c : Int} (hl : ∀ q ∈ S, 0 ≤ at3 a b c q) : 0 ≤ a * X + b * Y + c * B := by
  have h1 := psum_nonneg (fun x => x.2 * at3 a b c x.1) parts fun x hx => Int.mul_nonneg (h.mem x hx).2 (hl _ (h.mem x hx).1)
  rw [psum_line] at h1
  have h2 := Int.mul_nonneg h1 (Int.le_of_lt hB)
  refine nonneg_of_mul h.pos ?_
  rw [lin_aux h.ex h.ey] at h2
  exact h2
theorem InH.line_pos {S : List Pt} {X Y B : Int} {parts : List (Pt × Int)} (h : InH S X Y B parts) (hB : 0 < B) {a b c : Int} (hl : ∀ q ∈ S, 0 < at3 a b c q) : 0 < a * X + b * Y + c * B := by
  have h1 := psum_pos (fun x => x.2 * at3 a b c x.1) parts (fun x hx => Int.mul_nonneg (h.mem x hx).2 (Int.le_of_lt (hl _ (h.mem x hx).1))) (by
    obtain ⟨x, hx, hp⟩ := psum_some_pos h.pos
    exact ⟨x, hx, Int.mul_pos hp (hl _ (h.mem x hx).1)⟩)
  rw [psum_line] at h1
  have h2 := Int.mul_pos h1 hB
  refine pos_of_mul h.pos ?_
  rw [lin_aux h.ex h.ey] at h2
  exact h2
theorem InHull.line {S : List Pt} {X Y B : Int} (h : InHull S X Y B) (hB : 0 < B) {a b c : Int} (hl : ∀ q ∈ S, 0 ≤ at3 a b c q) : 0 ≤ a * X + b * Y + c * B := by
  obtain ⟨p, hp⟩ := h
  exact hp.line hB hl
theorem InHull.line_pos {S : List Pt} {X Y B : Int} (h : InHull S X Y B) (hB : 0 < B) {a b c : Int} (hl : ∀ q ∈ S, 0 < at3 a b c q) : 0 < a * X + b * Y + c * B := by
  obtain ⟨p, hp⟩ := h
  exact hp.line_pos hB hl
theorem InHull.not_sep {S : List Pt} {p : Pt} (h : InHull S p.1 p.2 1) : ¬ Sep S p := by
  rintro ⟨a, b, c, h1, h2⟩
  have := h.line (by omega) h1
  unfold at3 at h2
  omega
theorem InHull.of_mem {S : List Pt} {p : Pt} (h : p ∈ S) : InHull S p.1 p.2 1 :=
  ⟨[(p, 1)], ⟨by simp [h], by simp [psum], by simp [psum], by simp [psum]⟩⟩

/-! the weighing that the program writes -/
def weighed (ps : List Pt) (parts : List (Pt × Int)) (whole : Int) : List W :=
  isort le3 ((parts.filter fun x => decide (0 < x.2)).map fun x => weightW (ps.idxOf x.1 : Nat) x.2 whole)
theorem wsum_map (f : W → Int) (g : Pt × Int → W) : ∀ l : List (Pt × Int), wsum f (l.map g) = psum (fun x => f (g x)) l
  | [] => rfl
  | x :: r => by simp only [List.map_cons, wsum, psum, wsum_map f g r]
theorem psum_filter (f : Pt × Int → Int) (h : ∀ x : Pt × Int, x.2 = 0 → f x = 0) : ∀ l : List (Pt × Int), (∀ x ∈ l, 0 ≤ x.2) → psum f (l.filter fun x => decide (0 < x.2)) = psum f l
  | [], _ => rfl
  | x :: r, hl => by
    have ih := psum_filter f h r fun y hy => hl y (List.mem_cons_of_mem _ hy)
    by_cases k : 0 < x.2
    · rw [List.filter_cons_of_pos (by simpa using k)]
      simp only [psum, ih]
    · rw [List.filter_cons_of_neg (by simpa using k)]
      have := hl x (by simp)
      simp only [psum, ih, h x (by omega), Int.zero_add]
theorem psum_congr {f g : Pt × Int → Int} : ∀ {l : List (Pt × Int)}, (∀ x ∈ l, f x = g x) → psum f l = psum g l
  | [], _ => rfl
  | x :: r, h => by
    simp only [psum]
    rw [h x (by simp), psum_congr fun y hy => h y (List.mem_cons_of_mem _ hy)]
theorem idx_at {ps : List Pt} {q : Pt} (h : q ∈ ps) : ptAt ps (ps.idxOf q : Nat) = q := by
  have h1 := List.idxOf_lt_length_iff.mpr h
  unfold ptAt
  rw [show ((ps.idxOf q : Nat) : Int).toNat = ps.idxOf q by omega, List.getD_eq_getElem?_getD, List.getElem?_eq_getElem h1, List.getElem_idxOf h1]
  rfl
theorem weighed_ok {ps : List Pt} {parts : List (Pt × Int)} {whole X Y B : Int} (h : InH ps X Y B parts) (hw : psum (·.2) parts = whole) (h3 : parts.length ≤ 3) (nd : (parts.map (·.1)).Nodup) : WOk ps (weighed ps parts whole) X Y B := by
  have hpos : 0 < whole := by rw [← hw]; exact h.pos
  obtain ⟨fl, hfl⟩ : ∃ fl, fl = parts.filter fun x => decide (0 < x.2) := ⟨_, rfl⟩
  obtain ⟨g, hg⟩ : ∃ g : Pt × Int → W, g = fun x => weightW (ps.idxOf x.1 : Nat) x.2 whole := ⟨_, rfl⟩
  have hperm : (weighed ps parts whole).Perm (fl.map g) := by
    rw [hfl, hg]; exact isort_perm
  have hflm : ∀ x ∈ fl, x.1 ∈ ps ∧ 0 < x.2 := fun x hx => by
    rw [hfl] at hx
    obtain ⟨a, b⟩ := List.mem_filter.mp hx
    exact ⟨(h.mem x a).1, by simpa using b⟩
  have hgx : ∀ x : Pt × Int, 0 < x.2 → ∃ a b, g x = (((ps.idxOf x.1 : Nat) : Int), a, b) ∧ 0 < b ∧ a * whole = x.2 * b ∧ Int.gcd a b = 1 ∧ 0 < a := fun x hx => by
    obtain ⟨a, b, e, h1, h2, h3, h4⟩ := weightW_ok (ps.idxOf x.1 : Nat) x.2 whole (by omega)
    rw [hg]
    exact ⟨a, b, e, h1, h2, h3, h4 (.inl ⟨hx, hpos⟩)⟩
  obtain ⟨m, hm⟩ : ∃ m : W → Int, m = fun u => u.2.1 * whole / u.2.2 := ⟨_, rfl⟩
  have hmg : ∀ x ∈ fl, m (g x) = x.2 := fun x hx => by
    obtain ⟨a, b, e, h1, h2, _⟩ := hgx x (hflm x hx).2
    rw [hm, e]
    show a * whole / b = x.2
    rw [h2]
    exact Int.mul_ediv_cancel _ (by omega)
  have flnd : (fl.map (·.1)).Nodup := by
    rw [hfl]
    exact List.Nodup.sublist (List.Sublist.map _ List.filter_sublist) nd
  refine wok_of ps _ whole X Y B m hpos ⟨?_, ?_⟩ ?_ (fun u hu => ?_) (fun u hu => ?_) ?_ ?_ ?_
  · rw [hperm.length_eq, List.length_map]
    obtain ⟨x, hx, hp⟩ := psum_some_pos h.pos
    have : x ∈ fl := by rw [hfl]; exact List.mem_filter.mpr ⟨hx, by simpa using hp⟩
    exact List.length_pos_of_mem this
  · rw [hperm.length_eq, List.length_map, hfl]
    exact Nat.le_trans (List.length_filter_le _ _) h3
  · have s := isort_sorted le3_tot le3_trans ((parts.filter fun x => decide (0 < x.2)).map fun x => weightW (ps.idxOf x.1 : Nat) x.2 whole)
    have nd1 : ((weighed ps parts whole).map (·.1)).Nodup := by
      refine (List.Perm.map _ hperm).nodup_iff.mpr ?_
      rw [List.map_map]
      have e : fl.map ((·.1) ∘ g) = fl.map fun x => ((ps.idxOf x.1 : Nat) : Int) := List.map_congr_left fun x hx => by
        obtain ⟨a, b, e, _⟩ := hgx x (hflm x hx).2
        show (g x).1 = _
        rw [e]
      rw [e, List.nodup_iff_pairwise_ne, List.pairwise_map]
      rw [List.nodup_iff_pairwise_ne, List.pairwise_map] at flnd
      refine List.Pairwise.imp_of_mem (fun {x y} hx hy hne e => hne ?_) flnd
      have e' : ps.idxOf x.1 = ps.idxOf y.1 := by omega
      rw [← idx_at (hflm x hx).1, ← idx_at (hflm y hy).1, e']
    rw [List.nodup_iff_pairwise_ne, List.pairwise_map] at nd1
    refine List.Pairwise.imp (fun {u v} hh => ?_) (List.Pairwise.and s nd1)
    obtain ⟨h1, h2⟩ := hh
    unfold le3 at h1
    simp only [decide_eq_true_eq] at h1
    have : u.1 ≠ v.1 := h2
    omega
  · obtain ⟨x, hx, e⟩ := List.mem_map.mp (hperm.mem_iff.mp hu)
    obtain ⟨a, b, e2, h1, h2, h3, h4⟩ := hgx x (hflm x hx).2
    rw [← e, e2]
    have := List.idxOf_lt_length_iff.mpr (hflm x hx).1
    exact ⟨by simp, by simp only; omega, h4, h1, h3⟩
  · obtain ⟨x, hx, e⟩ := List.mem_map.mp (hperm.mem_iff.mp hu)
    obtain ⟨a, b, e2, h1, h2, h3, h4⟩ := hgx x (hflm x hx).2
    rw [← e, hmg x hx, e2]
    exact h2
  · rw [wsum_perm hperm, wsum_map, psum_congr hmg, hfl, psum_filter (·.2) (fun x hx => hx) parts fun x hx => (h.mem x hx).2, hw]
  · rw [wsum_perm hperm, wsum_map]
    have e : psum (fun x => m (g x) * (ptAt ps (g x).1).1) fl = psum (fun x => x.2 * x.1.1) fl := psum_congr fun x hx => by
      obtain ⟨a, b, e2, _⟩ := hgx x (hflm x hx).2
      rw [hmg x hx, e2, idx_at (hflm x hx).1]
    rw [e, hfl, psum_filter (fun x => x.2 * x.1.1) (fun x hx => by rw [hx]; simp) parts fun x hx => (h.mem x hx).2, h.ex, hw]
  · rw [wsum_perm hperm, wsum_map]
    have e : psum (fun x => m (g x) * (ptAt ps (g x).1).2) fl = psum (fun x => x.2 * x.1.2) fl := psum_congr fun x hx => by
      obtain ⟨a, b, e2, _⟩ := hgx x (hflm x hx).2
      rw [hmg x hx, e2, idx_at (hflm x hx).1]
    rw [e, hfl, psum_filter (fun x => x.2 * x.1.2) (fun x hx => by rw [hx]; simp) parts fun x hx => (h.mem x hx).2, h.ey, hw]
end HP
/-! Within or shut out. -/
namespace HP
def segWhole (one other : Pt) : Int := if one.1 = other.1 then other.2 - one.2 else other.1 - one.1
def segPart (one other p : Pt) : Int := if one.1 = other.1 then p.2 - one.2 else p.1 - one.1
def segW (one other : Pt) : Int := if segWhole one other < 0 then 0 - segWhole one other else segWhole one other
def segQ (one other p : Pt) : Int := if segWhole one other < 0 then 0 - segPart one other p else segPart one other p
def onSegment (ps : List Pt) (one other p : Pt) : Option (List W) :=
  if turn one other p ≠ 0 then none
  else if segQ one other p < 0 ∨ segQ one other p > segW one other then none
  else some (weighed ps [(one, segW one other - segQ one other p), (other, segQ one other p)] (segW one other))
def min3 (a b c : Int) : Int := min a (min b c)
def inThree (ps : List Pt) (a b c p : Pt) : Option (List W) :=
  if turn b c p < 0 ∨ turn c a p < 0 ∨ turn a b p < 0 then none
  else some (weighed ps [(a, turn b c p), (b, turn c a p), (c, turn a b p)] (turn a b c))
def fanFind (ps : List Pt) (z p : Pt) : List Pt → Option (List W)
  | a :: b :: r => match inThree ps z a b p with
    | some w => some w
    | none => fanFind ps z p (b :: r)
  | _ => none
def within (ps : List Pt) (p : Pt) : Option (List W) :=
  match cornersOf ps with
  | [] => none
  | [z] => if z = p then some [((ps.idxOf p : Nat), 1, 1)] else none
  | [z, w] => onSegment ps z w p
  | z :: a :: b :: r => fanFind ps z p (a :: b :: r)
abbrev Line := Int × Int × Int
def lineThrough (a b : Pt) : Line := (a.2 - b.2, b.1 - a.1, 0 - (a.2 - b.2) * a.1 - (b.1 - a.1) * a.2)
def along (one other p : Pt) : Line :=
  let f := other.1 - one.1
  let s := other.2 - one.2
  if f * (p.1 - one.1) + s * (p.2 - one.2) > 0 then (0 - f, 0 - s, 0 - (0 - f) * other.1 - (0 - s) * other.2)
  else (f, s, 0 - f * one.1 - s * one.2)
def edgeFind (p : Pt) : List Pt → Option Line
  | a :: b :: r => if turn a b p < 0 then some (lineThrough a b) else edgeFind p (b :: r)
  | _ => none
def shutOut (ps : List Pt) (p : Pt) : Line :=
  match cornersOf ps with
  | [] => (0, 0, -1)
  | [z] => (z.1 - p.1, z.2 - p.2, 0 - (z.1 - p.1) * z.1 - (z.2 - p.2) * z.2)
  | z :: w :: r => match edgeFind p (z :: w :: r ++ [z]) with
    | some l => l
    | none => along z w p

theorem line_at (a b q : Pt) : at3 (lineThrough a b).1 (lineThrough a b).2.1 (lineThrough a b).2.2 q = turn a b q := by
  unfold at3 lineThrough turn; grind

theorem in_three_hull {S : List Pt} {a b c p : Pt} (ha : a ∈ S) (hb : b ∈ S) (hc : c ∈ S) (h : 0 < turn a b c) (h1 : 0 ≤ turn b c p) (h2 : 0 ≤ turn c a p) (h3 : 0 ≤ turn a b p) :
    InH S p.1 p.2 1 [(a, turn b c p), (b, turn c a p), (c, turn a b p)] ∧ psum (·.2) [(a, turn b c p), (b, turn c a p), (c, turn a b p)] = turn a b c := by
  have e : turn b c p + (turn c a p + (turn a b p + 0)) = turn a b c := by unfold turn; grind
  refine ⟨⟨?_, ?_, ?_, ?_⟩, e⟩
  · intro x hx
    simp only [List.mem_cons, List.not_mem_nil, or_false] at hx
    rcases hx with e | e | e <;> subst e
    · exact ⟨ha, h1⟩
    · exact ⟨hb, h2⟩
    · exact ⟨hc, h3⟩
  · simp only [psum]; omega
  · simp only [psum]; unfold turn; grind
  · simp only [psum]; unfold turn; grind
theorem turn_ne {a b c : Pt} (h : 0 < turn a b c) : a ≠ b ∧ a ≠ c ∧ b ≠ c := by
  refine ⟨?_, ?_, ?_⟩ <;> intro e <;> subst e
  · rw [turn_self1] at h; omega
  · rw [turn_self3] at h; omega
  · rw [turn_self2] at h; omega
theorem in_two_hull {S : List Pt} {a b p : Pt} {w q : Int} (ha : a ∈ S) (hb : b ∈ S) (hw : 0 < w) (h0 : 0 ≤ q) (h1 : q ≤ w) (hx : (b.1 - a.1) * q = (p.1 - a.1) * w) (hy : (b.2 - a.2) * q = (p.2 - a.2) * w) :
    InH S p.1 p.2 1 [(a, w - q), (b, q)] ∧ psum (·.2) [(a, w - q), (b, q)] = w := by
  refine ⟨⟨?_, ?_, ?_, ?_⟩, ?_⟩
  · intro x hx
    simp only [List.mem_cons, List.not_mem_nil, or_false] at hx
    rcases hx with e | e <;> subst e
    · exact ⟨ha, by simp only; omega⟩
    · exact ⟨hb, h0⟩
  · simp only [psum]; omega
  · simp only [psum]; grind
  · simp only [psum]; grind
  · simp only [psum]; omega

/-- what within gives is a weighing of corners -/
theorem fan_some {ps S : List Pt} {z p : Pt} (hz : z ∈ S) (hS : ∀ x ∈ S, x ∈ ps) : ∀ {r : List Pt} {ws : List W}, (∀ x ∈ r, x ∈ S) → Adj (fun a b => 0 < turn z a b) r → fanFind ps z p r = some ws → WOk ps ws p.1 p.2 1 ∧ InHull S p.1 p.2 1
  | [], ws, _, _, e => by cases e
  | [_], ws, _, _, e => by cases e
  | a :: b :: r, ws, hr, hf, e => by
    unfold fanFind at e
    split at e
    · rename_i w hw
      cases e
      unfold inThree at hw
      split at hw
      · cases hw
      · rename_i hc
        cases hw
        have ha := hr a (by simp)
        have hb := hr b (by simp)
        obtain ⟨h1, h2⟩ := in_three_hull (S := S) (p := p) hz ha hb hf.1 (by omega) (by omega) (by omega)
        obtain ⟨n1, n2, n3⟩ := turn_ne hf.1
        exact ⟨weighed_ok (h1.sub hS) h2 (by simp) (by simp [n1, n2, n3]), ⟨_, h1⟩⟩
    · exact fan_some hz hS (fun x hx => hr x (List.mem_cons_of_mem _ hx)) hf.2 e
theorem seg_pos {a b : Pt} (hab : a ≠ b) : 0 < segW a b := by
  unfold segW segWhole
  by_cases h1 : a.1 = b.1
  · have h2 : a.2 ≠ b.2 := fun h2 => hab (Prod.ext h1 h2)
    rw [if_pos h1]; split <;> omega
  · rw [if_neg h1]; split <;> omega
theorem seg_x {a b p : Pt} (hab : a ≠ b) (ht : turn a b p = 0) : (b.1 - a.1) * segQ a b p = (p.1 - a.1) * segW a b := by
  unfold turn at ht
  unfold segQ segW segPart segWhole
  by_cases h1 : a.1 = b.1
  · have h2 : b.2 - a.2 ≠ 0 := fun h2 => hab (Prod.ext h1 (by omega))
    have z : (p.1 - a.1) * (b.2 - a.2) = 0 := by rw [h1] at ht ⊢; grind
    have z3 : p.1 - a.1 = 0 := by rcases Int.mul_eq_zero.mp z with h | h <;> omega
    rw [z3, show b.1 - a.1 = 0 by omega]; simp
  · rw [if_neg h1, if_neg h1]
    split <;> grind
theorem seg_y {a b p : Pt} (ht : turn a b p = 0) : (b.2 - a.2) * segQ a b p = (p.2 - a.2) * segW a b := by
  unfold turn at ht
  unfold segQ segW segPart segWhole
  by_cases h1 : a.1 = b.1
  · rw [if_pos h1, if_pos h1]
    split <;> grind
  · rw [if_neg h1, if_neg h1]
    split <;> grind
theorem seg_some {ps S : List Pt} {a b p : Pt} (ha : a ∈ S) (hb : b ∈ S) (hS : ∀ x ∈ S, x ∈ ps) (hab : a ≠ b) {ws : List W} (e : onSegment ps a b p = some ws) : WOk ps ws p.1 p.2 1 ∧ InHull S p.1 p.2 1 := by
  unfold onSegment at e
  split at e
  · cases e
  · rename_i ht
    have ht' : turn a b p = 0 := by omega
    split at e
    · cases e
    · rename_i hq
      cases e
      obtain ⟨k1, k2⟩ := in_two_hull (S := S) (p := p) ha hb (seg_pos hab) (by omega) (by omega) (seg_x hab ht') (seg_y ht')
      exact ⟨weighed_ok (k1.sub hS) k2 (by simp) (by simp [hab]), ⟨_, k1⟩⟩
theorem within_some {ps : List Pt} {p : Pt} {ws : List W} (e : within ps p = some ws) : WOk ps ws p.1 p.2 1 ∧ InHull (cornersOf ps) p.1 p.2 1 := by
  have R := rim_ok ps
  unfold within at e
  split at e
  · cases e
  · rename_i z hr
    rw [hr] at R
    split at e
    · rename_i hz
      subst hz
      cases e
      have hm : z ∈ ps := R.sub z (by simp)
      have hi := List.idxOf_lt_length_iff.mpr hm
      refine ⟨⟨by simp, by simp, fun u hu => ?_, fun s hs => ?_⟩, InHull.of_mem (by rw [hr]; simp)⟩
      · simp at hu
        subst hu
        exact ⟨by simp, by simp only; omega, by simp, by simp, by simp⟩
      · simp only [List.foldl, wstep] at hs
        rw [idx_at hm] at hs
        subst hs
        simp
    · cases e
  · rename_i z w hr
    rw [hr] at R ⊢
    have hzw := (R.two z w rfl).1
    exact seg_some (by simp) (by simp) R.sub (fun h => by rw [h] at hzw; exact lt_irrefl _ hzw) e
  · rename_i z a b r hr
    rw [hr] at R ⊢
    exact fan_some (by simp) R.sub (fun x hx => List.mem_cons_of_mem _ hx) (R.fan _ _ rfl) e

/-- no edge turns away and no triangle of the fan holds the point: it can't be -/
theorem edge_none {p : Pt} : ∀ {l : List Pt}, edgeFind p l = none → Adj (fun a b => 0 ≤ turn a b p) l
  | [], _ => trivial
  | [_], _ => trivial
  | a :: b :: r, h => by
    unfold edgeFind at h
    split at h
    · cases h
    · exact ⟨by omega, edge_none h⟩
theorem edge_some {p : Pt} : ∀ {l : List Pt} {L : Line} {R : Pt → Pt → Prop}, Adj R l → edgeFind p l = some L → ∃ a b, R a b ∧ turn a b p < 0 ∧ L = lineThrough a b
  | [], _, _, _, h => by cases h
  | [_], _, _, _, h => by cases h
  | a :: b :: r, L, R, hR, h => by
    unfold edgeFind at h
    split at h
    · rename_i k
      cases h
      exact ⟨a, b, hR.1, k, rfl⟩
    · exact edge_some hR.2 h
theorem fan_none {ps : List Pt} {z p : Pt} : ∀ (a b : Pt) (r : List Pt), Adj (fun a b => 0 ≤ turn a b p) (a :: b :: r) → 0 ≤ turn z a p → (∀ x, (a :: b :: r).getLast? = some x → turn z x p ≤ 0) → fanFind ps z p (a :: b :: r) ≠ none
  | a, b, r, hA, ha, hl => by
    intro h
    unfold fanFind at h
    split at h
    · cases h
    · rename_i hn
      unfold inThree at hn
      split at hn
      · rename_i hc
        have h1 : 0 ≤ turn a b p := hA.1
        have e2 : turn b z p = - turn z b p := turn_swap _ _ _
        have hb : 0 < turn z b p := by
          rcases hc with h | h | h <;> omega
        cases r with
        | nil =>
          have := hl b (by simp)
          omega
        | cons c r =>
          exact fan_none b c r hA.2 (Int.le_of_lt hb) (fun x hx => hl x (by rw [List.getLast?_cons_cons]; exact hx)) h
      · cases hn
theorem dir_mem {z w q : Pt} (h1 : turn z w q = 0) (h2 : q = z ∨ lt z q) (hzw : lt z w) : 0 ≤ (w.1 - z.1) * (q.1 - z.1) + (w.2 - z.2) * (q.2 - z.2) := by
  rcases h2 with e | h2
  · subst e; simp
  · unfold lt at *
    unfold turn at h1
    rcases hzw with k | ⟨k, k2⟩
    · have hx : 0 ≤ q.1 - z.1 := by omega
      refine nonneg_of_mul (u := w.1 - z.1) (by omega) ?_
      have e : (w.1 - z.1) * ((w.1 - z.1) * (q.1 - z.1) + (w.2 - z.2) * (q.2 - z.2)) = ((w.1 - z.1) * (w.1 - z.1) + (w.2 - z.2) * (w.2 - z.2)) * (q.1 - z.1) := by grind
      rw [e]
      refine Int.mul_nonneg (Int.add_nonneg ?_ ?_) hx
      · exact Int.mul_nonneg (by omega) (by omega)
      · rcases Int.le_total 0 (w.2 - z.2) with t | t
        · exact Int.mul_nonneg t t
        · exact Int.mul_nonneg_of_nonpos_of_nonpos t t
    · have hx : (w.2 - z.2) * (q.1 - z.1) = 0 := by rw [show w.1 - z.1 = 0 by omega] at h1; grind
      have hx' : q.1 - z.1 = 0 := by rcases Int.mul_eq_zero.mp hx with t | t <;> omega
      rw [hx']
      have := Int.mul_nonneg (show 0 ≤ w.2 - z.2 by omega) (show 0 ≤ q.2 - z.2 by omega)
      omega
theorem sq_pos {x y : Int} (h : x ≠ 0 ∨ y ≠ 0) : 0 < x * x + y * y := by
  have hx : 0 ≤ x * x := by
    rcases Int.le_total 0 x with t | t
    · exact Int.mul_nonneg t t
    · exact Int.mul_nonneg_of_nonpos_of_nonpos t t
  have hy : 0 ≤ y * y := by
    rcases Int.le_total 0 y with t | t
    · exact Int.mul_nonneg t t
    · exact Int.mul_nonneg_of_nonpos_of_nonpos t t
  have hx0 : x * x = 0 → x = 0 := fun e => by rcases Int.mul_eq_zero.mp e with t | t <;> exact t
  have hy0 : y * y = 0 → y = 0 := fun e => by rcases Int.mul_eq_zero.mp e with t | t <;> exact t
  omega
theorem within_none {ps : List Pt} {p : Pt} (e : within ps p = none) : (∀ q ∈ ps, 0 ≤ at3 (shutOut ps p).1 (shutOut ps p).2.1 (shutOut ps p).2.2 q) ∧ at3 (shutOut ps p).1 (shutOut ps p).2.1 (shutOut ps p).2.2 p < 0 := by
  have R := rim_ok ps
  unfold within at e
  unfold shutOut
  split at e
  · rename_i hr
    rw [hr] at R ⊢
    have hp : ps = [] := by
      cases ps with
      | nil => rfl
      | cons a r => exact absurd rfl (R.nil (by simp))
    subst hp
    exact ⟨by simp, by unfold at3; simp⟩
  · rename_i z hr
    rw [hr] at R ⊢
    split at e
    · cases e
    · rename_i hz
      simp only
      refine ⟨fun q hq => ?_, ?_⟩
      · rw [R.one z rfl q hq]; unfold at3; grind
      · have hne : z.1 - p.1 ≠ 0 ∨ z.2 - p.2 ≠ 0 := by
          by_cases h : z.1 = p.1
          · right
            intro h2
            exact hz (Prod.ext h (by omega))
          · left; omega
        have := sq_pos hne
        unfold at3; grind
  · rename_i z w hr
    rw [hr] at R ⊢
    simp only
    have hc := R.edge z w [] rfl
    obtain ⟨hzw, hmax⟩ := R.two z w rfl
    have hmin := R.least z [w] rfl
    have hcol : ∀ q ∈ ps, turn z w q = 0 := fun q hq => by
      have h1 := hc.1 q hq
      have h2 := hc.2.1 q hq
      have e : turn w z q = - turn z w q := turn_swap _ _ _
      omega
    split
    · rename_i l hl
      obtain ⟨a, b, hR, hneg, rfl⟩ := edge_some hc hl
      refine ⟨fun q hq => ?_, ?_⟩
      · rw [line_at]; exact hR q hq
      · rw [line_at]; exact hneg
    · rename_i hl
      have hen := edge_none hl
      have t0 : turn z w p = 0 := by
        have h1 := hen.1
        have h2 := hen.2.1
        have e : turn w z p = - turn z w p := turn_swap _ _ _
        omega
      -- p lies on the way, but beyond an end
      have hne : z ≠ w := fun h => by rw [h] at hzw; exact lt_irrefl _ hzw
      unfold onSegment at e
      rw [if_neg (by omega)] at e
      split at e
      · rename_i hq
        have hq : (z.1 = w.1 ∧ (p.2 - z.2 < 0 ∨ p.2 - z.2 > w.2 - z.2)) ∨ (z.1 < w.1 ∧ (p.1 - z.1 < 0 ∨ p.1 - z.1 > w.1 - z.1)) := by
          unfold segQ segW segPart segWhole at hq
          unfold lt at hzw
          by_cases hx : z.1 = w.1
          · rw [if_pos hx, if_pos hx, if_neg (by omega), if_neg (by omega)] at hq
            exact .inl ⟨hx, hq⟩
          · rw [if_neg hx, if_neg hx, if_neg (by omega), if_neg (by omega)] at hq
            exact .inr ⟨by omega, hq⟩
        unfold along
        simp only
        have hd : w.1 - z.1 ≠ 0 ∨ w.2 - z.2 ≠ 0 := by
          by_cases h : w.1 = z.1
          · right; intro h2; exact hne (Prod.ext h.symm (by omega))
          · left; omega
        have hsq := sq_pos hd
        have p0 : (w.1 - z.1) * (p.2 - z.2) - (w.2 - z.2) * (p.1 - z.1) = 0 := t0
        split
        · rename_i hdot
          -- beyond w
          refine ⟨fun q hq => ?_, ?_⟩
          · have t1 : turn w z q = 0 := by have e : turn w z q = - turn z w q := turn_swap _ _ _; have := hcol q hq; omega
            have h1 := hmax q hq
            have k : 0 ≤ (neg z).1 - (neg w).1 ∨ True := .inr trivial
            have g := dir_mem (z := neg w) (w := neg z) (q := neg q) (by rw [turn_neg]; exact t1) (by
              rcases h1 with e | h1
              · left; rw [e]
              · right; exact lt_neg h1) (lt_neg hzw)
            unfold neg at g
            unfold at3
            simp only at g
            grind
          · unfold at3
            simp only
            -- d . (p - w) > 0
            have key : 0 < (w.1 - z.1) * (p.1 - w.1) + (w.2 - z.2) * (p.2 - w.2) := by
              unfold lt at hzw
              rcases hq with ⟨hx, hq⟩ | ⟨hx, hq⟩
              · have d0 : w.1 - z.1 = 0 := by omega
                have dy : 0 < w.2 - z.2 := by omega
                rw [d0] at hdot p0 ⊢
                have h2 : 0 < p.2 - z.2 := pos_of_mul dy (by grind)
                have := Int.mul_pos dy (show 0 < p.2 - w.2 by omega)
                grind
              · have dx : 0 < w.1 - z.1 := by omega
                have e : (w.1 - z.1) * ((w.1 - z.1) * (p.1 - z.1) + (w.2 - z.2) * (p.2 - z.2)) = ((w.1 - z.1) * (w.1 - z.1) + (w.2 - z.2) * (w.2 - z.2)) * (p.1 - z.1) := by grind
                have h1 := Int.mul_pos dx hdot
                rw [e] at h1
                have h2 : 0 < p.1 - z.1 := pos_of_mul hsq h1
                have h3 : 0 < p.1 - w.1 := by omega
                refine pos_of_mul dx ?_
                have e2 : (w.1 - z.1) * ((w.1 - z.1) * (p.1 - w.1) + (w.2 - z.2) * (p.2 - w.2)) = ((w.1 - z.1) * (w.1 - z.1) + (w.2 - z.2) * (w.2 - z.2)) * (p.1 - w.1) := by grind
                rw [e2]
                exact Int.mul_pos hsq h3
            grind
        · rename_i hdot
          refine ⟨fun q hq => ?_, ?_⟩
          · have g := dir_mem (hcol q hq) (hmin q hq) hzw
            unfold at3
            simp only
            grind
          · unfold at3
            simp only
            have key : (w.1 - z.1) * (p.1 - z.1) + (w.2 - z.2) * (p.2 - z.2) ≠ 0 := by
              intro h0
              have x0 : ((w.1 - z.1) * (w.1 - z.1) + (w.2 - z.2) * (w.2 - z.2)) * (p.1 - z.1) = 0 := by grind
              have y0 : ((w.1 - z.1) * (w.1 - z.1) + (w.2 - z.2) * (w.2 - z.2)) * (p.2 - z.2) = 0 := by grind
              have x1 : p.1 - z.1 = 0 := by rcases Int.mul_eq_zero.mp x0 with t | t <;> omega
              have y1 : p.2 - z.2 = 0 := by rcases Int.mul_eq_zero.mp y0 with t | t <;> omega
              unfold lt at hzw
              omega
            grind
      · cases e
  · rename_i z a b r hr
    rw [hr] at R ⊢
    simp only
    have hc := R.edge z a (b :: r) rfl
    split
    · rename_i l hl
      obtain ⟨x, y, hR, hneg, rfl⟩ := edge_some hc hl
      refine ⟨fun q hq => ?_, ?_⟩
      · rw [line_at]; exact hR q hq
      · rw [line_at]; exact hneg
    · rename_i hl
      exfalso
      have hen := edge_none hl
      refine fan_none a b r (Adj.left (m := [z]) hen.2) hen.1 (fun x hx => ?_) e
      obtain ⟨ys, ey⟩ := List.getLast?_eq_some_iff.mp hx
      have h2 : Adj (fun a b => 0 ≤ turn a b p) (ys ++ x :: [z]) := by
        have e3 : (a :: b :: r) ++ [z] = ys ++ x :: [z] := by
          rw [ey]; simp
        rw [← e3]; exact hen.2
      have h3 := (Adj.right h2).1
      have e4 : turn x z p = - turn z x p := turn_swap _ _ _
      omega
theorem within_iff (ps : List Pt) (p : Pt) : within ps p = none ↔ Sep ps p := by
  constructor
  · intro h
    obtain ⟨h1, h2⟩ := within_none h
    exact ⟨_, _, _, h1, h2⟩
  · intro h
    cases e : within ps p with
    | none => rfl
    | some ws => exact absurd h ((within_some e).2.sub (rim_ok ps).sub).not_sep
theorem inHull_iff (ps : List Pt) (p : Pt) : InHull ps p.1 p.2 1 ↔ ¬ Sep ps p := by
  constructor
  · exact InHull.not_sep
  · intro h
    cases e : within ps p with
    | none => exact absurd ((within_iff ps p).mp e) h
    | some ws => exact (within_some e).2.sub (rim_ok ps).sub
end HP
/-! Within, gone through: in one, two, three of the points. -/
namespace HP
def inTwoL (a b p : Pt) : Bool := decide (turn a b p = 0 ∧ min a.1 b.1 ≤ p.1 ∧ p.1 ≤ max a.1 b.1 ∧ min a.2 b.2 ≤ p.2 ∧ p.2 ≤ max a.2 b.2)
def inThreeL (a b c p : Pt) : Bool := decide (turn a b c ≠ 0 ∧ ((0 ≤ turn a b p ∧ 0 ≤ turn b c p ∧ 0 ≤ turn c a p) ∨ (turn a b p ≤ 0 ∧ turn b c p ≤ 0 ∧ turn c a p ≤ 0)))
def atN (ps : List Pt) (k : Nat) : Pt := ps.getD k (0, 0)
def lawIn (ps : List Pt) (p : Pt) : Bool := (List.range ps.length).any fun a => decide (atN ps a = p) || (List.range a).any fun b => inTwoL (atN ps a) (atN ps b) p || (List.range b).any fun c => inThreeL (atN ps a) (atN ps b) (atN ps c) p
theorem inTwoL_comm {a b p : Pt} (h : inTwoL a b p = true) : inTwoL b a p = true := by
  unfold inTwoL at *
  simp only [decide_eq_true_eq] at *
  have := turn_swap a b p
  omega
theorem inThreeL_swap {a b c p : Pt} (h : inThreeL a b c p = true) : inThreeL b a c p = true := by
  unfold inThreeL at *
  simp only [decide_eq_true_eq] at *
  have h1 := turn_swap a b p
  have h2 := turn_swap b c p
  have h3 := turn_swap c a p
  have h4 : turn b a c = - turn a b c := by unfold turn; grind
  omega
theorem inThreeL_rot {a b c p : Pt} (h : inThreeL a b c p = true) : inThreeL b c a p = true := by
  unfold inThreeL at *
  simp only [decide_eq_true_eq] at *
  have h4 := turn_rot a b c
  omega
theorem atN_mem {ps : List Pt} {k : Nat} (h : k < ps.length) : atN ps k ∈ ps := by
  unfold atN
  rw [List.getD_eq_getElem?_getD, List.getElem?_eq_getElem h]
  exact List.getElem_mem h
theorem atN_of {ps : List Pt} {p : Pt} (h : p ∈ ps) : ∃ k, k < ps.length ∧ atN ps k = p := by
  obtain ⟨k, hk, e⟩ := List.getElem_of_mem h
  refine ⟨k, hk, ?_⟩
  unfold atN
  rw [List.getD_eq_getElem?_getD, List.getElem?_eq_getElem hk]
  exact e
theorem inTwoL_hull {S : List Pt} {a b p : Pt} (ha : a ∈ S) (hb : b ∈ S) (h : inTwoL a b p = true) : InHull S p.1 p.2 1 := by
  unfold inTwoL at h
  simp only [decide_eq_true_eq] at h
  obtain ⟨ht, h1, h2, h3, h4⟩ := h
  by_cases hab : a = b
  · subst hab
    have : p = a := Prod.ext (by omega) (by omega)
    rw [this]
    exact InHull.of_mem ha
  · refine ⟨_, (in_two_hull (S := S) (p := p) ha hb (seg_pos hab) ?_ ?_ (seg_x hab ht) (seg_y ht)).1⟩
    · unfold segQ segPart segWhole
      split <;> split <;> omega
    · unfold segQ segW segPart segWhole
      split <;> split <;> omega
theorem inThreeL_hull {S : List Pt} {a b c p : Pt} (ha : a ∈ S) (hb : b ∈ S) (hc : c ∈ S) (h : inThreeL a b c p = true) : InHull S p.1 p.2 1 := by
  unfold inThreeL at h
  simp only [decide_eq_true_eq] at h
  obtain ⟨hn, h⟩ := h
  have e : turn b c p + turn c a p + turn a b p = turn a b c := by unfold turn; grind
  rcases h with ⟨h1, h2, h3⟩ | ⟨h1, h2, h3⟩
  · exact ⟨_, (in_three_hull (S := S) ha hb hc (by omega) h2 h3 h1).1⟩
  · have k1 := turn_swap a b p
    have k2 := turn_swap b c p
    have k3 := turn_swap c a p
    have k4 : turn b a c = - turn a b c := by unfold turn; grind
    exact ⟨_, (in_three_hull (S := S) (a := b) (b := a) (c := c) hb ha hc (by omega) (by omega) (by omega) (by omega)).1⟩
theorem lawIn_sound {ps : List Pt} {p : Pt} (h : lawIn ps p = true) : InHull ps p.1 p.2 1 := by
  unfold lawIn at h
  simp only [List.any_eq_true, List.mem_range, Bool.or_eq_true, decide_eq_true_eq] at h
  obtain ⟨a, ha, h | ⟨b, hb, h | ⟨c, hc, h⟩⟩⟩ := h
  · rw [← h]; exact InHull.of_mem (atN_mem ha)
  · exact inTwoL_hull (atN_mem ha) (atN_mem (by omega)) h
  · exact inThreeL_hull (atN_mem ha) (atN_mem (by omega)) (atN_mem (by omega)) h
theorem lawIn_one {ps : List Pt} {p : Pt} {i : Nat} (hi : i < ps.length) (h : atN ps i = p) : lawIn ps p = true := by
  unfold lawIn
  simp only [List.any_eq_true, List.mem_range, Bool.or_eq_true, decide_eq_true_eq]
  exact ⟨i, hi, .inl h⟩
theorem lawIn_two' {ps : List Pt} {p : Pt} {i j : Nat} (hi : i < ps.length) (hj : j < i) (h : inTwoL (atN ps i) (atN ps j) p = true) : lawIn ps p = true := by
  unfold lawIn
  simp only [List.any_eq_true, List.mem_range, Bool.or_eq_true, decide_eq_true_eq]
  exact ⟨i, hi, .inr ⟨j, hj, .inl h⟩⟩
theorem lawIn_three' {ps : List Pt} {p : Pt} {i j k : Nat} (hi : i < ps.length) (hj : j < i) (hk : k < j) (h : inThreeL (atN ps i) (atN ps j) (atN ps k) p = true) : lawIn ps p = true := by
  unfold lawIn
  simp only [List.any_eq_true, List.mem_range, Bool.or_eq_true, decide_eq_true_eq]
  exact ⟨i, hi, .inr ⟨j, hj, .inr ⟨k, hk, h⟩⟩⟩
theorem lawIn_two {ps : List Pt} {a b p : Pt} (ha : a ∈ ps) (hb : b ∈ ps) (hab : a ≠ b) (h : inTwoL a b p = true) : lawIn ps p = true := by
  obtain ⟨i, hi, rfl⟩ := atN_of ha
  obtain ⟨j, hj, rfl⟩ := atN_of hb
  rcases Nat.lt_trichotomy j i with k | k | k
  · exact lawIn_two' hi k h
  · subst k; exact absurd rfl hab
  · exact lawIn_two' hj k (inTwoL_comm h)
theorem lawIn_three {ps : List Pt} {a b c p : Pt} (ha : a ∈ ps) (hb : b ∈ ps) (hc : c ∈ ps) (hab : a ≠ b) (hac : a ≠ c) (hbc : b ≠ c) (h : inThreeL a b c p = true) : lawIn ps p = true := by
  obtain ⟨i, hi, rfl⟩ := atN_of ha
  obtain ⟨j, hj, rfl⟩ := atN_of hb
  obtain ⟨k, hk, rfl⟩ := atN_of hc
  have h1 := inThreeL_swap h
  have h2 := inThreeL_rot h
  have h3 := inThreeL_rot h2
  have h4 := inThreeL_rot h1
  have h5 := inThreeL_rot h4
  rcases Nat.lt_trichotomy j i with a1 | a1 | a1
  · rcases Nat.lt_trichotomy k j with a2 | a2 | a2
    · exact lawIn_three' hi a1 a2 h
    · subst a2; exact absurd rfl hbc
    · rcases Nat.lt_trichotomy k i with a3 | a3 | a3
      · exact lawIn_three' hi a3 a2 h4
      · subst a3; exact absurd rfl hac
      · exact lawIn_three' hk a3 a1 h3
  · subst a1; exact absurd rfl hab
  · rcases Nat.lt_trichotomy k i with a2 | a2 | a2
    · exact lawIn_three' hj a1 a2 h1
    · subst a2; exact absurd rfl hac
    · rcases Nat.lt_trichotomy k j with a3 | a3 | a3
      · exact lawIn_three' hj a3 a2 h2
      · subst a3; exact absurd rfl hbc
      · exact lawIn_three' hk a3 a1 h5
theorem fan_law {ps S : List Pt} {z p : Pt} (hz : z ∈ S) (hS : ∀ x ∈ S, x ∈ ps) : ∀ {r : List Pt} {ws : List W}, (∀ x ∈ r, x ∈ S) → Adj (fun a b => 0 < turn z a b) r → fanFind ps z p r = some ws → lawIn ps p = true
  | [], ws, _, _, e => by cases e
  | [_], ws, _, _, e => by cases e
  | a :: b :: r, ws, hr, hf, e => by
    unfold fanFind at e
    split at e
    · rename_i w hw
      unfold inThree at hw
      split at hw
      · cases hw
      · rename_i hc
        obtain ⟨n1, n2, n3⟩ := turn_ne hf.1
        refine lawIn_three (hS z hz) (hS a (hr a (by simp))) (hS b (hr b (by simp))) n1 n2 n3 ?_
        unfold inThreeL
        have := hf.1
        simp only [decide_eq_true_eq]
        omega
    · exact fan_law hz hS (fun x hx => hr x (List.mem_cons_of_mem _ hx)) hf.2 e
theorem lawIn_complete {ps : List Pt} {p : Pt} (h : ¬ Sep ps p) : lawIn ps p = true := by
  have R := rim_ok ps
  cases e : within ps p with
  | none => exact absurd ((within_iff ps p).mp e) h
  | some ws =>
    unfold within at e
    split at e
    · cases e
    · rename_i z hz
      split at e
      · rename_i hzp
        obtain ⟨i, hi, h1⟩ := atN_of (R.sub z (by rw [hz]; simp))
        exact lawIn_one hi (h1.trans hzp)
      · cases e
    · rename_i z w hz
      have hab : z ≠ w := by
        have := R.nodup
        rw [hz] at this
        simp at this
        exact this
      refine lawIn_two (R.sub z (by rw [hz]; simp)) (R.sub w (by rw [hz]; simp)) hab ?_
      unfold onSegment at e
      split at e
      · cases e
      · rename_i ht
        have ht' : turn z w p = 0 := by omega
        split at e
        · cases e
        · rename_i hq
          have h1 := seg_x hab ht'
          have h2 := seg_y (a := z) (b := w) (p := p) ht'
          have hp := seg_pos hab
          have q0 : 0 ≤ segQ z w p := by omega
          have q1 : segQ z w p ≤ segW z w := by omega
          -- a place between two places
          have key : ∀ a b c : Int, (b - a) * segQ z w p = (c - a) * segW z w → min a b ≤ c ∧ c ≤ max a b := by
            intro a b c he
            generalize segQ z w p = q at *
            generalize segW z w = v at *
            rcases Int.le_total a b with k | k
            · have p1 : 0 ≤ (b - a) * q := Int.mul_nonneg (by omega) q0
              have p2 : 0 ≤ (b - a) * (v - q) := Int.mul_nonneg (by omega) (by omega)
              have p3 : 0 ≤ v * (c - a) := by grind
              have p4 : 0 ≤ v * (b - c) := by grind
              have := nonneg_of_mul hp p3
              have := nonneg_of_mul hp p4
              omega
            · have p1 : 0 ≤ (a - b) * q := Int.mul_nonneg (by omega) q0
              have p2 : 0 ≤ (a - b) * (v - q) := Int.mul_nonneg (by omega) (by omega)
              have p3 : 0 ≤ v * (a - c) := by grind
              have p4 : 0 ≤ v * (c - b) := by grind
              have := nonneg_of_mul hp p3
              have := nonneg_of_mul hp p4
              omega
          obtain ⟨k1, k2⟩ := key _ _ _ h1
          obtain ⟨k3, k4⟩ := key _ _ _ h2
          unfold inTwoL
          simp only [decide_eq_true_eq]
          exact ⟨ht', k1, k2, k3, k4⟩
    · rename_i z a b r hz
      have hS : ∀ x ∈ cornersOf ps, x ∈ ps := R.sub
      exact fan_law (S := cornersOf ps) (by rw [hz]; simp) hS (fun x hx => by rw [hz]; exact List.mem_cons_of_mem _ hx) (R.fan z _ hz) e
theorem lawIn_iff (ps : List Pt) (p : Pt) : lawIn ps p = true ↔ ¬ Sep ps p :=
  ⟨fun h => (inHull_iff ps p).mp (lawIn_sound h), lawIn_complete⟩
/-- the corners are just the points apart from the others -/
theorem corner_iff (ps : List Pt) (x : Pt) : x ∈ cornersOf ps ↔ x ∈ ps ∧ Sep (ps.filter (· ≠ x)) x := by
  have R := rim_ok ps
  constructor
  · intro h
    exact ⟨R.sub x h, R.ext x h⟩
  · rintro ⟨h1, h2⟩
    apply Classical.byContradiction
    intro hn
    have h3 : ¬ Sep ps x := InHull.not_sep (InHull.of_mem h1)
    cases e : within ps x with
    | none => exact absurd ((within_iff ps x).mp e) h3
    | some ws =>
      refine ((within_some e).2.sub fun q hq => ?_).not_sep h2
      rw [List.mem_filter]
      refine ⟨R.sub q hq, ?_⟩
      simp only [ne_eq, decide_not, Bool.not_eq_eq_eq_not, Bool.not_true, decide_eq_false_iff_not]
      intro k
      subst k
      exact hn hq
/-- what the law holds to be due -/
def dueStep (ps : List Pt) (d : List Pt) (p : Pt) : List Pt := if p ∉ d ∧ lawIn (ps.filter (· ≠ p)) p = false then d ++ [p] else d
def due (ps : List Pt) : List Pt := ps.foldl (dueStep ps) []
theorem due_aux (ps : List Pt) : ∀ (l d : List Pt), d.Nodup → (l.foldl (dueStep ps) d).Nodup ∧ ∀ x, x ∈ l.foldl (dueStep ps) d ↔ x ∈ d ∨ (x ∈ l ∧ lawIn (ps.filter (· ≠ x)) x = false)
  | [], d, h => ⟨h, fun x => by simp⟩
  | p :: l, d, h => by
    rw [List.foldl_cons]
    unfold dueStep
    by_cases c : p ∉ d ∧ lawIn (ps.filter (· ≠ p)) p = false
    · rw [if_pos c]
      obtain ⟨h1, h2⟩ := due_aux ps l (d ++ [p]) (by
        rw [List.nodup_append]
        refine ⟨h, by simp, ?_⟩
        intro a ha b hb
        simp at hb
        subst hb
        intro k
        subst k
        exact c.1 ha)
      refine ⟨h1, fun x => ?_⟩
      have := h2 x
      unfold dueStep at this
      rw [this]
      simp only [List.mem_append, List.mem_cons, List.not_mem_nil, or_false]
      constructor
      · rintro ((k | k) | k)
        · exact .inl k
        · subst k; exact .inr ⟨.inl rfl, c.2⟩
        · exact .inr ⟨.inr k.1, k.2⟩
      · rintro (k | ⟨k | k, k2⟩)
        · exact .inl (.inl k)
        · exact .inl (.inr k)
        · exact .inr ⟨k, k2⟩
    · rw [if_neg c]
      obtain ⟨h1, h2⟩ := due_aux ps l d h
      refine ⟨h1, fun x => ?_⟩
      have := h2 x
      unfold dueStep at this
      rw [this]
      simp only [List.mem_cons]
      constructor
      · rintro (k | k)
        · exact .inl k
        · exact .inr ⟨.inr k.1, k.2⟩
      · rintro (k | ⟨k | k, k2⟩)
        · exact .inl k
        · subst k
          by_cases m : x ∈ d
          · exact .inl m
          · exact absurd ⟨m, k2⟩ c
        · exact .inr ⟨k, k2⟩
theorem due_nodup (ps : List Pt) : (due ps).Nodup := (due_aux ps ps [] List.nodup_nil).1
theorem mem_due (ps : List Pt) (x : Pt) : x ∈ due ps ↔ x ∈ cornersOf ps := by
  have h := (due_aux ps ps [] List.nodup_nil).2 x
  unfold due
  rw [h, corner_iff]
  have e : lawIn (ps.filter (· ≠ x)) x = false ↔ Sep (ps.filter (· ≠ x)) x := by
    have := lawIn_iff (ps.filter (· ≠ x)) x
    constructor
    · intro k
      apply Classical.byContradiction
      intro n
      rw [this.mpr n] at k
      cases k
    · intro k
      cases m : lawIn (ps.filter (· ≠ x)) x with
      | false => rfl
      | true => exact absurd k (this.mp m)
  rw [e]
  simp
theorem srt_eq_of {l m : List Pt} (h : ∀ x, x ∈ l ↔ x ∈ m) : srt l = srt m :=
  sorted_unique (srt_sorted l) (srt_sorted m) fun x => by rw [mem_srt, mem_srt]; exact h x
theorem srt_due (ps : List Pt) : srt (due ps) = srt (cornersOf ps) := srt_eq_of (mem_due ps)
/-- the head of the corners is the least of the sorted ones -/
theorem take_corners (ps : List Pt) : (cornersOf ps).take 1 = (srt (cornersOf ps)).take 1 := by
  have R := rim_ok ps
  cases e : cornersOf ps with
  | nil => rfl
  | cons z r =>
    cases e2 : srt (z :: r) with
    | nil =>
      have : z ∈ srt (z :: r) := mem_srt.mpr (by simp)
      rw [e2] at this
      simp at this
    | cons y s =>
      have hy : y ∈ z :: r := mem_srt.mp (by rw [e2]; simp)
      have hz : z ∈ y :: s := by rw [← e2]; exact mem_srt.mpr (by simp)
      have h1 := R.least z r e y (R.sub y (by rw [e]; exact hy))
      have hs := srt_sorted (z :: r)
      rw [e2] at hs
      have : y = z := by
        rcases List.mem_cons.mp hz with k | k
        · exact k.symm
        · have h3 := (List.pairwise_cons.mp hs).1 z k
          rcases h1 with h1 | h1
          · exact h1
          · exact absurd (lt_trans h1 h3) (lt_irrefl _)
      subst this
      rfl
/-- each edge, by the place of its end -/
theorem edge_at {ps : List Pt} {k : Nat} (h2 : 2 < (cornersOf ps).length) (hk : k < (cornersOf ps).length) : ∀ q ∈ ps, 0 ≤ turn (if k = 0 then atN (cornersOf ps) ((cornersOf ps).length - 1) else atN (cornersOf ps) (k - 1)) (atN (cornersOf ps) k) q := by
  have R := rim_ok ps
  generalize e : cornersOf ps = rim at *
  match rim, h2 with
  | z :: w :: r, h2 =>
    have hE := R.edge z w r rfl
    have get : ∀ i, i < (z :: w :: r).length → ((z :: w :: r) ++ [z])[i]? = some (atN (z :: w :: r) i) := by
      intro i hi
      unfold atN
      rw [List.getElem?_append_left hi, List.getD_eq_getElem?_getD, List.getElem?_eq_getElem hi]
      rfl
    by_cases k0 : k = 0
    · subst k0
      rw [if_pos rfl]
      refine Adj.get hE (get _ (by omega)) ?_
      rw [show (z :: w :: r).length - 1 + 1 = (z :: w :: r).length by simp]
      rw [List.getElem?_append_right (Nat.le_refl _), Nat.sub_self]
      rfl
    · rw [if_neg k0]
      refine Adj.get hE (get (k - 1) (by omega)) ?_
      rw [show k - 1 + 1 = k by omega]
      exact get k hk
end HP
/-! Two lists parted: a candidate way does it where any does. -/
namespace HP
theorem adj_mem {R : Pt → Pt → Prop} {l : List Pt} (h : Adj R l) : Adj (fun a b => R a b ∧ a ∈ l ∧ b ∈ l) l := Adj.imp (fun a b ha hb k => ⟨k, ha, hb⟩) h
/-- v apart from nought, along a and b: a along b -/
theorem par_par {v a b : Pt} (hv : v.1 ≠ 0 ∨ v.2 ≠ 0) (h1 : v.1 * a.2 - v.2 * a.1 = 0) (h2 : v.1 * b.2 - v.2 * b.1 = 0) : a.1 * b.2 - a.2 * b.1 = 0 := by
  rcases hv with h | h
  · have k : v.1 * (a.1 * b.2 - a.2 * b.1) = 0 := by grind
    exact (Int.mul_eq_zero.mp k).resolve_left h
  · have k : v.2 * (a.1 * b.2 - a.2 * b.1) = 0 := by grind
    exact (Int.mul_eq_zero.mp k).resolve_left h
/-- a point shut out: an edge that it lies beyond, or all on one way with it -/
theorem out_cases {D : List Pt} {p : Pt} (h : Sep D p) (hne : D ≠ []) :
    (∃ a ∈ D, ∃ b ∈ D, a ≠ b ∧ (∀ q ∈ D, 0 ≤ turn a b q) ∧ turn a b p < 0) ∨ (∃ z ∈ D, z ≠ p ∧ ∀ q ∈ D, turn p z q = 0) := by
  have R := rim_ok D
  have e := (within_iff D p).mpr h
  have hp : p ∉ D := fun k => (InHull.of_mem k).not_sep h
  unfold within at e
  split at e
  · rename_i hr
    exact absurd hr (R.nil hne)
  · rename_i z hr
    have hz : z ∈ D := R.sub z (by rw [hr]; simp)
    refine .inr ⟨z, hz, fun k => hp (k ▸ hz), fun q hq => ?_⟩
    rw [R.one z hr q hq]
    exact turn_self2 _ _
  · rename_i z w hr
    have hz : z ∈ D := R.sub z (by rw [hr]; simp)
    have hw : w ∈ D := R.sub w (by rw [hr]; simp)
    have hE := R.edge z w [] hr
    have hzw : z ≠ w := by
      have := R.nodup
      rw [hr] at this
      simp at this
      exact this
    rw [hr] at hE
    obtain ⟨e1, e2, _⟩ := hE
    by_cases k1 : turn z w p < 0
    · exact .inl ⟨z, hz, w, hw, hzw, e1, k1⟩
    · by_cases k2 : turn w z p < 0
      · exact .inl ⟨w, hw, z, hz, Ne.symm hzw, e2, k2⟩
      · refine .inr ⟨z, hz, fun k => hp (k ▸ hz), fun q hq => ?_⟩
        have s1 := turn_swap z w p
        have s2 := turn_swap z w q
        have t1 := e1 q hq
        have t2 := e2 q hq
        have hv : (w.1 - z.1, w.2 - z.2).1 ≠ 0 ∨ (w.1 - z.1, w.2 - z.2).2 ≠ 0 := by
          by_cases k : w.1 - z.1 = 0
          · right
            intro k3
            exact hzw (Prod.ext (by simp only at *; omega) (by simp only at *; omega))
          · exact .inl k
        have := par_par (v := (w.1 - z.1, w.2 - z.2)) (a := (p.1 - z.1, p.2 - z.2)) (b := (q.1 - z.1, q.2 - z.2)) hv (by
          have : turn z w p = 0 := by omega
          unfold turn at this
          exact this) (by
          have : turn z w q = 0 := by omega
          unfold turn at this
          exact this)
        unfold turn
        simp only at this
        grind
  · rename_i z a b r hr
    have hc := adj_mem (R.edge z a (b :: r) hr)
    rw [hr] at hc
    cases hl : edgeFind p ((z :: a :: b :: r) ++ [z]) with
    | some l =>
      obtain ⟨x, y, ⟨hR, hx, hy⟩, hneg, _⟩ := edge_some hc hl
      have mem : ∀ u, u ∈ (z :: a :: b :: r) ++ [z] → u ∈ D := fun u hu => by
        refine R.sub u ?_
        rw [hr]
        rcases List.mem_append.mp hu with k | k
        · exact k
        · simp at k; subst k; simp
      refine .inl ⟨x, mem x hx, y, mem y hy, fun k => ?_, hR, hneg⟩
      subst k
      rw [turn_self1] at hneg
      omega
    | none =>
      exfalso
      have hen := edge_none hl
      refine fan_none a b r (Adj.left (m := [z]) hen.2) hen.1 (fun x hx => ?_) e
      obtain ⟨ys, ey⟩ := List.getLast?_eq_some_iff.mp hx
      have h2 : Adj (fun a b => 0 ≤ turn a b p) (ys ++ x :: [z]) := by
        have e3 : (a :: b :: r) ++ [z] = ys ++ x :: [z] := by
          rw [ey]; simp
        rw [← e3]; exact hen.2
      have h3 := (Adj.right h2).1
      have e4 : turn x z p = - turn z x p := turn_swap _ _ _
      omega
def sub2 (a b : Pt) : Pt := (a.1 - b.1, a.2 - b.2)
def dot2 (m x : Pt) : Int := m.1 * x.1 + m.2 * x.2
theorem dot_sub (m a b : Pt) : dot2 m (sub2 a b) = dot2 m a - dot2 m b := by unfold dot2 sub2; grind
/-- the differences -/
def diffs (A B : List Pt) : List Pt := A.flatMap fun a => B.map fun b => sub2 a b
theorem mem_diffs {A B : List Pt} {d : Pt} : d ∈ diffs A B ↔ ∃ a ∈ A, ∃ b ∈ B, d = sub2 a b := by
  unfold diffs
  simp only [List.mem_flatMap, List.mem_map]
  constructor
  · rintro ⟨a, ha, b, hb, e⟩; exact ⟨a, ha, b, hb, e.symm⟩
  · rintro ⟨a, ha, b, hb, e⟩; exact ⟨a, ha, b, hb, e.symm⟩
/-- the ways that the program tries -/
def waysOf (ps : List Pt) : List Pt := ps.flatMap fun a => ps.flatMap fun b => if a = b then [] else [(b.1 - a.1, b.2 - a.2), (0 - (b.2 - a.2), b.1 - a.1)]
theorem mem_ways {ps : List Pt} {a b : Pt} (ha : a ∈ ps) (hb : b ∈ ps) (h : a ≠ b) : (b.1 - a.1, b.2 - a.2) ∈ waysOf ps ∧ (0 - (b.2 - a.2), b.1 - a.1) ∈ waysOf ps := by
  unfold waysOf
  constructor
  · refine List.mem_flatMap.mpr ⟨a, ha, List.mem_flatMap.mpr ⟨b, hb, ?_⟩⟩
    rw [if_neg h]; simp
  · refine List.mem_flatMap.mpr ⟨a, ha, List.mem_flatMap.mpr ⟨b, hb, ?_⟩⟩
    rw [if_neg h]; simp
def Parts (m : Pt) (A B : List Pt) : Prop := ∀ a ∈ A, ∀ b ∈ B, dot2 m b < dot2 m a
/-- a way along another parts where that one does -/
theorem along_parts {n m : Pt} {A B : List Pt} (h0 : n.1 * m.2 - n.2 * m.1 = 0) (h1 : 0 < dot2 n m) (h : Parts n A B) : Parts m A B := by
  intro a ha b hb
  have k := h a ha b hb
  have e : (m.1 * m.1 + m.2 * m.2) * (dot2 n a - dot2 n b) = dot2 n m * (dot2 m a - dot2 m b) := by
    unfold dot2
    have : n.1 * m.2 = n.2 * m.1 := by omega
    grind
  have hm : 0 < m.1 * m.1 + m.2 * m.2 := by
    refine sq_pos ?_
    by_cases z : m.1 = 0
    · right
      intro z2
      unfold dot2 at h1
      rw [z, z2] at h1
      simp at h1
    · exact .inl z
  have p1 : 0 < dot2 n m * (dot2 m a - dot2 m b) := by
    rw [← e]
    exact Int.mul_pos hm (by omega)
  have := pos_of_mul h1 p1
  omega
theorem ways_part {A B S : List Pt} (hA : A ≠ []) (hB : B ≠ []) (hS : ∀ x, x ∈ S ↔ x ∈ A ∨ x ∈ B) (h : Sep (diffs A B) (0, 0)) : ∃ m ∈ waysOf S, Parts m A B := by
  have hD : diffs A B ≠ [] := by
    obtain ⟨a, ha⟩ := List.exists_mem_of_ne_nil A hA
    obtain ⟨b, hb⟩ := List.exists_mem_of_ne_nil B hB
    intro k
    have : sub2 a b ∈ diffs A B := mem_diffs.mpr ⟨a, ha, b, hb, rfl⟩
    rw [k] at this
    simp at this
  rcases out_cases h hD with ⟨d, hd, e, he, hne, hall, hneg⟩ | ⟨z, hz, hz0, hall⟩
  · obtain ⟨a1, ha1, b1, hb1, rfl⟩ := mem_diffs.mp hd
    obtain ⟨a2, ha2, b2, hb2, rfl⟩ := mem_diffs.mp he
    -- the way across the edge
    let n : Pt := (0 - ((sub2 a2 b2).2 - (sub2 a1 b1).2), (sub2 a2 b2).1 - (sub2 a1 b1).1)
    have hn : ∀ q : Pt, turn (sub2 a1 b1) (sub2 a2 b2) q = dot2 n q - dot2 n (sub2 a1 b1) := fun q => by
      unfold turn dot2
      show _ = (0 - ((sub2 a2 b2).2 - (sub2 a1 b1).2)) * q.1 + ((sub2 a2 b2).1 - (sub2 a1 b1).1) * q.2 - ((0 - ((sub2 a2 b2).2 - (sub2 a1 b1).2)) * (sub2 a1 b1).1 + ((sub2 a2 b2).1 - (sub2 a1 b1).1) * (sub2 a1 b1).2)
      grind
    have hn2 : dot2 n (sub2 a2 b2) = dot2 n (sub2 a1 b1) := by
      have := hn (sub2 a2 b2)
      rw [turn_self2] at this
      omega
    rw [hn] at hneg
    have z0 : dot2 n (0, 0) = 0 := by unfold dot2; simp
    rw [z0] at hneg
    have least : ∀ a ∈ A, ∀ b ∈ B, dot2 n a1 - dot2 n b1 ≤ dot2 n a - dot2 n b := fun a ha b hb => by
      have := hall (sub2 a b) (mem_diffs.mpr ⟨a, ha, b, hb, rfl⟩)
      rw [hn, dot_sub, dot_sub] at this
      omega
    rw [dot_sub] at hneg
    rw [dot_sub, dot_sub] at hn2
    have hP : Parts n A B := fun a ha b hb => by
      have := least a ha b hb
      omega
    have q1 := least a1 ha1 b2 hb2
    have q2 := least a2 ha2 b1 hb1
    have ea : dot2 n a1 = dot2 n a2 := by omega
    have eb : dot2 n b1 = dot2 n b2 := by omega
    have hn0 : n.1 ≠ 0 ∨ n.2 ≠ 0 := by
      by_cases k : n.1 = 0
      · right
        intro k2
        have : dot2 n a1 = 0 := by unfold dot2; rw [k, k2]; simp
        have : dot2 n b1 = 0 := by unfold dot2; rw [k, k2]; simp
        omega
      · exact .inl k
    -- a pair of one list, the same by n
    have pair : ∀ u v : Pt, u ∈ S → v ∈ S → u ≠ v → dot2 n u = dot2 n v → ∃ m ∈ waysOf S, Parts m A B := by
      intro u v hu hv huv hd
      have par : n.1 * (v.1 - u.1) + n.2 * (v.2 - u.2) = 0 := by unfold dot2 at hd; grind
      have m1 := (mem_ways hu hv huv).2
      have m2 := (mem_ways hv hu (Ne.symm huv)).2
      have c1 : n.1 * (v.1 - u.1) - n.2 * (0 - (v.2 - u.2)) = 0 := by grind
      have c2 : n.1 * (u.1 - v.1) - n.2 * (0 - (u.2 - v.2)) = 0 := by grind
      have dd : dot2 n (0 - (v.2 - u.2), v.1 - u.1) = - dot2 n (0 - (u.2 - v.2), u.1 - v.1) := by unfold dot2; simp only; grind
      rcases Int.lt_trichotomy 0 (dot2 n (0 - (v.2 - u.2), v.1 - u.1)) with k | k | k
      · exact ⟨_, m1, along_parts c1 k hP⟩
      · exfalso
        -- n across and along v - u: v = u
        have w1 : n.1 * (0 - (v.2 - u.2)) + n.2 * (v.1 - u.1) = 0 := by unfold dot2 at k; simp only at k; omega
        have s1 : (n.1 * n.1 + n.2 * n.2) * (v.1 - u.1) = 0 := by grind
        have s2 : (n.1 * n.1 + n.2 * n.2) * (v.2 - u.2) = 0 := by grind
        have sp := sq_pos hn0
        have t1 : v.1 - u.1 = 0 := by rcases Int.mul_eq_zero.mp s1 with t | t <;> omega
        have t2 : v.2 - u.2 = 0 := by rcases Int.mul_eq_zero.mp s2 with t | t <;> omega
        exact huv (Prod.ext (by omega) (by omega))
      · exact ⟨_, m2, along_parts c2 (by omega) hP⟩
    by_cases k : a1 = a2
    · refine pair b1 b2 ((hS _).mpr (.inr hb1)) ((hS _).mpr (.inr hb2)) (fun k2 => hne ?_) eb
      rw [k, k2]
    · exact pair a1 a2 ((hS _).mpr (.inl ha1)) ((hS _).mpr (.inl ha2)) k ea
  · obtain ⟨a, ha, b, hb, rfl⟩ := mem_diffs.mp hz
    obtain ⟨u, v, w, h1, h2⟩ := h
    have h2' : w < 0 := by unfold at3 at h2; simp only at h2; omega
    have hu : Parts (u, v) A B := fun x hx y hy => by
      have := h1 (sub2 x y) (mem_diffs.mpr ⟨x, hx, y, hy, rfl⟩)
      unfold at3 sub2 at this
      unfold dot2
      simp only at *
      grind
    have hab : b ≠ a := fun k => hz0 (by rw [k]; unfold sub2; exact Prod.ext (by simp) (by simp))
    refine ⟨_, (mem_ways ((hS b).mpr (.inr hb)) ((hS a).mpr (.inl ha)) hab).1, fun x hx y hy => ?_⟩
    have t := hall (sub2 x y) (mem_diffs.mpr ⟨x, hx, y, hy, rfl⟩)
    have p1 := hu a ha b hb
    have p2 := hu x hx y hy
    unfold turn sub2 at t
    unfold dot2 at *
    simp only at *
    -- z = a - b and q = x - y along each other, both ahead by (u, v)
    generalize hz1 : a.1 - b.1 = z1 at *
    generalize hz2 : a.2 - b.2 = z2 at *
    generalize hq1 : x.1 - y.1 = q1 at *
    generalize hq2 : x.2 - y.2 = q2 at *
    have P1 : 0 < u * z1 + v * z2 := by rw [← hz1, ← hz2]; grind
    have P2 : 0 < u * q1 + v * q2 := by rw [← hq1, ← hq2]; grind
    have par : z1 * q2 = z2 * q1 := by grind
    have zz : z1 ≠ 0 ∨ z2 ≠ 0 := by
      by_cases k : z1 = 0
      · right; intro k2; rw [k, k2] at P1; simp at P1
      · exact .inl k
    have sp := sq_pos zz
    have e1 : (u * z1 + v * z2) * (z1 * q1 + z2 * q2) = (z1 * z1 + z2 * z2) * (u * q1 + v * q2) := by grind
    have p3 : 0 < (u * z1 + v * z2) * (z1 * q1 + z2 * q2) := by rw [e1]; exact Int.mul_pos sp P2
    have p4 := pos_of_mul P1 p3
    have e2 : z1 * x.1 + z2 * x.2 - (z1 * y.1 + z2 * y.2) = z1 * q1 + z2 * q2 := by rw [← hq1, ← hq2]; grind
    omega
end HP
/-! Two lists that meet: a point of one in the hull of the other, or a crossing. -/
namespace HP
theorem two_hull {S : List Pt} {a b : Pt} {u v X Y B : Int} (ha : a ∈ S) (hb : b ∈ S) (h0 : 0 ≤ u) (h1 : 0 ≤ v) (hp : 0 < u + v) (hx : (u * a.1 + v * b.1) * B = X * (u + v)) (hy : (u * a.2 + v * b.2) * B = Y * (u + v)) : InHull S X Y B := by
  refine ⟨[(a, u), (b, v)], ⟨?_, ?_, ?_, ?_⟩⟩
  · intro x hx
    simp only [List.mem_cons, List.not_mem_nil, or_false] at hx
    rcases hx with e | e <;> subst e
    · exact ⟨ha, h0⟩
    · exact ⟨hb, h1⟩
  · simp only [psum]; omega
  · simp only [psum]; grind
  · simp only [psum]; grind
/-- nought in the hull of the differences: a spot in both hulls -/
theorem diffs_split {A B : List Pt} : ∀ parts : List (Pt × Int), (∀ x ∈ parts, x.1 ∈ diffs A B ∧ 0 ≤ x.2) →
    ∃ pa pb : List (Pt × Int), (∀ x ∈ pa, x.1 ∈ A ∧ 0 ≤ x.2) ∧ (∀ x ∈ pb, x.1 ∈ B ∧ 0 ≤ x.2) ∧ psum (·.2) pa = psum (·.2) parts ∧ psum (·.2) pb = psum (·.2) parts ∧
      psum (fun x => x.2 * x.1.1) pa - psum (fun x => x.2 * x.1.1) pb = psum (fun x => x.2 * x.1.1) parts ∧ psum (fun x => x.2 * x.1.2) pa - psum (fun x => x.2 * x.1.2) pb = psum (fun x => x.2 * x.1.2) parts
  | [], _ => ⟨[], [], by simp, by simp, rfl, rfl, rfl, rfl⟩
  | x :: r, h => by
    obtain ⟨pa, pb, h1, h2, h3, h4, h5, h6⟩ := diffs_split r fun y hy => h y (List.mem_cons_of_mem _ hy)
    obtain ⟨hd, hw⟩ := h x (by simp)
    obtain ⟨a, ha, b, hb, e⟩ := mem_diffs.mp hd
    refine ⟨(a, x.2) :: pa, (b, x.2) :: pb, ?_, ?_, ?_, ?_, ?_, ?_⟩
    · intro y hy
      rcases List.mem_cons.mp hy with k | k
      · subst k; exact ⟨ha, hw⟩
      · exact h1 y k
    · intro y hy
      rcases List.mem_cons.mp hy with k | k
      · subst k; exact ⟨hb, hw⟩
      · exact h2 y k
    · simp only [psum, h3]
    · simp only [psum, h4]
    · simp only [psum]
      rw [e, ← h5]
      unfold sub2
      simp only
      grind
    · simp only [psum]
      rw [e, ← h6]
      unfold sub2
      simp only
      grind
theorem diffs_hull {A B : List Pt} (h : InHull (diffs A B) 0 0 1) : ∃ X Y M : Int, 0 < M ∧ InHull A X Y M ∧ InHull B X Y M := by
  obtain ⟨parts, hp⟩ := h
  obtain ⟨pa, pb, h1, h2, h3, h4, h5, h6⟩ := diffs_split parts hp.mem
  have ex := hp.ex
  have ey := hp.ey
  have hpos := hp.pos
  refine ⟨psum (fun x => x.2 * x.1.1) pa, psum (fun x => x.2 * x.1.2) pa, psum (·.2) parts, hpos, ⟨pa, ⟨h1, by rw [h3]; exact hpos, by rw [h3], by rw [h3]⟩⟩, ⟨pb, ⟨h2, by rw [h4]; exact hpos, ?_, ?_⟩⟩⟩
  · rw [h4, show psum (fun x => x.2 * x.1.1) pa = psum (fun x => x.2 * x.1.1) pb by omega]
  · rw [h4, show psum (fun x => x.2 * x.1.2) pa = psum (fun x => x.2 * x.1.2) pb by omega]
/-- all places by a factor -/
def scale (M : Int) (a : Pt) : Pt := (M * a.1, M * a.2)
theorem psum_scale (f : Pt × Int → Int) (M : Int) : ∀ l : List (Pt × Int), psum f (l.map fun x => (scale M x.1, x.2)) = psum (fun x => f (scale M x.1, x.2)) l
  | [] => rfl
  | x :: r => by simp only [List.map_cons, psum, psum_scale f M r]
theorem psum_mul (f : Pt × Int → Int) (M : Int) : ∀ l : List (Pt × Int), psum (fun x => M * f x) l = M * psum f l
  | [] => by simp [psum]
  | x :: r => by simp only [psum, psum_mul f M r]; grind
theorem hull_scale {A : List Pt} {X Y M : Int} (h : InHull A X Y M) : InHull (A.map (scale M)) X Y 1 := by
  obtain ⟨parts, hp⟩ := h
  have e : psum (fun x => x.2) (parts.map fun x => (scale M x.1, x.2)) = psum (·.2) parts := by rw [psum_scale]
  refine ⟨parts.map fun x => (scale M x.1, x.2), ⟨?_, ?_, ?_, ?_⟩⟩
  · intro x hx
    obtain ⟨y, hy, rfl⟩ := List.mem_map.mp hx
    exact ⟨List.mem_map.mpr ⟨y.1, (hp.mem y hy).1, rfl⟩, (hp.mem y hy).2⟩
  · rw [e]; exact hp.pos
  · rw [e, psum_scale, psum_congr (g := fun x => M * (x.2 * x.1.1)) (fun x _ => by unfold scale; simp only; grind), psum_mul, ← hp.ex]
    grind
  · rw [e, psum_scale, psum_congr (g := fun x => M * (x.2 * x.1.2)) (fun x _ => by unfold scale; simp only; grind), psum_mul, ← hp.ey]
    grind
theorem hull_unscale {A : List Pt} {X Y M : Int} (hM : 0 < M) (h : InHull (A.map (scale M)) X Y 1) : InHull A X Y M := by
  obtain ⟨parts, hp⟩ := h
  -- each scaled point back
  have back : ∀ l : List (Pt × Int), (∀ x ∈ l, x.1 ∈ A.map (scale M) ∧ 0 ≤ x.2) → ∃ m : List (Pt × Int), (∀ x ∈ m, x.1 ∈ A ∧ 0 ≤ x.2) ∧ l = m.map fun x => (scale M x.1, x.2) := by
    intro l
    induction l with
    | nil => intro _; exact ⟨[], by simp, rfl⟩
    | cons x r ih =>
      intro h
      obtain ⟨m, h1, h2⟩ := ih fun y hy => h y (List.mem_cons_of_mem _ hy)
      obtain ⟨hx, hw⟩ := h x (by simp)
      obtain ⟨a, ha, e⟩ := List.mem_map.mp hx
      refine ⟨(a, x.2) :: m, ?_, ?_⟩
      · intro y hy
        rcases List.mem_cons.mp hy with k | k
        · subst k; exact ⟨ha, hw⟩
        · exact h1 y k
      · rw [List.map_cons, ← h2, e]
  obtain ⟨m, h1, h2⟩ := back parts hp.mem
  subst h2
  have e : psum (fun x => x.2) (m.map fun x => (scale M x.1, x.2)) = psum (·.2) m := by rw [psum_scale]
  have ex := hp.ex
  have ey := hp.ey
  have hpos := hp.pos
  rw [e] at hpos ex ey
  rw [psum_scale, psum_congr (g := fun x => M * (x.2 * x.1.1)) (fun x _ => by unfold scale; simp only; grind), psum_mul] at ex
  rw [psum_scale, psum_congr (g := fun x => M * (x.2 * x.1.2)) (fun x _ => by unfold scale; simp only; grind), psum_mul] at ey
  exact ⟨m, ⟨h1, hpos, by rw [← ex]; grind, by rw [← ey]; grind⟩⟩
/-- what a reduction to two points gives -/
def TwoOf (A : List Pt) (X Y M : Int) (b : Pt) : Prop := ∃ a ∈ A, ∃ a' ∈ A, ∃ u v s t : Int, 0 ≤ u ∧ 0 ≤ v ∧ 0 < s ∧ 0 ≤ t ∧ u + v = s * M + t ∧ u * a.1 + v * a'.1 = s * X + t * b.1 ∧ u * a.2 + v * a'.2 = s * Y + t * b.2
theorem exit1 {A : List Pt} {a1 a2 a3 b : Pt} {X Y M p1 p2 p3 : Int} (h2 : a2 ∈ A) (h3 : a3 ∈ A) (hM : 0 < M) (hT : 0 < turn a1 a2 a3) (q1 : 0 ≤ p1) (hP : 0 < p1 + p2 + p3)
    (hx : M * (p1 * a1.1 + p2 * a2.1 + p3 * a3.1) = (p1 + p2 + p3) * X) (hy : M * (p1 * a1.2 + p2 * a2.2 + p3 * a3.2) = (p1 + p2 + p3) * Y)
    (hb : turn a2 a3 b < 0) (g2 : turn a2 a3 b * p2 ≤ p1 * turn a3 a1 b) (g3 : turn a2 a3 b * p3 ≤ p1 * turn a1 a2 b) : TwoOf A X Y M b := by
  have eT : turn a2 a3 b + turn a3 a1 b + turn a1 a2 b = turn a1 a2 a3 := by unfold turn; grind
  have ebx : turn a2 a3 b * a1.1 + turn a3 a1 b * a2.1 + turn a1 a2 b * a3.1 = turn a1 a2 a3 * b.1 := by unfold turn; grind
  have eby : turn a2 a3 b * a1.2 + turn a3 a1 b * a2.2 + turn a1 a2 b * a3.2 = turn a1 a2 a3 * b.2 := by unfold turn; grind
  generalize turn a2 a3 b = b1 at *
  generalize turn a3 a1 b = b2 at *
  generalize turn a1 a2 b = b3 at *
  generalize turn a1 a2 a3 = T at *
  refine ⟨a2, h2, a3, h3, M * (p1 * b2 - b1 * p2), M * (p1 * b3 - b1 * p3), (-b1) * (p1 + p2 + p3), M * p1 * T, ?_, ?_, ?_, ?_, ?_, ?_, ?_⟩
  · exact Int.mul_nonneg (by omega) (by omega)
  · exact Int.mul_nonneg (by omega) (by omega)
  · exact Int.mul_pos (by omega) hP
  · exact Int.mul_nonneg (Int.mul_nonneg (by omega) q1) (by omega)
  · rw [← eT]; grind
  · have k1 : M * (p1 * b2 - b1 * p2) * a2.1 + M * (p1 * b3 - b1 * p3) * a3.1 = M * p1 * (b1 * a1.1 + b2 * a2.1 + b3 * a3.1) - b1 * (M * (p1 * a1.1 + p2 * a2.1 + p3 * a3.1)) := by grind
    rw [k1, ebx, hx]
    grind
  · have k1 : M * (p1 * b2 - b1 * p2) * a2.2 + M * (p1 * b3 - b1 * p3) * a3.2 = M * p1 * (b1 * a1.2 + b2 * a2.2 + b3 * a3.2) - b1 * (M * (p1 * a1.2 + p2 * a2.2 + p3 * a3.2)) := by grind
    rw [k1, eby, hy]
    grind
theorem exit3 {A : List Pt} {a1 a2 a3 b : Pt} {X Y M p1 p2 p3 : Int} (h1 : a1 ∈ A) (h2 : a2 ∈ A) (h3 : a3 ∈ A) (hM : 0 < M) (hT : 0 < turn a1 a2 a3) (q1 : 0 ≤ p1) (q2 : 0 ≤ p2) (q3 : 0 ≤ p3) (hP : 0 < p1 + p2 + p3)
    (hx : M * (p1 * a1.1 + p2 * a2.1 + p3 * a3.1) = (p1 + p2 + p3) * X) (hy : M * (p1 * a1.2 + p2 * a2.2 + p3 * a3.2) = (p1 + p2 + p3) * Y)
    (hb : Sep A b) : TwoOf A X Y M b := by
  have r1 := turn_rot a1 a2 a3
  have r2 := turn_rot a2 a3 a1
  have eT : turn a2 a3 b + turn a3 a1 b + turn a1 a2 b = turn a1 a2 a3 := by unfold turn; grind
  have c1 : turn a2 a3 b < 0 → turn a2 a3 b * p2 ≤ p1 * turn a3 a1 b → turn a2 a3 b * p3 ≤ p1 * turn a1 a2 b → TwoOf A X Y M b := exit1 h2 h3 hM hT q1 hP hx hy
  have c2 : turn a3 a1 b < 0 → turn a3 a1 b * p3 ≤ p2 * turn a1 a2 b → turn a3 a1 b * p1 ≤ p2 * turn a2 a3 b → TwoOf A X Y M b := exit1 (p1 := p2) (p2 := p3) (p3 := p1) h3 h1 hM (by omega) q2 (by omega) (by grind) (by grind)
  have c3 : turn a1 a2 b < 0 → turn a1 a2 b * p1 ≤ p3 * turn a2 a3 b → turn a1 a2 b * p2 ≤ p3 * turn a3 a1 b → TwoOf A X Y M b := exit1 (p1 := p3) (p2 := p1) (p3 := p2) h1 h2 hM (by omega) q3 (by omega) (by grind) (by grind)
  by_cases all : 0 ≤ turn a2 a3 b ∧ 0 ≤ turn a3 a1 b ∧ 0 ≤ turn a1 a2 b
  · exact absurd hb (InHull.not_sep ⟨_, (in_three_hull (S := A) h1 h2 h3 hT all.1 all.2.1 all.2.2).1⟩)
  · generalize turn a2 a3 b = b1 at *
    generalize turn a3 a1 b = b2 at *
    generalize turn a1 a2 b = b3 at *
    have neg : ∀ x y : Int, x < 0 → 0 ≤ y → x * y ≤ 0 := fun x y hx hy => by
      have := Int.mul_nonneg (a := -x) (b := y) (by omega) hy
      grind
    have pos : ∀ x y : Int, 0 ≤ x → 0 ≤ y → 0 ≤ x * y := fun x y => Int.mul_nonneg
    rcases Int.lt_or_le b1 0 with k1 | k1
    · rcases Int.lt_or_le b2 0 with k2 | k2
      · have k3 : 0 ≤ b3 := by omega
        rcases Int.le_total (b1 * p2) (p1 * b2) with k | k
        · exact c1 k1 k (Int.le_trans (neg _ _ k1 q3) (pos _ _ q1 k3))
        · exact c2 k2 (Int.le_trans (neg _ _ k2 q3) (pos _ _ q2 k3)) (by grind)
      · rcases Int.lt_or_le b3 0 with k3 | k3
        · rcases Int.le_total (b1 * p3) (p1 * b3) with k | k
          · exact c1 k1 (Int.le_trans (neg _ _ k1 q2) (pos _ _ q1 k2)) k
          · exact c3 k3 (by grind) (Int.le_trans (neg _ _ k3 q2) (pos _ _ q3 k2))
        · exact c1 k1 (Int.le_trans (neg _ _ k1 q2) (pos _ _ q1 k2)) (Int.le_trans (neg _ _ k1 q3) (pos _ _ q1 k3))
    · rcases Int.lt_or_le b2 0 with k2 | k2
      · rcases Int.lt_or_le b3 0 with k3 | k3
        · rcases Int.le_total (b2 * p3) (p2 * b3) with k | k
          · exact c2 k2 k (Int.le_trans (neg _ _ k2 q1) (pos _ _ q2 k1))
          · exact c3 k3 (Int.le_trans (neg _ _ k3 q1) (pos _ _ q3 k1)) (by grind)
        · exact c2 k2 (Int.le_trans (neg _ _ k2 q3) (pos _ _ q2 k3)) (Int.le_trans (neg _ _ k2 q1) (pos _ _ q2 k1))
      · rcases Int.lt_or_le b3 0 with k3 | k3
        · exact c3 k3 (Int.le_trans (neg _ _ k3 q1) (pos _ _ q3 k1)) (Int.le_trans (neg _ _ k3 q2) (pos _ _ q3 k2))
        · exact absurd ⟨k1, k2, k3⟩ all
theorem fan_two {ps S A : List Pt} {z b : Pt} {X Y M : Int} (hM : 0 < M) (hz : z ∈ S) (hS : ∀ x ∈ S, ∃ a ∈ A, x = scale M a) (hb : Sep A b) : ∀ {r : List Pt} {ws : List W}, (∀ x ∈ r, x ∈ S) → Adj (fun a b => 0 < turn z a b) r → fanFind ps z (X, Y) r = some ws → TwoOf A X Y M b
  | [], ws, _, _, e => by cases e
  | [_], ws, _, _, e => by cases e
  | a :: c :: r, ws, hr, hf, e => by
    unfold fanFind at e
    split at e
    · rename_i w hw
      unfold inThree at hw
      split at hw
      · cases hw
      · rename_i hc
        have hT := hf.1
        have e1 : turn a c (X, Y) + turn c z (X, Y) + turn z a (X, Y) = turn z a c := by unfold turn; grind
        have ex : turn a c (X, Y) * z.1 + turn c z (X, Y) * a.1 + turn z a (X, Y) * c.1 = turn z a c * X := by unfold turn; grind
        have ey : turn a c (X, Y) * z.2 + turn c z (X, Y) * a.2 + turn z a (X, Y) * c.2 = turn z a c * Y := by unfold turn; grind
        obtain ⟨z0, hz0, rfl⟩ := hS z hz
        obtain ⟨a0, ha0, rfl⟩ := hS a (hr a (by simp))
        obtain ⟨c0, hc0, rfl⟩ := hS c (hr c (by simp))
        have eM : turn (scale M z0) (scale M a0) (scale M c0) = M * M * turn z0 a0 c0 := by unfold turn scale; grind
        have hT0 : 0 < turn z0 a0 c0 := by
          rw [eM] at hT
          exact pos_of_mul (Int.mul_pos hM hM) hT
        have hP := hT
        rw [← e1] at hP
        rw [← e1] at ex ey
        have eq1 : (scale M z0).1 = M * z0.1 ∧ (scale M z0).2 = M * z0.2 ∧ (scale M a0).1 = M * a0.1 ∧ (scale M a0).2 = M * a0.2 ∧ (scale M c0).1 = M * c0.1 ∧ (scale M c0).2 = M * c0.2 := ⟨rfl, rfl, rfl, rfl, rfl, rfl⟩
        obtain ⟨s1, s2, s3, s4, s5, s6⟩ := eq1
        rw [s1, s3, s5] at ex
        rw [s2, s4, s6] at ey
        refine exit3 (p1 := turn (scale M a0) (scale M c0) (X, Y)) (p2 := turn (scale M c0) (scale M z0) (X, Y)) (p3 := turn (scale M z0) (scale M a0) (X, Y)) hz0 ha0 hc0 hM hT0 (by omega) (by omega) (by omega) hP ?_ ?_ hb
        · rw [← ex]; grind
        · rw [← ey]; grind
    · exact fan_two hM hz hS hb (fun x hx => hr x (List.mem_cons_of_mem _ hx)) hf.2 e
theorem reduce {A : List Pt} {X Y M : Int} (hM : 0 < M) (h : InHull A X Y M) {b : Pt} (hb : Sep A b) : TwoOf A X Y M b := by
  have h1 := hull_scale h
  have hns : ¬ Sep (A.map (scale M)) (X, Y) := InHull.not_sep (p := (X, Y)) h1
  have R := rim_ok (A.map (scale M))
  have hS : ∀ x ∈ cornersOf (A.map (scale M)), ∃ a ∈ A, x = scale M a := fun x hx => by
    obtain ⟨a, ha, e⟩ := List.mem_map.mp (R.sub x hx)
    exact ⟨a, ha, e.symm⟩
  cases e : within (A.map (scale M)) (X, Y) with
  | none => exact absurd ((within_iff _ _).mp e) hns
  | some ws =>
    unfold within at e
    split at e
    · cases e
    · rename_i z hz
      split at e
      · rename_i hzp
        obtain ⟨a, ha, ea⟩ := hS z (by rw [hz]; simp)
        rw [hzp] at ea
        have e1 : X = M * a.1 := congrArg Prod.fst ea
        have e2 : Y = M * a.2 := congrArg Prod.snd ea
        exact ⟨a, ha, a, ha, M, 0, 1, 0, by omega, by omega, by omega, by omega, by omega, by rw [e1]; omega, by rw [e2]; omega⟩
      · cases e
    · rename_i z w hz
      have hab : z ≠ w := by
        have := R.nodup
        rw [hz] at this
        simp at this
        exact this
      unfold onSegment at e
      split at e
      · cases e
      · rename_i ht
        have ht' : turn z w (X, Y) = 0 := by omega
        split at e
        · cases e
        · rename_i hq
          have h2 := seg_x hab ht'
          have h3 := seg_y (a := z) (b := w) (p := (X, Y)) ht'
          have hp := seg_pos hab
          obtain ⟨a, ha, ea⟩ := hS z (by rw [hz]; simp)
          obtain ⟨a', ha', ea'⟩ := hS w (by rw [hz]; simp)
          generalize segQ z w (X, Y) = q at *
          generalize segW z w = v at *
          have z1 : z.1 = M * a.1 := by rw [ea]; rfl
          have z2 : z.2 = M * a.2 := by rw [ea]; rfl
          have w1 : w.1 = M * a'.1 := by rw [ea']; rfl
          have w2 : w.2 = M * a'.2 := by rw [ea']; rfl
          rw [z1, w1] at h2
          rw [z2, w2] at h3
          simp only at h2 h3
          exact ⟨a, ha, a', ha', M * (v - q), M * q, v, 0, Int.mul_nonneg (by omega) (by omega), Int.mul_nonneg (by omega) (by omega), hp, by omega, by grind, by grind, by grind⟩
    · rename_i z a c r hz
      exact fan_two (S := cornersOf (A.map (scale M))) hM (by rw [hz]; simp) hS hb (fun x hx => by rw [hz]; exact List.mem_cons_of_mem _ hx) (R.fan z _ hz) e
/-- on one way: an end of one between the ends of the other -/
theorem coll_meet {A B : List Pt} {a a' b b' : Pt} {u v g h : Int} (ha : a ∈ A) (ha' : a' ∈ A) (hb : b ∈ B) (hb' : b' ∈ B) (hA : ∀ x ∈ A, Sep B x) (hB : ∀ y ∈ B, Sep A y)
    (u0 : 0 < u) (v0 : 0 < v) (g0 : 0 < g) (h0 : 0 < h) (hN : u + v = g + h) (hx : u * a.1 + v * a'.1 = g * b.1 + h * b'.1) (hy : u * a.2 + v * a'.2 = g * b.2 + h * b'.2) (t1 : turn b b' a = 0) (t2 : turn b b' a' = 0) : False := by
  by_cases hbb : b = b'
  · subst hbb
    refine InHull.not_sep (two_hull (S := A) (X := b.1) (Y := b.2) (B := 1) ha ha' (Int.le_of_lt u0) (Int.le_of_lt v0) (by omega) ?_ ?_) (hB b hb)
    · rw [hx]; grind
    · rw [hy]; grind
  · have e0 : b'.1 - b.1 ≠ 0 ∨ b'.2 - b.2 ≠ 0 := by
      by_cases k : b'.1 - b.1 = 0
      · right
        intro k2
        exact hbb (Prod.ext (by omega) (by omega))
      · exact .inl k
    have hL := sq_pos e0
    unfold turn at t1 t2
    generalize hL2 : (b'.1 - b.1) * (b'.1 - b.1) + (b'.2 - b.2) * (b'.2 - b.2) = L at *
    obtain ⟨m, hm⟩ : ∃ m, m = (b'.1 - b.1) * (a.1 - b.1) + (b'.2 - b.2) * (a.2 - b.2) := ⟨_, rfl⟩
    obtain ⟨n, hn⟩ : ∃ n, n = (b'.1 - b.1) * (a'.1 - b.1) + (b'.2 - b.2) * (a'.2 - b.2) := ⟨_, rfl⟩
    have ax : L * (a.1 - b.1) = m * (b'.1 - b.1) := by rw [← hL2, hm]; grind
    have ay : L * (a.2 - b.2) = m * (b'.2 - b.2) := by rw [← hL2, hm]; grind
    have ax' : L * (a'.1 - b.1) = n * (b'.1 - b.1) := by rw [← hL2, hn]; grind
    have ay' : L * (a'.2 - b.2) = n * (b'.2 - b.2) := by rw [← hL2, hn]; grind
    have hmn : u * m + v * n = h * L := by
      rw [hm, hn, ← hL2]
      have x1 : u * (a.1 - b.1) + v * (a'.1 - b.1) = h * (b'.1 - b.1) := by grind
      have x2 : u * (a.2 - b.2) + v * (a'.2 - b.2) = h * (b'.2 - b.2) := by grind
      grind
    have inB : ∀ x : Pt, x ∈ A → ∀ k : Int, 0 ≤ k → k ≤ L → L * (x.1 - b.1) = k * (b'.1 - b.1) → L * (x.2 - b.2) = k * (b'.2 - b.2) → False := by
      intro x hx k k0 k1 e1 e2
      refine InHull.not_sep (two_hull (S := B) (X := x.1) (Y := x.2) (B := 1) (u := L - k) (v := k) hb hb' (by omega) k0 (by omega) ?_ ?_) (hA x hx)
      · grind
      · grind
    by_cases c1 : 0 ≤ m ∧ m ≤ L
    · exact inB a ha m c1.1 c1.2 ax ay
    · by_cases c2 : 0 ≤ n ∧ n ≤ L
      · exact inB a' ha' n c2.1 c2.2 ax' ay'
      · have hLn : L ≠ 0 := by omega
        have hv : L * (n * a.1 - m * a'.1) = L * ((n - m) * b.1) := by grind
        have hv2 : L * (n * a.2 - m * a'.2) = L * ((n - m) * b.2) := by grind
        have w1 := Int.eq_of_mul_eq_mul_left hLn hv
        have w2 := Int.eq_of_mul_eq_mul_left hLn hv2
        have hLp : 0 < h * L := Int.mul_pos h0 hL
        rcases Int.lt_or_le m 0 with d1 | d1
        · rcases Int.lt_or_le n 0 with d2 | d2
          · have y1 := Int.mul_pos u0 (show 0 < -m by omega)
            have y2 := Int.mul_pos v0 (show 0 < -n by omega)
            grind
          · refine InHull.not_sep (two_hull (S := A) (X := b.1) (Y := b.2) (B := 1) (u := n) (v := -m) ha ha' (by omega) (by omega) (by omega) ?_ ?_) (hB b hb)
            · grind
            · grind
        · rcases Int.lt_or_le n 0 with d2 | d2
          · refine InHull.not_sep (two_hull (S := A) (X := b.1) (Y := b.2) (B := 1) (u := -n) (v := m) ha ha' (by omega) (by omega) (by omega) ?_ ?_) (hB b hb)
            · grind
            · grind
          · have y1 := Int.mul_pos u0 (show 0 < m - L by omega)
            have y2 := Int.mul_pos v0 (show 0 < n - L by omega)
            have y3 := Int.mul_pos g0 hL
            have y4 : (u + v) * L = (g + h) * L := by rw [hN]
            have y5 : u * (m - L) + v * (n - L) = h * L - (u + v) * L := by rw [← hmn, Int.mul_sub, Int.mul_sub, Int.add_mul]; omega
            have y6 : h * L - (g + h) * L = -(g * L) := by rw [Int.add_mul]; omega
            omega
/-- two ways with a spot in common, no point in the other hull: a crossing -/
theorem cross_two {A B : List Pt} {a a' b b' : Pt} {u v g h : Int} (ha : a ∈ A) (ha' : a' ∈ A) (hb : b ∈ B) (hb' : b' ∈ B) (hA : ∀ x ∈ A, Sep B x) (hB : ∀ y ∈ B, Sep A y)
    (u0 : 0 ≤ u) (v0 : 0 ≤ v) (g0 : 0 ≤ g) (h0 : 0 ≤ h) (hN : u + v = g + h) (hP : 0 < u + v) (hx : u * a.1 + v * a'.1 = g * b.1 + h * b'.1) (hy : u * a.2 + v * a'.2 = g * b.2 + h * b'.2) :
    turn b b' a * turn b b' a' < 0 ∧ turn a a' b * turn a a' b' < 0 := by
  have un : u ≠ 0 := fun k => by
    subst k
    refine InHull.not_sep (two_hull (S := B) (X := a'.1) (Y := a'.2) (B := 1) hb hb' g0 h0 (by omega) ?_ ?_) (hA a' ha')
    · rw [← hx, ← hN]; grind
    · rw [← hy, ← hN]; grind
  have vn : v ≠ 0 := fun k => by
    subst k
    refine InHull.not_sep (two_hull (S := B) (X := a.1) (Y := a.2) (B := 1) hb hb' g0 h0 (by omega) ?_ ?_) (hA a ha)
    · rw [← hx, ← hN]; grind
    · rw [← hy, ← hN]; grind
  have gn : g ≠ 0 := fun k => by
    subst k
    refine InHull.not_sep (two_hull (S := A) (X := b'.1) (Y := b'.2) (B := 1) ha ha' u0 v0 (by omega) ?_ ?_) (hB b' hb')
    · rw [hx, hN]; grind
    · rw [hy, hN]; grind
  have hn : h ≠ 0 := fun k => by
    subst k
    refine InHull.not_sep (two_hull (S := A) (X := b.1) (Y := b.2) (B := 1) ha ha' u0 v0 (by omega) ?_ ?_) (hB b hb)
    · rw [hx, hN]; grind
    · rw [hy, hN]; grind
  have up : 0 < u := by omega
  have vp : 0 < v := by omega
  have gp : 0 < g := by omega
  have hp : 0 < h := by omega
  have opp : ∀ x y i j : Int, 0 < i → 0 < j → i * x + j * y = 0 → ¬ (x = 0 ∧ y = 0) → x * y < 0 := by
    intro x y i j hi hj e hne
    rcases Int.lt_trichotomy x 0 with k | k | k
    · have p1 := Int.mul_pos hi (show 0 < -x by omega)
      have p2 : 0 < j * y := by grind
      have p3 := pos_of_mul hj p2
      have := Int.mul_pos (show 0 < -x by omega) p3
      grind
    · subst k
      have p2 : j * y = 0 := by grind
      have p3 : y = 0 := by rcases Int.mul_eq_zero.mp p2 with z | z <;> omega
      exact absurd ⟨rfl, p3⟩ hne
    · have p1 := Int.mul_pos hi k
      have p2 : 0 < j * (-y) := by grind
      have p3 := pos_of_mul hj p2
      have := Int.mul_pos k p3
      grind
  constructor
  · refine opp _ _ u v up vp ?_ fun k => coll_meet ha ha' hb hb' hA hB up vp gp hp hN hx hy k.1 k.2
    unfold turn
    grind
  · refine opp _ _ g h gp hp ?_ fun k => coll_meet hb hb' ha ha' hB hA gp hp up vp hN.symm hx.symm hy.symm k.1 k.2
    unfold turn
    grind
theorem hull_move {A : List Pt} {X Y M s t : Int} {b : Pt} (hM : 0 < M) (h : InHull A X Y M) (hb : b ∈ A) (hs : 0 < s) (ht : 0 ≤ t) : InHull A (s * X + t * b.1) (s * Y + t * b.2) (s * M + t) := by
  obtain ⟨parts, hp⟩ := h
  -- parts by s * M, and b by t times the whole
  obtain ⟨P, hP⟩ : ∃ P, P = psum (·.2) parts := ⟨_, rfl⟩
  have sc : ∀ (f : Pt × Int → Int) (c : Int), (∀ x : Pt × Int, f (x.1, c * x.2) = c * f x) → ∀ l : List (Pt × Int), psum f (l.map fun x => (x.1, c * x.2)) = c * psum f l := by
    intro f c hf l
    induction l with
    | nil => simp [psum]
    | cons x r ih =>
      simp only [List.map_cons, psum, ih, hf x]
      grind
  have c0 : 0 < s * M := Int.mul_pos hs hM
  have hpos := hp.pos
  have ex := hp.ex
  have ey := hp.ey
  rw [← hP] at hpos ex ey
  have e1 := sc (·.2) (s * M) (fun x => rfl) parts
  have e2 := sc (fun x => x.2 * x.1.1) (s * M) (fun x => by simp only; grind) parts
  have e3 := sc (fun x => x.2 * x.1.2) (s * M) (fun x => by simp only; grind) parts
  have tp : 0 ≤ t * P := Int.mul_nonneg ht (by omega)
  have cp : 0 < s * M * P := Int.mul_pos c0 hpos
  refine ⟨(b, t * P) :: parts.map fun x => (x.1, s * M * x.2), ⟨?_, ?_, ?_, ?_⟩⟩
  · intro x hx
    rcases List.mem_cons.mp hx with k | k
    · subst k; exact ⟨hb, tp⟩
    · obtain ⟨y, hy, rfl⟩ := List.mem_map.mp k
      exact ⟨(hp.mem y hy).1, Int.mul_nonneg (Int.le_of_lt c0) (hp.mem y hy).2⟩
  · simp only [psum]
    rw [e1, ← hP]
    omega
  · simp only [psum]
    rw [e1, e2, ← hP]
    grind
  · simp only [psum]
    rw [e1, e3, ← hP]
    grind
/-- two lists, no way apart: a point in the other hull, or two points each whose ways cross -/
theorem meet_cases {A B : List Pt} (hA0 : A ≠ []) (hB0 : B ≠ []) (h : ¬ Sep (diffs A B) (0, 0)) (hA : ∀ x ∈ A, Sep B x) (hB : ∀ y ∈ B, Sep A y) :
    ∃ a ∈ A, ∃ a' ∈ A, ∃ b ∈ B, ∃ b' ∈ B, turn b b' a * turn b b' a' < 0 ∧ turn a a' b * turn a a' b' < 0 := by
  obtain ⟨X, Y, M, hM, h1, h2⟩ := diffs_hull ((inHull_iff _ (0, 0)).mpr h)
  obtain ⟨b0, hb0⟩ := List.exists_mem_of_ne_nil B hB0
  obtain ⟨a, ha, a', ha', u, v, s, t, u0, v0, s0, t0, e1, e2, e3⟩ := reduce hM h1 (hB b0 hb0)
  have h3 := hull_move hM h2 hb0 s0 t0
  have hM2 : 0 < s * M + t := by
    have := Int.mul_pos s0 hM
    omega
  obtain ⟨b, hb, b', hb', g, k, s', t', g0, k0, s0', t0', f1, f2, f3⟩ := reduce hM2 h3 (hA a ha)
  have hsu : 0 ≤ s' * u := Int.mul_nonneg (Int.le_of_lt s0') u0
  have hsv : 0 ≤ s' * v := Int.mul_nonneg (Int.le_of_lt s0') v0
  have hsM := Int.mul_pos s0' hM2
  refine ⟨a, ha, a', ha', b, hb, b', hb', cross_two (u := s' * u + t') (v := s' * v) (g := g) (h := k) ha ha' hb hb' hA hB (by omega) hsv g0 k0 ?_ ?_ ?_ ?_⟩
  · rw [f1, ← e1]; grind
  · rw [show s' * u + t' + s' * v = s' * (s * M + t) + t' by rw [← e1]; grind]
    omega
  · rw [f2, ← e2]; grind
  · rw [f3, ← e3]; grind
end HP
/-! Parted or met: what the program answers. -/
namespace HP
def minL : List Int → Int
  | [] => 0
  | x :: r => r.foldl min x
def maxL : List Int → Int
  | [] => 0
  | x :: r => r.foldl max x
theorem fold_max_le : ∀ (r : List Int) (x : Int), x ≤ r.foldl max x ∧ ∀ y ∈ r, y ≤ r.foldl max x
  | [], x => ⟨Int.le_refl _, by simp⟩
  | z :: r, x => by
    obtain ⟨h1, h2⟩ := fold_max_le r (max x z)
    rw [List.foldl_cons]
    refine ⟨by omega, fun y hy => ?_⟩
    rcases List.mem_cons.mp hy with e | m
    · subst e; omega
    · exact h2 y m
theorem fold_max_mem : ∀ (r : List Int) (x : Int), r.foldl max x = x ∨ r.foldl max x ∈ r
  | [], x => .inl rfl
  | z :: r, x => by
    rw [List.foldl_cons]
    rcases fold_max_mem r (max x z) with e | m
    · rw [e]
      by_cases h : x ≤ z
      · exact .inr (by rw [show max x z = z by omega]; simp)
      · exact .inl (by omega)
    · exact .inr (List.mem_cons_of_mem _ m)
theorem fold_min_le : ∀ (r : List Int) (x : Int), r.foldl min x ≤ x ∧ ∀ y ∈ r, r.foldl min x ≤ y
  | [], x => ⟨Int.le_refl _, by simp⟩
  | z :: r, x => by
    obtain ⟨h1, h2⟩ := fold_min_le r (min x z)
    rw [List.foldl_cons]
    refine ⟨by omega, fun y hy => ?_⟩
    rcases List.mem_cons.mp hy with e | m
    · subst e; omega
    · exact h2 y m
theorem fold_min_mem : ∀ (r : List Int) (x : Int), r.foldl min x = x ∨ r.foldl min x ∈ r
  | [], x => .inl rfl
  | z :: r, x => by
    rw [List.foldl_cons]
    rcases fold_min_mem r (min x z) with e | m
    · rw [e]
      by_cases h : x ≤ z
      · exact .inl (by omega)
      · exact .inr (by rw [show min x z = z by omega]; simp)
    · exact .inr (List.mem_cons_of_mem _ m)
theorem maxL_ge {l : List Int} {y : Int} (h : y ∈ l) : y ≤ maxL l := by
  cases l with
  | nil => simp at h
  | cons x r =>
    rcases List.mem_cons.mp h with e | m
    · subst e; exact (fold_max_le r y).1
    · exact (fold_max_le r x).2 y m
theorem maxL_mem {l : List Int} (h : l ≠ []) : maxL l ∈ l := by
  cases l with
  | nil => exact absurd rfl h
  | cons x r =>
    rcases fold_max_mem r x with e | m
    · show r.foldl max x ∈ _
      rw [e]; simp
    · exact List.mem_cons_of_mem _ m
theorem minL_le {l : List Int} {y : Int} (h : y ∈ l) : minL l ≤ y := by
  cases l with
  | nil => simp at h
  | cons x r =>
    rcases List.mem_cons.mp h with e | m
    · subst e; exact (fold_min_le r y).1
    · exact (fold_min_le r x).2 y m
theorem minL_mem {l : List Int} (h : l ≠ []) : minL l ∈ l := by
  cases l with
  | nil => exact absurd rfl h
  | cons x r =>
    rcases fold_min_mem r x with e | m
    · show r.foldl min x ∈ _
      rw [e]; simp
    · exact List.mem_cons_of_mem _ m
def sidesL (A B : List Pt) (m : Pt) : Option Line :=
  if minL (A.map (dot2 m)) > maxL (B.map (dot2 m)) then some (2 * m.1, 2 * m.2, 0 - minL (A.map (dot2 m)) - maxL (B.map (dot2 m))) else none
def partingLine (A B : List Pt) : Option Line :=
  if A = [] then some (0, 0, -1)
  else if B = [] then some (0, 0, 1)
  else (waysOf (srt (A ++ B))).findSome? (sidesL A B)
/-- a line apart from both -/
def PartsL (A B : List Pt) (L : Line) : Prop := (∀ a ∈ A, 0 < at3 L.1 L.2.1 L.2.2 a) ∧ ∀ b ∈ B, at3 L.1 L.2.1 L.2.2 b < 0
theorem sides_some {A B : List Pt} {m : Pt} {L : Line} (h : sidesL A B m = some L) : PartsL A B L := by
  unfold sidesL at h
  split at h
  · rename_i k
    cases h
    generalize hx : minL (A.map (dot2 m)) = x at k
    generalize hy : maxL (B.map (dot2 m)) = y at k
    refine ⟨fun a ha => ?_, fun b hb => ?_⟩
    · have : minL (A.map (dot2 m)) ≤ dot2 m a := minL_le (List.mem_map.mpr ⟨a, ha, rfl⟩)
      rw [hx] at this
      unfold dot2 at this
      unfold at3
      simp only
      grind
    · have : dot2 m b ≤ maxL (B.map (dot2 m)) := maxL_ge (List.mem_map.mpr ⟨b, hb, rfl⟩)
      rw [hy] at this
      unfold dot2 at this
      unfold at3
      simp only
      grind
  · cases h
theorem sides_none {A B : List Pt} {m : Pt} (hA : A ≠ []) (hB : B ≠ []) (h : sidesL A B m = none) : ¬ Parts m A B := by
  intro k
  unfold sidesL at h
  split at h
  · cases h
  · rename_i n
    have h1 : minL (A.map (dot2 m)) ∈ A.map (dot2 m) := minL_mem (by simpa using hA)
    have h2 : maxL (B.map (dot2 m)) ∈ B.map (dot2 m) := maxL_mem (by simpa using hB)
    obtain ⟨a, ha, ea⟩ := List.mem_map.mp h1
    obtain ⟨b, hb, eb⟩ := List.mem_map.mp h2
    have := k a ha b hb
    omega
theorem parting_some {A B : List Pt} {L : Line} (h : partingLine A B = some L) : PartsL A B L := by
  unfold partingLine at h
  split at h
  · rename_i e
    cases h
    subst e
    exact ⟨by simp, fun b _ => by unfold at3; simp⟩
  · split at h
    · rename_i e
      cases h
      subst e
      exact ⟨fun a _ => by unfold at3; simp, by simp⟩
    · obtain ⟨m, _, hm⟩ := List.exists_of_findSome?_eq_some h
      exact sides_some hm
theorem parting_none {A B : List Pt} (h : partingLine A B = none) : A ≠ [] ∧ B ≠ [] ∧ ¬ Sep (diffs A B) (0, 0) := by
  unfold partingLine at h
  split at h
  · cases h
  · rename_i hA
    split at h
    · cases h
    · rename_i hB
      refine ⟨hA, hB, fun k => ?_⟩
      obtain ⟨m, hm, hp⟩ := ways_part (S := srt (A ++ B)) hA hB (fun x => by rw [mem_srt, List.mem_append]) k
      rw [List.findSome?_eq_none_iff] at h
      exact sides_none hA hB (h m hm) hp
/-! ### spots -/
abbrev Spot := Int × Int × Int
def spotGcd (f s b : Int) : Int := if b < 0 then 0 - (Int.gcd (Int.gcd f s : Int) b : Int) else (Int.gcd (Int.gcd f s : Int) b : Int)
def spotOf (f s b : Int) : Spot := (f.fdiv (spotGcd f s b), s.fdiv (spotGcd f s b), b.fdiv (spotGcd f s b))
def SpotOk (u : Spot) : Prop := 0 < u.2.2 ∧ Int.gcd (Int.gcd u.1 u.2.1 : Int) u.2.2 = 1
theorem fdiv_of_dvd {g x c : Int} (hg : g ≠ 0) (h : x = g * c) : x.fdiv g = c := by
  rw [h, Int.mul_fdiv_cancel_left _ hg]
theorem spotOf_ok {f s b : Int} (hb : b ≠ 0) : SpotOk (spotOf f s b) ∧ (spotOf f s b).1 * b = f * (spotOf f s b).2.2 ∧ (spotOf f s b).2.1 * b = s * (spotOf f s b).2.2 := by
  obtain ⟨g, hg⟩ : ∃ g : Nat, g = Int.gcd (Int.gcd f s : Int) b := ⟨_, rfl⟩
  have gpos : 0 < g := by rw [hg]; exact Int.gcd_pos_of_ne_zero_right _ hb
  have d0 : (g : Int) ∣ (Int.gcd f s : Int) := by rw [hg]; exact Int.gcd_dvd_left ..
  have d1 : (g : Int) ∣ f := Int.dvd_trans d0 (Int.gcd_dvd_left ..)
  have d2 : (g : Int) ∣ s := Int.dvd_trans d0 (Int.gcd_dvd_right ..)
  have d3 : (g : Int) ∣ b := by rw [hg]; exact Int.gcd_dvd_right ..
  obtain ⟨f', ef⟩ := d1
  obtain ⟨s', es⟩ := d2
  obtain ⟨b', eb⟩ := d3
  have e : Int.gcd (Int.gcd f' s' : Int) b' = 1 := by
    have h1 : Int.gcd f s = g * Int.gcd f' s' := by rw [ef, es, Int.gcd_mul_left, Int.natAbs_natCast]
    have h2 : g = g * Int.gcd (Int.gcd f' s' : Int) b' := by
      conv => lhs; rw [hg, h1, eb]
      rw [Int.natCast_mul, Int.gcd_mul_left, Int.natAbs_natCast]
    exact (Nat.eq_of_mul_eq_mul_left gpos (by omega)).symm
  by_cases hn : b < 0
  · have hs : spotGcd f s b = -(g : Int) := by unfold spotGcd; rw [if_pos hn, ← hg]; omega
    have e1 : f.fdiv (-(g : Int)) = -f' := fdiv_of_dvd (by omega) (by rw [ef]; grind)
    have e2 : s.fdiv (-(g : Int)) = -s' := fdiv_of_dvd (by omega) (by rw [es]; grind)
    have e3 : b.fdiv (-(g : Int)) = -b' := fdiv_of_dvd (by omega) (by rw [eb]; grind)
    unfold spotOf SpotOk
    rw [hs, e1, e2, e3]
    simp only
    have hb' : 0 < -b' := by
      have : 0 < (g : Int) * (-b') := by rw [eb] at hn; grind
      exact pos_of_mul (by omega) this
    refine ⟨⟨hb', ?_⟩, by rw [ef, eb]; grind, by rw [es, eb]; grind⟩
    rw [Int.neg_gcd, Int.gcd_neg, Int.gcd_neg]
    exact e
  · have hs : spotGcd f s b = (g : Int) := by unfold spotGcd; rw [if_neg hn, ← hg]
    have e1 : f.fdiv (g : Int) = f' := fdiv_of_dvd (by omega) ef
    have e2 : s.fdiv (g : Int) = s' := fdiv_of_dvd (by omega) es
    have e3 : b.fdiv (g : Int) = b' := fdiv_of_dvd (by omega) eb
    unfold spotOf SpotOk
    rw [hs, e1, e2, e3]
    simp only
    have hb' : 0 < b' := by
      have : 0 < (g : Int) * b' := by rw [← eb]; omega
      exact pos_of_mul (by omega) this
    exact ⟨⟨hb', e⟩, by rw [ef, eb]; grind, by rw [es, eb]; grind⟩
/-! ### crossing -/
abbrev Meet := Spot × List W × List W
def crossed (A B : List Pt) (a b c d : Nat) : Option Meet :=
  if turn (atN B c) (atN B d) (atN A a) * turn (atN B c) (atN B d) (atN A b) ≥ 0 ∨ turn (atN A a) (atN A b) (atN B c) * turn (atN A a) (atN A b) (atN B d) ≥ 0 then none
  else some (spotOf (turn (atN B c) (atN B d) (atN A a) * (atN A b).1 - turn (atN B c) (atN B d) (atN A b) * (atN A a).1) (turn (atN B c) (atN B d) (atN A a) * (atN A b).2 - turn (atN B c) (atN B d) (atN A b) * (atN A a).2) (turn (atN B c) (atN B d) (atN A a) - turn (atN B c) (atN B d) (atN A b)),
    [weightW a (0 - turn (atN B c) (atN B d) (atN A b)) (turn (atN B c) (atN B d) (atN A a) - turn (atN B c) (atN B d) (atN A b)), weightW b (turn (atN B c) (atN B d) (atN A a)) (turn (atN B c) (atN B d) (atN A a) - turn (atN B c) (atN B d) (atN A b))],
    [weightW c (0 - turn (atN A a) (atN A b) (atN B d)) (turn (atN A a) (atN A b) (atN B c) - turn (atN A a) (atN A b) (atN B d)), weightW d (turn (atN A a) (atN A b) (atN B c)) (turn (atN A a) (atN A b) (atN B c) - turn (atN A a) (atN A b) (atN B d))])
def crossing (A B : List Pt) : Option Meet := (List.range A.length).findSome? fun a => (List.range a).findSome? fun b => (List.range B.length).findSome? fun c => (List.range c).findSome? fun d => crossed A B b a d c
def meeting (A B : List Pt) : Option Meet :=
  match (List.range A.length).findSome? (fun k => (within B (atN A k)).map fun ws => (((((atN A k).1, (atN A k).2, 1), [(((k : Nat) : Int), 1, 1)], ws)) : Meet)) with
  | some m => some m
  | none => match (List.range B.length).findSome? (fun k => (within A (atN B k)).map fun ws => (((((atN B k).1, (atN B k).2, 1), ws, [(((k : Nat) : Int), 1, 1)])) : Meet)) with
    | some m => some m
    | none => crossing A B
/-- two weights of one sign as parts of a whole -/
theorem wok_two {ps : List Pt} {i j : Nat} {x y w X Y B : Int} (hij : i < j) (hj : j < ps.length) (hs : x + y = w) (hx : (0 < x ∧ 0 < w) ∨ (x < 0 ∧ w < 0)) (hy : (0 < y ∧ 0 < w) ∨ (y < 0 ∧ w < 0))
    (ex : (x * (atN ps i).1 + y * (atN ps j).1) * B = X * w) (ey : (x * (atN ps i).2 + y * (atN ps j).2) * B = Y * w) : WOk ps [weightW i x w, weightW j y w] X Y B := by
  have hw : w ≠ 0 := by omega
  obtain ⟨x1, x2, e1, h1, h2, h3, h4⟩ := weightW_ok (i : Nat) x w hw
  obtain ⟨y1, y2, f1, k1, k2, k3, k4⟩ := weightW_ok (j : Nat) y w hw
  have hp1 := h4 hx
  have hp2 := k4 hy
  -- the sign of the whole
  obtain ⟨g, hg, hgp⟩ : ∃ g : Int, (g = 1 ∨ g = -1) ∧ 0 < g * w := by
    rcases Int.lt_or_le w 0 with k | k
    · exact ⟨-1, .inr rfl, by omega⟩
    · exact ⟨1, .inl rfl, by omega⟩
  rw [e1, f1]
  have pi : ptAt ps (i : Nat) = atN ps i := rfl
  have pj : ptAt ps (j : Nat) = atN ps j := rfl
  have hne : ¬ ((j : Int) = (i : Int)) := by omega
  refine wok_of ps _ (g * w) X Y B (fun u => if u.1 = (i : Int) then g * x else g * y) hgp ⟨by simp, by simp⟩ ?_ ?_ ?_ ?_ ?_ ?_
  · simp only [List.pairwise_cons, List.mem_cons, List.not_mem_nil, or_false, forall_eq, List.Pairwise.nil, and_true]
    exact ⟨by omega, fun _ h => by cases h⟩
  · intro u hu
    simp only [List.mem_cons, List.not_mem_nil, or_false] at hu
    rcases hu with k | k <;> subst k
    · exact ⟨by simp only; omega, by simp only; omega, hp1, h1, h3⟩
    · exact ⟨by simp only; omega, by simp only; omega, hp2, k1, k3⟩
  · intro u hu
    simp only [List.mem_cons, List.not_mem_nil, or_false] at hu
    rcases hu with k | k <;> subst k
    · simp only [if_true]; grind
    · simp only [if_neg hne]; grind
  · simp only [wsum, if_true, if_neg hne]; rw [← hs]; grind
  · simp only [wsum, if_true, if_neg hne, pi, pj]
    have := congrArg (g * ·) ex
    grind
  · simp only [wsum, if_true, if_neg hne, pi, pj]
    have := congrArg (g * ·) ey
    grind
theorem signs {p q : Int} (h : p * q < 0) : ((0 < 0 - q ∧ 0 < p - q) ∨ (0 - q < 0 ∧ p - q < 0)) ∧ ((0 < p ∧ 0 < p - q) ∨ (p < 0 ∧ p - q < 0)) := by
  rcases Int.lt_trichotomy p 0 with k | k | k
  · have : 0 < q := by
      have e : 0 < (-p) * q := by grind
      exact pos_of_mul (by omega) e
    omega
  · subst k; simp at h
  · have : 0 < -q := by
      have e : 0 < p * (-q) := by grind
      exact pos_of_mul k e
    omega
theorem crossed_some {A B : List Pt} {a b c d : Nat} {m : Meet} (hab : a < b) (hb : b < A.length) (hcd : c < d) (hd : d < B.length) (h : crossed A B a b c d = some m) :
    SpotOk m.1 ∧ WOk A m.2.1 m.1.1 m.1.2.1 m.1.2.2 ∧ WOk B m.2.2 m.1.1 m.1.2.1 m.1.2.2 := by
  unfold crossed at h
  split at h
  · cases h
  · rename_i n
    cases h
    have i1 : turn (atN B c) (atN B d) (atN A a) - turn (atN B c) (atN B d) (atN A b) = - (turn (atN A a) (atN A b) (atN B c) - turn (atN A a) (atN A b) (atN B d)) := by unfold turn; grind
    -- the spot from both sides
    have ix : (0 - turn (atN A a) (atN A b) (atN B d)) * (atN B c).1 + turn (atN A a) (atN A b) (atN B c) * (atN B d).1 = -(turn (atN B c) (atN B d) (atN A a) * (atN A b).1 - turn (atN B c) (atN B d) (atN A b) * (atN A a).1) := by unfold turn; grind
    have iy : (0 - turn (atN A a) (atN A b) (atN B d)) * (atN B c).2 + turn (atN A a) (atN A b) (atN B c) * (atN B d).2 = -(turn (atN B c) (atN B d) (atN A a) * (atN A b).2 - turn (atN B c) (atN B d) (atN A b) * (atN A a).2) := by unfold turn; grind
    generalize turn (atN B c) (atN B d) (atN A a) = p at *
    generalize turn (atN B c) (atN B d) (atN A b) = q at *
    generalize turn (atN A a) (atN A b) (atN B c) = r at *
    generalize turn (atN A a) (atN A b) (atN B d) = s at *
    have hpq : p * q < 0 := by omega
    have hrs : r * s < 0 := by omega
    obtain ⟨s1, s2⟩ := signs hpq
    obtain ⟨s3, s4⟩ := signs hrs
    obtain ⟨ok, e1, e2⟩ := spotOf_ok (f := p * (atN A b).1 - q * (atN A a).1) (s := p * (atN A b).2 - q * (atN A a).2) (b := p - q) (by omega)
    generalize spotOf (p * (atN A b).1 - q * (atN A a).1) (p * (atN A b).2 - q * (atN A a).2) (p - q) = S at *
    refine ⟨ok, wok_two hab hb (by omega) s1 s2 ?_ ?_, wok_two hcd hd (by omega) s3 s4 ?_ ?_⟩
    · rw [e1]; grind
    · rw [e2]; grind
    · have : r - s = -(p - q) := by omega
      rw [this, ix]; grind
    · have : r - s = -(p - q) := by omega
      rw [this, iy]; grind
theorem wok_one {ps : List Pt} {k : Nat} (hk : k < ps.length) : WOk ps [(((k : Nat) : Int), 1, 1)] (atN ps k).1 (atN ps k).2 1 := by
  have pk : ptAt ps (k : Nat) = atN ps k := rfl
  refine wok_of ps _ 1 _ _ _ (fun _ => 1) (by omega) ⟨by simp, by simp⟩ (List.pairwise_singleton _ _) ?_ ?_ ?_ ?_ ?_
  · intro u hu
    rw [List.mem_singleton.mp hu]
    exact ⟨by simp only; omega, by simp only; omega, by simp, by simp, by simp⟩
  · intro u hu
    rw [List.mem_singleton.mp hu]
  · simp [wsum]
  · simp [wsum, pk]
  · simp [wsum, pk]
theorem meeting_some {A B : List Pt} {m : Meet} (h : meeting A B = some m) : SpotOk m.1 ∧ WOk A m.2.1 m.1.1 m.1.2.1 m.1.2.2 ∧ WOk B m.2.2 m.1.1 m.1.2.1 m.1.2.2 := by
  unfold meeting at h
  split at h
  · rename_i m' hm
    cases h
    obtain ⟨k, hk, e⟩ := List.exists_of_findSome?_eq_some hm
    obtain ⟨ws, hw, e2⟩ := Option.map_eq_some_iff.mp e
    subst e2
    refine ⟨⟨by simp, by simp⟩, wok_one (List.mem_range.mp hk), (within_some hw).1⟩
  · split at h
    · rename_i m' hm
      cases h
      obtain ⟨k, hk, e⟩ := List.exists_of_findSome?_eq_some hm
      obtain ⟨ws, hw, e2⟩ := Option.map_eq_some_iff.mp e
      subst e2
      refine ⟨⟨by simp, by simp⟩, (within_some hw).1, wok_one (List.mem_range.mp hk)⟩
    · unfold crossing at h
      obtain ⟨a, ha, h⟩ := List.exists_of_findSome?_eq_some h
      obtain ⟨b, hb, h⟩ := List.exists_of_findSome?_eq_some h
      obtain ⟨c, hc, h⟩ := List.exists_of_findSome?_eq_some h
      obtain ⟨d, hd, h⟩ := List.exists_of_findSome?_eq_some h
      exact crossed_some (List.mem_range.mp hb) (List.mem_range.mp ha) (List.mem_range.mp hd) (List.mem_range.mp hc) h
theorem cross_order {A B : List Pt} {i j k l : Nat} (hi : i < A.length) (hj : j < A.length) (hk : k < B.length) (hl : l < B.length)
    (h1 : turn (atN B k) (atN B l) (atN A i) * turn (atN B k) (atN B l) (atN A j) < 0) (h2 : turn (atN A i) (atN A j) (atN B k) * turn (atN A i) (atN A j) (atN B l) < 0) : crossing A B ≠ none := by
  intro h
  unfold crossing at h
  rw [List.findSome?_eq_none_iff] at h
  -- told for rising indices
  have key : ∀ i j k l : Nat, i < j → j < A.length → k < l → l < B.length → turn (atN B k) (atN B l) (atN A i) * turn (atN B k) (atN B l) (atN A j) < 0 → turn (atN A i) (atN A j) (atN B k) * turn (atN A i) (atN A j) (atN B l) < 0 → False := by
    intro i j k l hij hj hkl hl h1 h2
    have h3 := h j (List.mem_range.mpr hj)
    rw [List.findSome?_eq_none_iff] at h3
    have h4 := h3 i (List.mem_range.mpr hij)
    rw [List.findSome?_eq_none_iff] at h4
    have h5 := h4 l (List.mem_range.mpr hl)
    rw [List.findSome?_eq_none_iff] at h5
    have h6 := h5 k (List.mem_range.mpr hkl)
    unfold crossed at h6
    rw [if_neg (by omega)] at h6
    cases h6
  have flip : ∀ x y z : Pt, turn y x z = - turn x y z := fun x y z => turn_swap y x z
  have ne1 : i ≠ j := fun e => by
    subst e
    rw [turn_self1] at h2
    simp at h2
  have ne2 : k ≠ l := fun e => by
    subst e
    rw [turn_self1] at h1
    simp at h1
  have g1 : turn (atN B k) (atN B l) (atN A j) * turn (atN B k) (atN B l) (atN A i) < 0 := by rw [Int.mul_comm]; exact h1
  have g2 : turn (atN A i) (atN A j) (atN B l) * turn (atN A i) (atN A j) (atN B k) < 0 := by rw [Int.mul_comm]; exact h2
  rcases Nat.lt_or_gt_of_ne ne1 with a | a <;> rcases Nat.lt_or_gt_of_ne ne2 with b | b
  · exact key i j k l a hj b hl h1 h2
  · exact key i j l k a hj b hk (by rw [flip (atN B k) (atN B l), flip (atN B k) (atN B l)]; grind) g2
  · exact key j i k l a hi b hl g1 (by rw [flip (atN A i) (atN A j), flip (atN A i) (atN A j)]; grind)
  · exact key j i l k a hi b hk (by rw [flip (atN B k) (atN B l), flip (atN B k) (atN B l)]; grind) (by rw [flip (atN A i) (atN A j), flip (atN A i) (atN A j)]; grind)
theorem meeting_none {A B : List Pt} (h : partingLine A B = none) : meeting A B ≠ none := by
  obtain ⟨hA, hB, hs⟩ := parting_none h
  intro k
  unfold meeting at k
  split at k
  · cases k
  · rename_i n1
    split at k
    · cases k
    · rename_i n2
      rw [List.findSome?_eq_none_iff] at n1 n2
      have s1 : ∀ x ∈ A, Sep B x := fun x hx => by
        obtain ⟨i, hi, rfl⟩ := atN_of hx
        have := n1 i (List.mem_range.mpr hi)
        rw [Option.map_eq_none_iff] at this
        exact (within_iff _ _).mp this
      have s2 : ∀ x ∈ B, Sep A x := fun x hx => by
        obtain ⟨i, hi, rfl⟩ := atN_of hx
        have := n2 i (List.mem_range.mpr hi)
        rw [Option.map_eq_none_iff] at this
        exact (within_iff _ _).mp this
      obtain ⟨a, ha, a', ha', b, hb, b', hb', h1, h2⟩ := meet_cases hA hB hs s1 s2
      obtain ⟨i, hi, rfl⟩ := atN_of ha
      obtain ⟨j, hj, rfl⟩ := atN_of ha'
      obtain ⟨l, hl, rfl⟩ := atN_of hb
      obtain ⟨m, hm, rfl⟩ := atN_of hb'
      exact cross_order hi hj hl hm h1 h2 k
end HP
namespace HP
theorem fdiv_le {g a : Int} (hg : g ≠ 0) (h : g ∣ a) : (a.fdiv g).natAbs ≤ a.natAbs := by
  obtain ⟨c, e⟩ := h
  rw [fdiv_of_dvd hg e, e, Int.natAbs_mul]
  have : 0 < g.natAbs := by omega
  exact Nat.le_mul_of_pos_left _ this
theorem signGcd_dvd {a b : Int} : signGcd a b ∣ a ∧ signGcd a b ∣ b := by
  unfold signGcd
  split
  · exact ⟨Int.neg_dvd.mpr (Int.gcd_dvd_left ..), Int.neg_dvd.mpr (Int.gcd_dvd_right ..)⟩
  · exact ⟨Int.gcd_dvd_left .., Int.gcd_dvd_right ..⟩
theorem signGcd_ne {a b : Int} (hb : b ≠ 0) : signGcd a b ≠ 0 := by
  have h1 : 0 < Int.gcd a b := Int.gcd_pos_of_ne_zero_right a hb
  unfold signGcd
  split <;> omega
theorem weightW_le {n a b : Int} (hb : b ≠ 0) : (weightW n a b).2.1.natAbs ≤ a.natAbs ∧ (weightW n a b).2.2.natAbs ≤ b.natAbs :=
  ⟨fdiv_le (signGcd_ne hb) signGcd_dvd.1, fdiv_le (signGcd_ne hb) signGcd_dvd.2⟩
theorem spotOf_le {f s b : Int} (hb : b ≠ 0) : (spotOf f s b).1.natAbs ≤ f.natAbs ∧ (spotOf f s b).2.1.natAbs ≤ s.natAbs ∧ (spotOf f s b).2.2.natAbs ≤ b.natAbs := by
  have h1 : 0 < Int.gcd (Int.gcd f s : Int) b := Int.gcd_pos_of_ne_zero_right _ hb
  have hn : spotGcd f s b ≠ 0 := by unfold spotGcd; split <;> omega
  have d0 : (Int.gcd (Int.gcd f s : Int) b : Int) ∣ (Int.gcd f s : Int) := Int.gcd_dvd_left ..
  have hd : spotGcd f s b ∣ f ∧ spotGcd f s b ∣ s ∧ spotGcd f s b ∣ b := by
    have d1 : (Int.gcd (Int.gcd f s : Int) b : Int) ∣ f := Int.dvd_trans d0 (Int.gcd_dvd_left ..)
    have d2 : (Int.gcd (Int.gcd f s : Int) b : Int) ∣ s := Int.dvd_trans d0 (Int.gcd_dvd_right ..)
    have d3 : (Int.gcd (Int.gcd f s : Int) b : Int) ∣ b := Int.gcd_dvd_right ..
    unfold spotGcd
    split
    · rw [Int.zero_sub]
      exact ⟨Int.neg_dvd.mpr d1, Int.neg_dvd.mpr d2, Int.neg_dvd.mpr d3⟩
    · exact ⟨d1, d2, d3⟩
  exact ⟨fdiv_le hn hd.1, fdiv_le hn hd.2.1, fdiv_le hn hd.2.2⟩
end HP
/-! Depth: the least number of ways that do not lead away. -/
namespace HP
def cross2 (u v : Pt) : Int := u.1 * v.2 - u.2 * v.1
def greatOf (ws : List Pt) : Int := ws.foldl (fun g w => g + w.1 * w.1 + w.2 * w.2) 1
def leanP (g : Int) (w : Pt) (side l : Int) : Pt := (0 - side * w.2 * g + l * w.1, side * w.1 * g + l * w.2)
def leanAll (g : Int) (w : Pt) : List Pt := [leanP g w 1 1, leanP g w 1 (-1), leanP g w (-1) 1, leanP g w (-1) (-1)]
def leanings (ws : List Pt) : List Pt := ((1, 0) :: ws.flatMap (leanAll (greatOf ws))).filter fun m => decide (m ≠ (0, 0))
def counted (ws : List Pt) (m : Pt) : Nat := (ws.filter fun w => decide (0 ≤ dot2 m w)).length
theorem sq_nonneg (x : Int) : 0 ≤ x * x := by
  rcases Int.le_total 0 x with h | h
  · exact Int.mul_nonneg h h
  · have := Int.mul_nonneg (a := -x) (b := -x) (by omega) (by omega)
    grind
theorem great_aux : ∀ (ws : List Pt) (g : Int), g ≤ ws.foldl (fun g w => g + w.1 * w.1 + w.2 * w.2) g ∧ ∀ w ∈ ws, g + (w.1 * w.1 + w.2 * w.2) ≤ ws.foldl (fun g w => g + w.1 * w.1 + w.2 * w.2) g
  | [], g => ⟨Int.le_refl _, by simp⟩
  | v :: ws, g => by
    obtain ⟨h1, h2⟩ := great_aux ws (g + v.1 * v.1 + v.2 * v.2)
    have s1 := sq_nonneg v.1
    have s2 := sq_nonneg v.2
    rw [List.foldl_cons]
    refine ⟨by omega, fun w hw => ?_⟩
    rcases List.mem_cons.mp hw with e | hw
    · subst e; omega
    · have := h2 w hw
      omega
theorem great_pos (ws : List Pt) : 0 < greatOf ws := by
  have := (great_aux ws 1).1
  unfold greatOf
  omega
theorem dot_lt_great {ws : List Pt} {u v : Pt} (hu : u ∈ ws) (hv : v ∈ ws) : dot2 u v < greatOf ws ∧ -(greatOf ws) < dot2 u v := by
  have h1 := (great_aux ws 1).2 u hu
  have h2 := (great_aux ws 1).2 v hv
  unfold greatOf
  generalize ws.foldl (fun g w => g + w.1 * w.1 + w.2 * w.2) 1 = g at *
  have a1 := sq_nonneg (u.1 - v.1)
  have a2 := sq_nonneg (u.2 - v.2)
  have b1 := sq_nonneg (u.1 + v.1)
  have b2 := sq_nonneg (u.2 + v.2)
  have e1 : (u.1 - v.1) * (u.1 - v.1) = u.1 * u.1 - 2 * (u.1 * v.1) + v.1 * v.1 := by grind
  have e2 : (u.2 - v.2) * (u.2 - v.2) = u.2 * u.2 - 2 * (u.2 * v.2) + v.2 * v.2 := by grind
  have e3 : (u.1 + v.1) * (u.1 + v.1) = u.1 * u.1 + 2 * (u.1 * v.1) + v.1 * v.1 := by grind
  have e4 : (u.2 + v.2) * (u.2 + v.2) = u.2 * u.2 + 2 * (u.2 * v.2) + v.2 * v.2 := by grind
  unfold dot2
  constructor <;> omega
theorem dot_lean (g : Int) (w q : Pt) (side l : Int) : dot2 (leanP g w side l) q = side * cross2 w q * g + l * dot2 w q := by
  unfold dot2 leanP cross2
  simp only
  grind
theorem par_dot {u v : Pt} (hu : u ≠ (0, 0)) (hv : v ≠ (0, 0)) (h : cross2 u v = 0) : dot2 u v ≠ 0 := by
  intro k
  have hu' : u.1 ≠ 0 ∨ u.2 ≠ 0 := by
    by_cases z : u.1 = 0
    · right; intro z2; exact hu (Prod.ext z z2)
    · exact .inl z
  have sp := sq_pos hu'
  unfold cross2 at h
  unfold dot2 at k
  have e1 : (u.1 * u.1 + u.2 * u.2) * v.1 = 0 := by grind
  have e2 : (u.1 * u.1 + u.2 * u.2) * v.2 = 0 := by grind
  have z1 : v.1 = 0 := by rcases Int.mul_eq_zero.mp e1 with z | z <;> omega
  have z2 : v.2 = 0 := by rcases Int.mul_eq_zero.mp e2 with z | z <;> omega
  exact hv (Prod.ext z1 z2)
theorem big_pos {c g d : Int} (hc : 0 < c) (h1 : -g < d) (hg : 0 < g) : 0 < c * g + d := by
  have : g ≤ c * g := by
    have := Int.mul_le_mul_of_nonneg_right (show 1 ≤ c by omega) (Int.le_of_lt hg)
    omega
  omega
/-- what a leaning counts -/
theorem lean_counts {ws : List Pt} {w q : Pt} (hw : w ∈ ws) (hq : q ∈ ws) (hw0 : w ≠ (0, 0)) {side l : Int} (hs : side = 1 ∨ side = -1) (hl : l = 1 ∨ l = -1) :
    0 ≤ dot2 (leanP (greatOf ws) w side l) q ↔ (0 < side * cross2 w q ∨ q = (0, 0)) ∨ (side * cross2 w q = 0 ∧ 0 < l * dot2 w q) := by
  rw [dot_lean]
  obtain ⟨d1, d2⟩ := dot_lt_great hw hq
  have gp := great_pos ws
  have hld : -(greatOf ws) < l * dot2 w q ∧ l * dot2 w q < greatOf ws := by rcases hl with e | e <;> subst e <;> omega
  by_cases q0 : q = (0, 0)
  · subst q0
    have z1 : cross2 w (0, 0) = 0 := by unfold cross2; simp
    have z2 : dot2 w (0, 0) = 0 := by unfold dot2; simp
    rw [z1, z2]
    simp
  · generalize greatOf ws = g at *
    rcases Int.lt_trichotomy (side * cross2 w q) 0 with c | c | c
    · have k := big_pos (c := -(side * cross2 w q)) (g := g) (d := -(l * dot2 w q)) (by omega) (by omega) gp
      have e : -(side * cross2 w q) * g = -(side * cross2 w q * g) := Int.neg_mul _ _
      constructor
      · intro h; omega
      · rintro ((h | h) | h)
        · omega
        · exact absurd h q0
        · omega
    · rw [c, Int.zero_mul, Int.zero_add]
      have hc : cross2 w q = 0 := by rcases hs with e | e <;> subst e <;> omega
      have hd := par_dot hw0 q0 hc
      have hld0 : l * dot2 w q ≠ 0 := by rcases hl with e | e <;> subst e <;> omega
      constructor
      · intro h; exact .inr ⟨rfl, by omega⟩
      · rintro ((h | h) | h)
        · omega
        · exact absurd h q0
        · omega
    · have k := big_pos (c := side * cross2 w q) (g := g) (d := l * dot2 w q) c (by omega) gp
      exact ⟨fun _ => .inl (.inl c), fun _ => by omega⟩
/-! the law's own reckoning -/
def leftN (ws : List Pt) (w : Pt) (side : Int) : Nat := (ws.filter fun q => decide (0 < side * cross2 w q ∨ q = (0, 0))).length
def aheadN (ws : List Pt) (w : Pt) (side : Int) : Nat := (ws.filter fun q => decide (¬ (0 < side * cross2 w q ∨ q = (0, 0)) ∧ side * cross2 w q = 0 ∧ 0 < dot2 w q)).length
def behindN (ws : List Pt) (w : Pt) (side : Int) : Nat := (ws.filter fun q => decide (¬ (0 < side * cross2 w q ∨ q = (0, 0)) ∧ ¬ (side * cross2 w q = 0 ∧ 0 < dot2 w q) ∧ side * cross2 w q = 0)).length
def lawC (ws : List Pt) (w : Pt) (side : Int) : Nat := leftN ws w side + min (aheadN ws w side) (behindN ws w side)
def lawStep (ws : List Pt) (b : Nat) (w : Pt) : Nat := if w ≠ (0, 0) then min (min b (lawC ws w 1)) (lawC ws w (-1)) else b
def lawDepth (ws : List Pt) : Nat := ws.foldl (lawStep ws) ws.length
theorem filter_two {α : Type} {p q r : α → Bool} : ∀ (l : List α), (∀ x ∈ l, p x = (q x || r x)) → (∀ x ∈ l, ¬ (q x = true ∧ r x = true)) → (l.filter p).length = (l.filter q).length + (l.filter r).length
  | [], _, _ => rfl
  | x :: l, h1, h2 => by
    have ih := filter_two l (fun y hy => h1 y (List.mem_cons_of_mem _ hy)) fun y hy => h2 y (List.mem_cons_of_mem _ hy)
    have e1 := h1 x (by simp)
    have e2 := h2 x (by simp)
    cases hq : q x <;> cases hr : r x
    · rw [hq, hr] at e1
      rw [List.filter_cons_of_neg (by rw [e1]; decide), List.filter_cons_of_neg (by rw [hq]; decide), List.filter_cons_of_neg (by rw [hr]; decide), ih]
    · rw [hq, hr] at e1
      rw [List.filter_cons_of_pos (by rw [e1]; decide), List.filter_cons_of_neg (by rw [hq]; decide), List.filter_cons_of_pos hr, List.length_cons, List.length_cons, ih]
      omega
    · rw [hq, hr] at e1
      rw [List.filter_cons_of_pos (by rw [e1]; decide), List.filter_cons_of_pos hq, List.filter_cons_of_neg (by rw [hr]; decide), List.length_cons, List.length_cons, ih]
      omega
    · exact absurd ⟨hq, hr⟩ e2
theorem count_ahead {ws : List Pt} {w : Pt} (hw : w ∈ ws) (hw0 : w ≠ (0, 0)) {side : Int} (hs : side = 1 ∨ side = -1) : counted ws (leanP (greatOf ws) w side 1) = leftN ws w side + aheadN ws w side := by
  unfold counted leftN aheadN
  refine filter_two ws (fun q hq => ?_) (fun q hq => ?_)
  · rw [← Bool.decide_or]
    refine decide_eq_decide.mpr ((lean_counts hw hq hw0 hs (.inl rfl)).trans ?_)
    rw [Int.one_mul]
    constructor
    · rintro (h | h)
      · exact .inl h
      · by_cases k : 0 < side * cross2 w q ∨ q = (0, 0)
        · exact .inl k
        · exact .inr ⟨k, h⟩
    · rintro (h | h)
      · exact .inl h
      · exact .inr h.2
  · simp only [decide_eq_true_eq]
    exact fun h => h.2.1 h.1
theorem count_behind {ws : List Pt} {w : Pt} (hw : w ∈ ws) (hw0 : w ≠ (0, 0)) {side : Int} (hs : side = 1 ∨ side = -1) : counted ws (leanP (greatOf ws) w side (-1)) = leftN ws w side + behindN ws w side := by
  unfold counted leftN behindN
  refine filter_two ws (fun q hq => ?_) (fun q hq => ?_)
  · rw [← Bool.decide_or]
    refine decide_eq_decide.mpr ((lean_counts hw hq hw0 hs (.inr rfl)).trans ?_)
    constructor
    · rintro (h | h)
      · exact .inl h
      · by_cases k : 0 < side * cross2 w q ∨ q = (0, 0)
        · exact .inl k
        · exact .inr ⟨k, by omega, h.1⟩
    · rintro (h | ⟨h1, h2, h3⟩)
      · exact .inl h
      · refine .inr ⟨h3, ?_⟩
        have hc : cross2 w q = 0 := by rcases hs with e | e <;> subst e <;> omega
        have := par_dot hw0 (fun e => h1 (.inr e)) hc
        omega
  · simp only [decide_eq_true_eq]
    exact fun h => h.2.1 h.1
/-! the least over all ways -/
theorem lean_ne {ws : List Pt} {w : Pt} (hw : w ∈ ws) (hw0 : w ≠ (0, 0)) {side l : Int} (hl : l = 1 ∨ l = -1) : leanP (greatOf ws) w side l ≠ (0, 0) := by
  intro e
  have h := dot_lean (greatOf ws) w w side l
  rw [e] at h
  have z1 : dot2 (0, 0) w = 0 := by unfold dot2; simp
  have z2 : cross2 w w = 0 := by unfold cross2; grind
  rw [z1, z2] at h
  have hd := par_dot hw0 hw0 z2
  have : l * dot2 w w = 0 := by grind
  rcases hl with e | e <;> subst e <;> omega
theorem mem_leanings {ws : List Pt} {w : Pt} (hw : w ∈ ws) (hw0 : w ≠ (0, 0)) {side l : Int} (hs : side = 1 ∨ side = -1) (hl : l = 1 ∨ l = -1) : leanP (greatOf ws) w side l ∈ leanings ws := by
  unfold leanings
  rw [List.mem_filter]
  refine ⟨List.mem_cons_of_mem _ (List.mem_flatMap.mpr ⟨w, hw, ?_⟩), decide_eq_true (lean_ne hw hw0 hl)⟩
  unfold leanAll
  rcases hs with e | e <;> rcases hl with e2 | e2 <;> subst e <;> subst e2 <;> simp
theorem filter_mono {α : Type} {p q : α → Bool} : ∀ (l : List α), (∀ x ∈ l, p x = true → q x = true) → (l.filter p).length ≤ (l.filter q).length
  | [], _ => Nat.le_refl _
  | x :: l, h => by
    have ih := filter_mono l fun y hy => h y (List.mem_cons_of_mem _ hy)
    cases hp : p x with
    | true =>
      rw [List.filter_cons_of_pos hp, List.filter_cons_of_pos (h x (by simp) hp), List.length_cons, List.length_cons]
      omega
    | false =>
      rw [List.filter_cons_of_neg (by rw [hp]; decide)]
      cases hq : q x with
      | true => rw [List.filter_cons_of_pos hq, List.length_cons]; omega
      | false => rw [List.filter_cons_of_neg (by rw [hq]; decide)]; exact ih
/-- the last one by turning, of those that lead away -/
theorem extreme (n : Pt) : ∀ (l : List Pt), l ≠ [] → (∀ w ∈ l, dot2 n w < 0) → ∃ u ∈ l, ∀ w ∈ l, 0 ≤ cross2 u w
  | [], h, _ => absurd rfl h
  | [a], _, _ => ⟨a, by simp, fun w hw => by rw [List.mem_singleton.mp hw]; unfold cross2; grind⟩
  | a :: b :: l, _, h => by
    obtain ⟨u, hu, hall⟩ := extreme n (b :: l) (by simp) fun w hw => h w (List.mem_cons_of_mem _ hw)
    have ha := h a (by simp)
    have hu' := h u (List.mem_cons_of_mem _ hu)
    rcases Int.le_total 0 (cross2 u a) with k | k
    · refine ⟨u, List.mem_cons_of_mem _ hu, fun w hw => ?_⟩
      rcases List.mem_cons.mp hw with e | hw
      · rw [e]; exact k
      · exact hall w hw
    · refine ⟨a, by simp, fun w hw => ?_⟩
      rcases List.mem_cons.mp hw with e | hw
      · rw [e]; unfold cross2; grind
      · have h1 : 0 ≤ cross2 a u := by unfold cross2 at *; grind
        have h2 := hall w hw
        have hw' := h w (List.mem_cons_of_mem _ hw)
        -- (n.u) (a x w) = (n.a) (u x w) + (n.w) (a x u)
        have e : dot2 n u * cross2 a w = dot2 n a * cross2 u w + dot2 n w * cross2 a u := by unfold dot2 cross2; grind
        have p1 := Int.mul_nonneg (a := -dot2 n a) (b := cross2 u w) (by omega) h2
        have p2 := Int.mul_nonneg (a := -dot2 n w) (b := cross2 a u) (by omega) h1
        have p3 : 0 ≤ (-dot2 n u) * cross2 a w := by grind
        exact nonneg_of_mul (by omega) p3
theorem counted_le (ws : List Pt) (m : Pt) : counted ws m ≤ ws.length := List.length_filter_le _ _
/-- any way is matched by a leaning -/
theorem lean_best {ws : List Pt} (h : ∃ w ∈ ws, w ≠ (0, 0)) (n : Pt) : ∃ w ∈ ws, w ≠ (0, 0) ∧ counted ws (leanP (greatOf ws) w (-1) (-1)) ≤ counted ws n := by
  by_cases hN : ws.filter (fun w => decide (dot2 n w < 0)) = []
  · obtain ⟨w, hw, hw0⟩ := h
    refine ⟨w, hw, hw0, ?_⟩
    have : counted ws n = ws.length := by
      unfold counted
      rw [List.filter_eq_self.mpr fun q hq => ?_]
      have := List.filter_eq_nil_iff.mp hN q hq
      simp only [decide_eq_true_eq] at this
      exact decide_eq_true (by omega)
    rw [this]
    exact counted_le _ _
  · obtain ⟨u, hu, hall⟩ := extreme n _ hN fun w hw => by
      have := (List.mem_filter.mp hw).2
      simpa using this
    obtain ⟨hu1, hu2⟩ := List.mem_filter.mp hu
    have hu3 : dot2 n u < 0 := by simpa using hu2
    have hu0 : u ≠ (0, 0) := fun e => by
      rw [e] at hu3
      unfold dot2 at hu3
      simp at hu3
    refine ⟨u, hu1, hu0, ?_⟩
    unfold counted
    refine filter_mono ws fun q hq k => ?_
    have k1 : 0 ≤ dot2 (leanP (greatOf ws) u (-1) (-1)) q := by simpa using k
    refine decide_eq_true ?_
    rcases Int.lt_or_le (dot2 n q) 0 with c | c
    · exfalso
      have hc := hall q (List.mem_filter.mpr ⟨hq, decide_eq_true c⟩)
      have hq0 : q ≠ (0, 0) := fun e => by
        rw [e] at c
        unfold dot2 at c
        simp at c
      rcases (lean_counts hu1 hq hu0 (.inr rfl) (.inr rfl)).mp k1 with (h1 | h1) | ⟨h1, h2⟩
      · omega
      · exact hq0 h1
      · have hx : cross2 u q = 0 := by omega
        -- along each other, both led away by n: ahead
        have e : (u.1 * u.1 + u.2 * u.2) * dot2 n q = dot2 u q * dot2 n u := by unfold dot2 cross2 at *; grind
        have hu' : u.1 ≠ 0 ∨ u.2 ≠ 0 := by
          by_cases z : u.1 = 0
          · right; intro z2; exact hu0 (Prod.ext z z2)
          · exact .inl z
        have sp := sq_pos hu'
        have p1 := Int.mul_pos sp (show 0 < -dot2 n q by omega)
        have p2 := Int.mul_nonneg (a := -dot2 u q) (b := -dot2 n u) (by omega) (by omega)
        grind
    · exact c
/-- k is the least count of all ways that are not nought -/
def IsDepth (ws : List Pt) (k : Nat) : Prop := (∃ m, m ≠ (0, 0) ∧ counted ws m = k) ∧ ∀ m, m ≠ (0, 0) → k ≤ counted ws m
theorem IsDepth.unique {ws : List Pt} {j k : Nat} (h1 : IsDepth ws j) (h2 : IsDepth ws k) : j = k := by
  obtain ⟨⟨m, hm, e⟩, a⟩ := h1
  obtain ⟨⟨m', hm', e'⟩, a'⟩ := h2
  have := a m' hm'
  have := a' m hm
  omega
theorem law_fold (ws : List Pt) : ∀ (l : List Pt) (b : Nat), l.foldl (lawStep ws) b ≤ b ∧ (∀ w ∈ l, w ≠ (0, 0) → l.foldl (lawStep ws) b ≤ lawC ws w 1 ∧ l.foldl (lawStep ws) b ≤ lawC ws w (-1)) ∧
    (l.foldl (lawStep ws) b = b ∨ ∃ w ∈ l, w ≠ (0, 0) ∧ ∃ side : Int, (side = 1 ∨ side = -1) ∧ l.foldl (lawStep ws) b = lawC ws w side)
  | [], b => ⟨Nat.le_refl _, by simp, .inl rfl⟩
  | v :: l, b => by
    obtain ⟨h1, h2, h3⟩ := law_fold ws l (lawStep ws b v)
    rw [List.foldl_cons]
    have hs : lawStep ws b v ≤ b ∧ (v ≠ (0, 0) → lawStep ws b v ≤ lawC ws v 1 ∧ lawStep ws b v ≤ lawC ws v (-1)) := by
      unfold lawStep
      split
      · exact ⟨by omega, fun _ => by omega⟩
      · rename_i k
        exact ⟨Nat.le_refl _, fun z => absurd z k⟩
    refine ⟨by omega, fun w hw hw0 => ?_, ?_⟩
    · rcases List.mem_cons.mp hw with e | hw
      · subst e
        have := hs.2 hw0
        omega
      · exact h2 w hw hw0
    · rcases h3 with e | ⟨w, hw, hw0, side, hsd, e⟩
      · rw [e]
        unfold lawStep
        split
        · rename_i k
          rcases Nat.le_total b (lawC ws v 1) with c1 | c1 <;> rcases Nat.le_total (min b (lawC ws v 1)) (lawC ws v (-1)) with c2 | c2
          · exact .inl (by omega)
          · exact .inr ⟨v, by simp, k, -1, .inr rfl, by omega⟩
          · exact .inr ⟨v, by simp, k, 1, .inl rfl, by omega⟩
          · exact .inr ⟨v, by simp, k, -1, .inr rfl, by omega⟩
        · exact .inl rfl
      · exact .inr ⟨w, List.mem_cons_of_mem _ hw, hw0, side, hsd, e⟩
theorem count_zero {ws : List Pt} (h : ¬ ∃ w ∈ ws, w ≠ (0, 0)) (m : Pt) : counted ws m = ws.length := by
  unfold counted
  rw [List.filter_eq_self.mpr fun q hq => ?_]
  have : q = (0, 0) := Classical.byContradiction fun k => h ⟨q, hq, k⟩
  rw [this]
  unfold dot2
  simp
theorem lawDepth_is (ws : List Pt) : IsDepth ws (lawDepth ws) := by
  obtain ⟨h1, h2, h3⟩ := law_fold ws ws ws.length
  unfold lawDepth
  generalize ws.foldl (lawStep ws) ws.length = k at *
  by_cases hx : ∃ w ∈ ws, w ≠ (0, 0)
  · constructor
    · -- some leaning has it
      have : ∃ w ∈ ws, w ≠ (0, 0) ∧ ∃ side : Int, (side = 1 ∨ side = -1) ∧ k = lawC ws w side := by
        rcases h3 with e | h3
        · obtain ⟨w, hw, hw0⟩ := hx
          have := (h2 w hw hw0).1
          have c1 := count_ahead hw hw0 (.inl rfl)
          have c2 := counted_le ws (leanP (greatOf ws) w 1 1)
          refine ⟨w, hw, hw0, 1, .inl rfl, ?_⟩
          unfold lawC at *
          omega
        · exact h3
      obtain ⟨w, hw, hw0, side, hs, e⟩ := this
      rcases Nat.le_total (aheadN ws w side) (behindN ws w side) with c | c
      · exact ⟨_, lean_ne hw hw0 (.inl rfl), by rw [count_ahead hw hw0 hs, e]; unfold lawC; omega⟩
      · exact ⟨_, lean_ne hw hw0 (.inr rfl), by rw [count_behind hw hw0 hs, e]; unfold lawC; omega⟩
    · intro m _
      obtain ⟨w, hw, hw0, hle⟩ := lean_best hx m
      have := (h2 w hw hw0).2
      rw [count_behind hw hw0 (.inr rfl)] at hle
      unfold lawC at this
      omega
  · have hk : k = ws.length := by
      rcases h3 with e | ⟨w, hw, hw0, _⟩
      · exact e
      · exact absurd ⟨w, hw, hw0⟩ hx
    exact ⟨⟨(1, 0), by simp, by rw [count_zero hx, hk]⟩, fun m _ => by rw [count_zero hx, hk]; exact Nat.le_refl _⟩
/-! what the program keeps: the first of the least -/
def bestStep (ws : List Pt) (b : Option (Nat × Pt)) (m : Pt) : Option (Nat × Pt) := match b with
  | none => some (counted ws m, m)
  | some (k, m') => if counted ws m < k then some (counted ws m, m) else some (k, m')
def bestOf (ws : List Pt) : Option (Nat × Pt) := (leanings ws).foldl (bestStep ws) none
theorem best_fold (ws : List Pt) : ∀ (l : List Pt) (k : Nat) (m : Pt), counted ws m = k → ∃ k' m', l.foldl (bestStep ws) (some (k, m)) = some (k', m') ∧ counted ws m' = k' ∧ k' ≤ k ∧ (m' = m ∨ m' ∈ l) ∧ ∀ x ∈ l, k' ≤ counted ws x
  | [], k, m, h => ⟨k, m, rfl, h, Nat.le_refl _, .inl rfl, by simp⟩
  | x :: l, k, m, h => by
    rw [List.foldl_cons]
    by_cases c : counted ws x < k
    · have e : bestStep ws (some (k, m)) x = some (counted ws x, x) := by unfold bestStep; simp only; rw [if_pos c]
      obtain ⟨k', m', e1, e2, e3, e4, e5⟩ := best_fold ws l (counted ws x) x rfl
      refine ⟨k', m', by rw [e]; exact e1, e2, by omega, ?_, fun y hy => ?_⟩
      · rcases e4 with z | z
        · right; rw [z]; simp
        · exact .inr (List.mem_cons_of_mem _ z)
      · rcases List.mem_cons.mp hy with z | z
        · rw [z]; exact e3
        · exact e5 y z
    · have e : bestStep ws (some (k, m)) x = some (k, m) := by unfold bestStep; simp only; rw [if_neg c]
      obtain ⟨k', m', e1, e2, e3, e4, e5⟩ := best_fold ws l k m h
      refine ⟨k', m', by rw [e]; exact e1, e2, e3, ?_, fun y hy => ?_⟩
      · rcases e4 with z | z
        · exact .inl z
        · exact .inr (List.mem_cons_of_mem _ z)
      · rcases List.mem_cons.mp hy with z | z
        · rw [z]; omega
        · exact e5 y z
theorem best_is (ws : List Pt) : ∃ m, bestOf ws = some (lawDepth ws, m) ∧ m ≠ (0, 0) ∧ counted ws m = lawDepth ws := by
  have hl : ∀ m ∈ leanings ws, m ≠ (0, 0) := fun m hm => by
    unfold leanings at hm
    simpa using (List.mem_filter.mp hm).2
  have h1 : (1, 0) ∈ leanings ws := by
    unfold leanings
    rw [List.mem_filter]
    exact ⟨by simp, by decide⟩
  unfold bestOf
  cases e : leanings ws with
  | nil => rw [e] at h1; simp at h1
  | cons x l =>
    obtain ⟨k', m', e1, e2, e3, e4, e5⟩ := best_fold ws l (counted ws x) x rfl
    have hm' : m' ∈ leanings ws := by
      rw [e]
      rcases e4 with z | z
      · rw [z]; simp
      · exact List.mem_cons_of_mem _ z
    have least : ∀ y ∈ leanings ws, k' ≤ counted ws y := fun y hy => by
      rw [e] at hy
      rcases List.mem_cons.mp hy with z | z
      · rw [z]; exact e3
      · exact e5 y z
    have hd : IsDepth ws k' := by
      refine ⟨⟨m', hl m' hm', e2⟩, fun n hn => ?_⟩
      by_cases hx : ∃ w ∈ ws, w ≠ (0, 0)
      · obtain ⟨w, hw, hw0, hle⟩ := lean_best hx n
        have := least _ (mem_leanings hw hw0 (.inr rfl) (.inr rfl))
        omega
      · rw [← e2, count_zero hx, count_zero hx]
        exact Nat.le_refl _
    have hk := hd.unique (lawDepth_is ws)
    subst hk
    exact ⟨m', e1, hl m' hm', e2⟩
end HP
/-! Depth and hull; depth with one more way. -/
namespace HP
theorem counted_app (ws vs : List Pt) (m : Pt) : counted (ws ++ vs) m = counted ws m + counted vs m := by
  unfold counted
  rw [List.filter_append, List.length_append]
theorem counted_one (w m : Pt) : counted [w] m ≤ 1 := List.length_filter_le _ _
theorem counted_nought (m : Pt) : counted [(0, 0)] m = 1 := by
  have : ¬ ∃ w ∈ [((0, 0) : Pt)], w ≠ (0, 0) := by simp
  rw [count_zero this]
  rfl
theorem depth_nought (ws : List Pt) : lawDepth (ws ++ [(0, 0)]) = lawDepth ws + 1 := by
  obtain ⟨⟨m, hm, e⟩, h⟩ := lawDepth_is ws
  refine (lawDepth_is _).unique ⟨⟨m, hm, ?_⟩, fun n hn => ?_⟩
  · rw [counted_app, counted_nought, e]
  · rw [counted_app, counted_nought]
    have := h n hn
    omega
theorem depth_more (w : Pt) (ws : List Pt) : lawDepth (w :: ws) = lawDepth ws ∨ lawDepth (w :: ws) = lawDepth ws + 1 := by
  obtain ⟨⟨m, hm, e⟩, h⟩ := lawDepth_is ws
  obtain ⟨⟨m', hm', e'⟩, h'⟩ := lawDepth_is (w :: ws)
  have c : ∀ n, counted (w :: ws) n = counted [w] n + counted ws n := fun n => by
    rw [show w :: ws = [w] ++ ws from rfl, counted_app]
  have a1 := h m' hm'
  have a2 := h' m hm
  have b1 := c m'
  have b2 := c m
  have b3 := counted_one w m
  omega
theorem depth_least {ws : List Pt} {k : Nat} (h : ∀ m, m ≠ (0, 0) → k ≤ counted ws m) : k ≤ lawDepth ws := by
  obtain ⟨⟨m, hm, e⟩, _⟩ := lawDepth_is ws
  have := h m hm
  omega
theorem counted_some {ws : List Pt} {m : Pt} : 0 < counted ws m ↔ ∃ w ∈ ws, 0 ≤ dot2 m w := by
  unfold counted
  rw [List.length_pos_iff_exists_mem]
  constructor
  · rintro ⟨w, hw⟩
    obtain ⟨h1, h2⟩ := List.mem_filter.mp hw
    exact ⟨w, h1, by simpa using h2⟩
  · rintro ⟨w, h1, h2⟩
    exact ⟨w, List.mem_filter.mpr ⟨h1, decide_eq_true h2⟩⟩
/-- the ways from a spot -/
def waysSpot (ps : List Pt) (X Y Z : Int) : List Pt := ps.map fun p => (p.1 * Z - X, p.2 * Z - Y)
theorem depth_pos {ps : List Pt} {p : Pt} : 0 < lawDepth (waysSpot ps p.1 p.2 1) ↔ ¬ Sep ps p := by
  obtain ⟨⟨m, hm, e⟩, h⟩ := lawDepth_is (waysSpot ps p.1 p.2 1)
  constructor
  · rintro hd ⟨a, b, c, h1, h2⟩
    by_cases hz : ((-a, -b) : Pt) = (0, 0)
    · -- no point at all
      have ha : a = 0 := by have := congrArg Prod.fst hz; simp only at this; omega
      have hb : b = 0 := by have := congrArg Prod.snd hz; simp only at this; omega
      have hnil : ps = [] := by
        cases ps with
        | nil => rfl
        | cons q r =>
          have := h1 q (by simp)
          unfold at3 at this h2
          rw [ha, hb] at this h2
          omega
      have := h (1, 0) (by simp)
      rw [hnil] at this hd
      have e0 : counted (waysSpot [] p.1 p.2 1) (1, 0) = 0 := rfl
      omega
    · have := h _ hz
      have hpos : 0 < counted (waysSpot ps p.1 p.2 1) (-a, -b) := by omega
      obtain ⟨w, hw, hd2⟩ := counted_some.mp hpos
      unfold waysSpot at hw
      obtain ⟨q, hq, rfl⟩ := List.mem_map.mp hw
      have := h1 q hq
      unfold at3 at this h2
      unfold dot2 at hd2
      simp only at hd2
      grind
  · intro hs
    apply Classical.byContradiction
    intro k
    have e0 : counted (waysSpot ps p.1 p.2 1) m = 0 := by omega
    refine hs ⟨-m.1, -m.2, m.1 * p.1 + m.2 * p.2 - 1, fun q hq => ?_, by unfold at3; grind⟩
    have hn : ¬ 0 < counted (waysSpot ps p.1 p.2 1) m := by omega
    rw [counted_some] at hn
    have : ¬ 0 ≤ dot2 m (q.1 * 1 - p.1, q.2 * 1 - p.2) := fun z => hn ⟨_, List.mem_map.mpr ⟨q, hq, rfl⟩, z⟩
    unfold dot2 at this
    unfold at3
    simp only at this
    grind
end HP
/-! Four points: two parts that meet. -/
namespace HP
/-- weights that add up to nought, at nought -/
theorem radon_line {a b c d : Pt} {i j k l : Int} (h0 : i + j + k + l = 0) (hx : i * a.1 + j * b.1 + k * c.1 + l * d.1 = 0) (hy : i * a.2 + j * b.2 + k * c.2 + l * d.2 = 0) (L : Line) :
    i * at3 L.1 L.2.1 L.2.2 a + j * at3 L.1 L.2.1 L.2.2 b + k * at3 L.1 L.2.1 L.2.2 c + l * at3 L.1 L.2.1 L.2.2 d = 0 := by
  unfold at3
  have e : i * (L.1 * a.1 + L.2.1 * a.2 + L.2.2) + j * (L.1 * b.1 + L.2.1 * b.2 + L.2.2) + k * (L.1 * c.1 + L.2.1 * c.2 + L.2.2) + l * (L.1 * d.1 + L.2.1 * d.2 + L.2.2) = L.1 * (i * a.1 + j * b.1 + k * c.1 + l * d.1) + L.2.1 * (i * a.2 + j * b.2 + k * c.2 + l * d.2) + L.2.2 * (i + j + k + l) := by grind
  rw [e, h0, hx, hy]
  simp
/-- there are such weights, not all nought -/
theorem radon_weights (a b c d : Pt) : ∃ i j k l : Int, ¬ (i = 0 ∧ j = 0 ∧ k = 0 ∧ l = 0) ∧ i + j + k + l = 0 ∧ i * a.1 + j * b.1 + k * c.1 + l * d.1 = 0 ∧ i * a.2 + j * b.2 + k * c.2 + l * d.2 = 0 := by
  by_cases h : turn b c d = 0 ∧ turn a c d = 0 ∧ turn a b d = 0 ∧ turn a b c = 0
  · obtain ⟨_, _, _, h4⟩ := h
    by_cases hx : b.1 - c.1 = 0 ∧ c.1 - a.1 = 0 ∧ a.1 - b.1 = 0
    · by_cases hy : b.2 - c.2 = 0 ∧ c.2 - a.2 = 0 ∧ a.2 - b.2 = 0
      · exact ⟨1, -1, 0, 0, by omega, by omega, by omega, by omega⟩
      · refine ⟨b.2 - c.2, c.2 - a.2, a.2 - b.2, 0, by omega, by omega, ?_, by grind⟩
        unfold turn at h4
        grind
    · refine ⟨b.1 - c.1, c.1 - a.1, a.1 - b.1, 0, by omega, by omega, by grind, ?_⟩
      unfold turn at h4
      grind
  · refine ⟨turn b c d, - turn a c d, turn a b d, - turn a b c, by omega, ?_, ?_, ?_⟩
    · unfold turn; grind
    · unfold turn; grind
    · unfold turn; grind
def sel (ps : List Pt) (ks : List Nat) : List Pt := ks.map (atN ps)
def splits : List (List Nat × List Nat) := [([0], [1, 2, 3]), ([1], [0, 2, 3]), ([2], [0, 1, 3]), ([3], [0, 1, 2]), ([0, 1], [2, 3]), ([0, 2], [1, 3]), ([0, 3], [1, 2])]
theorem pos_pos {i x : Int} (h : 0 < i) (k : 0 < x) : 0 < i * x := Int.mul_pos h k
theorem neg_neg' {i x : Int} (h : i ≤ 0) (k : x < 0) : 0 ≤ i * x := by
  have := Int.mul_nonneg (a := -i) (b := -x) (by omega) (by omega)
  grind
theorem pos_neg {i x : Int} (h : 0 < i) (k : x < 0) : i * x < 0 := by
  have := Int.mul_pos h (show 0 < -x by omega)
  grind
theorem neg_pos' {i x : Int} (h : i ≤ 0) (k : 0 < x) : i * x ≤ 0 := by
  have := Int.mul_nonneg (a := -i) (b := x) (by omega) (by omega)
  grind
theorem radon (ps : List Pt) : ∃ sp ∈ splits, partingLine (sel ps sp.1) (sel ps sp.2) = none := by
  apply Classical.byContradiction
  intro hno
  have all : ∀ sp ∈ splits, ∃ L, PartsL (sel ps sp.1) (sel ps sp.2) L := fun sp hsp => by
    cases e : partingLine (sel ps sp.1) (sel ps sp.2) with
    | none => exact absurd ⟨sp, hsp, e⟩ hno
    | some L => exact ⟨L, parting_some e⟩
  generalize ha : atN ps 0 = a
  generalize hb : atN ps 1 = b
  generalize hc : atN ps 2 = c
  generalize hd : atN ps 3 = d
  obtain ⟨i, j, k, l, hn, h0, hx, hy⟩ := radon_weights a b c d
  have key := radon_line h0 hx hy
  have s0 := all ([0], [1, 2, 3]) (by simp [splits])
  have s1 := all ([1], [0, 2, 3]) (by simp [splits])
  have s2 := all ([2], [0, 1, 3]) (by simp [splits])
  have s3 := all ([3], [0, 1, 2]) (by simp [splits])
  have s01 := all ([0, 1], [2, 3]) (by simp [splits])
  have s02 := all ([0, 2], [1, 3]) (by simp [splits])
  have s03 := all ([0, 3], [1, 2]) (by simp [splits])
  unfold PartsL sel at s0 s1 s2 s3 s01 s02 s03
  simp only [List.map_cons, List.map_nil, List.mem_cons, List.not_mem_nil, or_false, forall_eq_or_imp, forall_eq, ha, hb, hc, hd] at s0 s1 s2 s3 s01 s02 s03
  obtain ⟨L0, p0, n0, n0', n0''⟩ := s0
  obtain ⟨L1, p1, n1, n1', n1''⟩ := s1
  obtain ⟨L2, p2, n2, n2', n2''⟩ := s2
  obtain ⟨L3, p3, n3, n3', n3''⟩ := s3
  obtain ⟨L4, ⟨p4, p4'⟩, n4, n4'⟩ := s01
  obtain ⟨L5, ⟨p5, p5'⟩, n5, n5'⟩ := s02
  obtain ⟨L6, ⟨p6, p6'⟩, n6, n6'⟩ := s03
  have k0 := key L0
  have k1 := key L1
  have k2 := key L2
  have k3 := key L3
  have k4 := key L4
  have k5 := key L5
  have k6 := key L6
  rcases Int.lt_or_le 0 i with ci | ci <;> rcases Int.lt_or_le 0 j with cj | cj <;> rcases Int.lt_or_le 0 k with ck | ck <;> rcases Int.lt_or_le 0 l with cl | cl
  · omega
  · have := pos_neg ci n3; have := pos_neg cj n3'; have := pos_neg ck n3''; have := neg_pos' cl p3; omega
  · have := pos_neg ci n2; have := pos_neg cj n2'; have := pos_neg cl n2''; have := neg_pos' ck p2; omega
  · have := pos_pos ci p4; have := pos_pos cj p4'; have := neg_neg' ck n4; have := neg_neg' cl n4'; omega
  · have := pos_neg ci n1; have := pos_neg ck n1'; have := pos_neg cl n1''; have := neg_pos' cj p1; omega
  · have := pos_pos ci p5; have := pos_pos ck p5'; have := neg_neg' cj n5; have := neg_neg' cl n5'; omega
  · have := pos_pos ci p6; have := pos_pos cl p6'; have := neg_neg' cj n6; have := neg_neg' ck n6'; omega
  · have := pos_pos ci p0; have := neg_neg' cj n0; have := neg_neg' ck n0'; have := neg_neg' cl n0''; omega
  · have := pos_neg cj n0; have := pos_neg ck n0'; have := pos_neg cl n0''; have := neg_pos' ci p0; omega
  · have := pos_neg cj n6; have := pos_neg ck n6'; have := neg_pos' ci p6; have := neg_pos' cl p6'; omega
  · have := pos_neg cj n5; have := pos_neg cl n5'; have := neg_pos' ci p5; have := neg_pos' ck p5'; omega
  · have := pos_pos cj p1; have := neg_neg' ci n1; have := neg_neg' ck n1'; have := neg_neg' cl n1''; omega
  · have := pos_neg ck n4; have := pos_neg cl n4'; have := neg_pos' ci p4; have := neg_pos' cj p4'; omega
  · have := pos_pos ck p2; have := neg_neg' ci n2; have := neg_neg' cj n2'; have := neg_neg' cl n2''; omega
  · have := pos_pos cl p3; have := neg_neg' ci n3; have := neg_neg' cj n3'; have := neg_neg' ck n3''; omega
  · omega
/-- both hulls hold the spot of a meeting -/
theorem meeting_hull {A B : List Pt} {m : Meet} (h : meeting A B = some m) : InHull A m.1.1 m.1.2.1 m.1.2.2 ∧ InHull B m.1.1 m.1.2.1 m.1.2.2 := by
  unfold meeting at h
  split at h
  · rename_i m' hm
    cases h
    obtain ⟨k, hk, e⟩ := List.exists_of_findSome?_eq_some hm
    obtain ⟨ws, hw, e2⟩ := Option.map_eq_some_iff.mp e
    subst e2
    exact ⟨InHull.of_mem (atN_mem (List.mem_range.mp hk)), (within_some hw).2.sub (rim_ok B).sub⟩
  · split at h
    · rename_i m' hm
      cases h
      obtain ⟨k, hk, e⟩ := List.exists_of_findSome?_eq_some hm
      obtain ⟨ws, hw, e2⟩ := Option.map_eq_some_iff.mp e
      subst e2
      exact ⟨(within_some hw).2.sub (rim_ok A).sub, InHull.of_mem (atN_mem (List.mem_range.mp hk))⟩
    · unfold crossing at h
      obtain ⟨a, ha, h⟩ := List.exists_of_findSome?_eq_some h
      obtain ⟨b, hb, h⟩ := List.exists_of_findSome?_eq_some h
      obtain ⟨c, hc, h⟩ := List.exists_of_findSome?_eq_some h
      obtain ⟨d, hd, h⟩ := List.exists_of_findSome?_eq_some h
      have ha' := List.mem_range.mp ha
      have hb' := List.mem_range.mp hb
      have hc' := List.mem_range.mp hc
      have hd' := List.mem_range.mp hd
      have ma : atN A a ∈ A := atN_mem ha'
      have mb : atN A b ∈ A := atN_mem (by omega)
      have mc : atN B c ∈ B := atN_mem hc'
      have md : atN B d ∈ B := atN_mem (by omega)
      unfold crossed at h
      split at h
      · cases h
      · rename_i n
        cases h
        have ix : (0 - turn (atN A b) (atN A a) (atN B c)) * (atN B d).1 + turn (atN A b) (atN A a) (atN B d) * (atN B c).1 = -(turn (atN B d) (atN B c) (atN A b) * (atN A a).1 - turn (atN B d) (atN B c) (atN A a) * (atN A b).1) := by unfold turn; grind
        have iy : (0 - turn (atN A b) (atN A a) (atN B c)) * (atN B d).2 + turn (atN A b) (atN A a) (atN B d) * (atN B c).2 = -(turn (atN B d) (atN B c) (atN A b) * (atN A a).2 - turn (atN B d) (atN B c) (atN A a) * (atN A b).2) := by unfold turn; grind
        have is : turn (atN A b) (atN A a) (atN B d) - turn (atN A b) (atN A a) (atN B c) = -(turn (atN B d) (atN B c) (atN A b) - turn (atN B d) (atN B c) (atN A a)) := by unfold turn; grind
        generalize turn (atN B d) (atN B c) (atN A b) = p at *
        generalize turn (atN B d) (atN B c) (atN A a) = q at *
        generalize turn (atN A b) (atN A a) (atN B d) = r at *
        generalize turn (atN A b) (atN A a) (atN B c) = s at *
        have hpq : p * q < 0 := by omega
        have hrs : r * s < 0 := by omega
        obtain ⟨s1, s2⟩ := signs hpq
        obtain ⟨s3, s4⟩ := signs hrs
        obtain ⟨ok, e1, e2⟩ := spotOf_ok (f := p * (atN A a).1 - q * (atN A b).1) (s := p * (atN A a).2 - q * (atN A b).2) (b := p - q) (by omega)
        generalize spotOf (p * (atN A a).1 - q * (atN A b).1) (p * (atN A a).2 - q * (atN A b).2) (p - q) = S at *
        simp only
        rcases Int.lt_or_le 0 (p - q) with c1 | c1
        · refine ⟨two_hull (u := 0 - q) (v := p) mb ma (by omega) (by omega) (by omega) ?_ ?_, two_hull (u := -(0 - s)) (v := -r) md mc (by omega) (by omega) (by omega) ?_ ?_⟩
          · rw [show 0 - q + p = p - q by omega, e1]; grind
          · rw [show 0 - q + p = p - q by omega, e2]; grind
          · rw [show -(0 - s) * (atN B d).1 + -r * (atN B c).1 = p * (atN A a).1 - q * (atN A b).1 by grind, show -(0 - s) + -r = p - q by omega, e1]
          · rw [show -(0 - s) * (atN B d).2 + -r * (atN B c).2 = p * (atN A a).2 - q * (atN A b).2 by grind, show -(0 - s) + -r = p - q by omega, e2]
        · refine ⟨two_hull (u := q) (v := -p) mb ma (by omega) (by omega) (by omega) ?_ ?_, two_hull (u := 0 - s) (v := r) md mc (by omega) (by omega) (by omega) ?_ ?_⟩
          · rw [show q + -p = -(p - q) by omega]; grind
          · rw [show q + -p = -(p - q) by omega]; grind
          · rw [show (0 - s) * (atN B d).1 + r * (atN B c).1 = -(p * (atN A a).1 - q * (atN A b).1) by grind, show 0 - s + r = -(p - q) by omega]; grind
          · rw [show (0 - s) * (atN B d).2 + r * (atN B c).2 = -(p * (atN A a).2 - q * (atN A b).2) by grind, show 0 - s + r = -(p - q) by omega]; grind
end HP
/-! Four corners: the parts that meet are the pairs of those that are not neighbours. -/
namespace HP
theorem nodup_le : ∀ {l m : List Pt}, l.Nodup → (∀ x ∈ l, x ∈ m) → l.length ≤ m.length
  | [], _, _, _ => Nat.zero_le _
  | a :: l, m, h, k => by
    obtain ⟨h1, h2⟩ := List.nodup_cons.mp h
    have ha : a ∈ m := k a (by simp)
    have := nodup_le (m := m.erase a) h2 fun x hx => (List.mem_erase_of_ne (fun e : x = a => h1 (by rw [← e]; exact hx))).mpr (k x (List.mem_cons_of_mem _ hx))
    rw [List.length_erase_of_mem ha] at this
    have := List.length_pos_of_mem ha
    simp only [List.length_cons]
    omega
theorem hull_two_sides {P Q : List Pt} {u v : Pt} {X Y Z : Int} (hZ : 0 < Z) (hP : ∀ q ∈ P, turn u v q = 0) (hQ : ∀ q ∈ Q, 0 < turn u v q) (h1 : InHull P X Y Z) (h2 : InHull Q X Y Z) : False := by
  have e1 := h1.line hZ (a := -(lineThrough u v).1) (b := -(lineThrough u v).2.1) (c := -(lineThrough u v).2.2) fun q hq => by
    have := hP q hq
    have e := line_at u v q
    unfold at3 at *
    grind
  have e2 := h2.line_pos hZ (a := (lineThrough u v).1) (b := (lineThrough u v).2.1) (c := (lineThrough u v).2.2) fun q hq => by
    rw [line_at]
    exact hQ q hq
  grind
theorem one_meets {p : Pt} {ps : List Pt} {X Y M : Int} (hM : 0 < M) (h1 : InHull [p] X Y M) (h2 : InHull ps X Y M) : ¬ Sep ps p := by
  rintro ⟨u, v, w, k1, k2⟩
  have e1 := h2.line hM (a := u) (b := v) (c := w) k1
  have e2 := h1.line_pos hM (a := -u) (b := -v) (c := -w) fun q hq => by
    rw [List.mem_singleton.mp hq]
    unfold at3 at *
    grind
  grind
theorem pair_diag {r0 r1 r2 r3 x y z w : Pt} {X Y Z : Int} (hZ : 0 < Z) (t1 : 0 < turn r0 r1 r2) (t2 : 0 < turn r0 r2 r3) (t3 : 0 < turn r0 r1 r3)
    (hx : x ∈ [r0, r1, r2, r3]) (hy : y ∈ [r0, r1, r2, r3]) (hz : z ∈ [r0, r1, r2, r3]) (hw : w ∈ [r0, r1, r2, r3]) (xy : x ≠ y) (zx : z ≠ x) (zy : z ≠ y) (wx : w ≠ x) (wy : w ≠ y) (h1 : InHull [x, y] X Y Z) (h2 : InHull [z, w] X Y Z) :
    (x = r0 ∧ y = r2) ∨ (x = r2 ∧ y = r0) ∨ (x = r1 ∧ y = r3) ∨ (x = r3 ∧ y = r1) := by
  have a1 : turn r3 r0 r1 = turn r0 r1 r3 := by unfold turn; grind
  have a2 : turn r3 r0 r2 = turn r0 r2 r3 := by unfold turn; grind
  -- the four sides
  have s01 : ∀ P Q : List Pt, (∀ q ∈ P, q = r0 ∨ q = r1) → (∀ q ∈ Q, q = r2 ∨ q = r3) → InHull P X Y Z → InHull Q X Y Z → False := fun P Q hP hQ => hull_two_sides (u := r0) (v := r1) hZ (fun q hq => by
      rcases hP q hq with e | e <;> rw [e]
      · exact turn_self3 _ _
      · exact turn_self2 _ _) (fun q hq => by rcases hQ q hq with e | e <;> rw [e] <;> assumption)
  have s30 : ∀ P Q : List Pt, (∀ q ∈ P, q = r0 ∨ q = r3) → (∀ q ∈ Q, q = r1 ∨ q = r2) → InHull P X Y Z → InHull Q X Y Z → False := fun P Q hP hQ => hull_two_sides (u := r3) (v := r0) hZ (fun q hq => by
      rcases hP q hq with e | e <;> rw [e]
      · exact turn_self2 _ _
      · exact turn_self3 _ _) (fun q hq => by rcases hQ q hq with e | e <;> rw [e] <;> omega)
  have rest : ∀ q, q = z ∨ q = w → q ∈ [r0, r1, r2, r3] ∧ q ≠ x ∧ q ≠ y := fun q hq => by
    rcases hq with e | e <;> subst e
    · exact ⟨hz, zx, zy⟩
    · exact ⟨hw, wx, wy⟩
  have two : ∀ {u v : Pt} {C : Pt → Prop}, C u → C v → ∀ q ∈ [u, v], C q := fun hu hv q hq => by
    simp only [List.mem_cons, List.not_mem_nil, or_false] at hq
    rcases hq with e | e <;> subst e
    · exact hu
    · exact hv
  simp only [List.mem_cons, List.not_mem_nil, or_false] at hx hy rest
  have rz := rest z (.inl rfl)
  have rw' := rest w (.inr rfl)
  clear rest hz hw
  rcases hx with e | e | e | e <;> rcases hy with f | f | f | f <;> subst e <;> subst f
  · exact absurd rfl xy
  · refine (s01 [x, y] [z, w] (two (.inl rfl) (.inr rfl)) (two ?_ ?_) h1 h2).elim
    · rcases rz with ⟨k | k | k | k, n1, n2⟩
      · exact absurd k n1
      · exact absurd k n2
      · exact .inl k
      · exact .inr k
    · rcases rw' with ⟨k | k | k | k, n1, n2⟩
      · exact absurd k n1
      · exact absurd k n2
      · exact .inl k
      · exact .inr k
  · exact .inl ⟨rfl, rfl⟩
  · refine (s30 [x, y] [z, w] (two (.inl rfl) (.inr rfl)) (two ?_ ?_) h1 h2).elim
    · rcases rz with ⟨k | k | k | k, n1, n2⟩
      · exact absurd k n1
      · exact .inl k
      · exact .inr k
      · exact absurd k n2
    · rcases rw' with ⟨k | k | k | k, n1, n2⟩
      · exact absurd k n1
      · exact .inl k
      · exact .inr k
      · exact absurd k n2
  · refine (s01 [x, y] [z, w] (two (.inr rfl) (.inl rfl)) (two ?_ ?_) h1 h2).elim
    · rcases rz with ⟨k | k | k | k, n1, n2⟩
      · exact absurd k n2
      · exact absurd k n1
      · exact .inl k
      · exact .inr k
    · rcases rw' with ⟨k | k | k | k, n1, n2⟩
      · exact absurd k n2
      · exact absurd k n1
      · exact .inl k
      · exact .inr k
  · exact absurd rfl xy
  · refine (s30 [z, w] [x, y] (two ?_ ?_) (two (.inl rfl) (.inr rfl)) h2 h1).elim
    · rcases rz with ⟨k | k | k | k, n1, n2⟩
      · exact .inl k
      · exact absurd k n1
      · exact absurd k n2
      · exact .inr k
    · rcases rw' with ⟨k | k | k | k, n1, n2⟩
      · exact .inl k
      · exact absurd k n1
      · exact absurd k n2
      · exact .inr k
  · exact .inr (.inr (.inl ⟨rfl, rfl⟩))
  · exact .inr (.inl ⟨rfl, rfl⟩)
  · refine (s30 [z, w] [x, y] (two ?_ ?_) (two (.inr rfl) (.inl rfl)) h2 h1).elim
    · rcases rz with ⟨k | k | k | k, n1, n2⟩
      · exact .inl k
      · exact absurd k n2
      · exact absurd k n1
      · exact .inr k
    · rcases rw' with ⟨k | k | k | k, n1, n2⟩
      · exact .inl k
      · exact absurd k n2
      · exact absurd k n1
      · exact .inr k
  · exact absurd rfl xy
  · refine (s01 [z, w] [x, y] (two ?_ ?_) (two (.inl rfl) (.inr rfl)) h2 h1).elim
    · rcases rz with ⟨k | k | k | k, n1, n2⟩
      · exact .inl k
      · exact .inr k
      · exact absurd k n1
      · exact absurd k n2
    · rcases rw' with ⟨k | k | k | k, n1, n2⟩
      · exact .inl k
      · exact .inr k
      · exact absurd k n1
      · exact absurd k n2
  · refine (s30 [x, y] [z, w] (two (.inr rfl) (.inl rfl)) (two ?_ ?_) h1 h2).elim
    · rcases rz with ⟨k | k | k | k, n1, n2⟩
      · exact absurd k n2
      · exact .inl k
      · exact .inr k
      · exact absurd k n1
    · rcases rw' with ⟨k | k | k | k, n1, n2⟩
      · exact absurd k n2
      · exact .inl k
      · exact .inr k
      · exact absurd k n1
  · exact .inr (.inr (.inr ⟨rfl, rfl⟩))
  · refine (s01 [z, w] [x, y] (two ?_ ?_) (two (.inr rfl) (.inl rfl)) h2 h1).elim
    · rcases rz with ⟨k | k | k | k, n1, n2⟩
      · exact .inl k
      · exact .inr k
      · exact absurd k n2
      · exact absurd k n1
    · rcases rw' with ⟨k | k | k | k, n1, n2⟩
      · exact .inl k
      · exact .inr k
      · exact absurd k n2
      · exact absurd k n1
  · exact absurd rfl xy
theorem four_diag {ps : List Pt} {X Y Z : Int} (hl : ps.length = 4) (hc : (cornersOf ps).length = 4) (hZ : 0 < Z) {sp : List Nat × List Nat} (hsp : sp ∈ splits) (h1 : InHull (sel ps sp.1) X Y Z) (h2 : InHull (sel ps sp.2) X Y Z) :
    srt (sel ps sp.1) = srt [atN (cornersOf ps) 0, atN (cornersOf ps) 2] ∨ srt (sel ps sp.1) = srt [atN (cornersOf ps) 1, atN (cornersOf ps) 3] := by
  have R := rim_ok ps
  have ext := R.ext
  match ps, hl with
  | [a, b, c, d], _ =>
    match hr : cornersOf [a, b, c, d], hc with
    | [r0, r1, r2, r3], _ =>
      rw [hr] at R ext
      have nd := R.nodup
      have sub := R.sub
      have fan := R.fan r0 [r1, r2, r3] rfl
      have lt0 := R.least r0 [r1, r2, r3] rfl
      have t1 : 0 < turn r0 r1 r2 := fan.1
      have t2 : 0 < turn r0 r2 r3 := fan.2.1
      have hlt : ∀ q ∈ [r1, r2, r3], lt r0 q := fun q hq => by
        rcases lt0 q (sub q (List.mem_cons_of_mem _ hq)) with e | e
        · exfalso
          rw [e] at hq
          exact (List.nodup_cons.mp nd).1 hq
        · exact e
      have t3 : 0 < turn r0 r1 r3 := fan_trans (hlt r1 (by simp)) (hlt r2 (by simp)) (hlt r3 (by simp)) t1 t2
      -- all are corners, all apart
      have few : ∀ l : List Pt, l.length = 3 → ¬ (∀ x ∈ [r0, r1, r2, r3], x ∈ l) := fun l hl k => by
        have := nodup_le nd k
        rw [hl] at this
        simp at this
      have ma : a ∈ [r0, r1, r2, r3] := Classical.byContradiction fun n => few [b, c, d] rfl fun x hx => by
        have := sub x hx
        rcases List.mem_cons.mp this with e | e
        · rw [e] at hx; exact absurd hx n
        · exact e
      have mb : b ∈ [r0, r1, r2, r3] := Classical.byContradiction fun n => few [a, c, d] rfl fun x hx => by
        have := sub x hx
        simp only [List.mem_cons, List.not_mem_nil, or_false] at this ⊢
        rcases this with e | e | e | e
        · exact .inl e
        · rw [e] at hx; exact absurd hx n
        · exact .inr (.inl e)
        · exact .inr (.inr e)
      have mc : c ∈ [r0, r1, r2, r3] := Classical.byContradiction fun n => few [a, b, d] rfl fun x hx => by
        have := sub x hx
        simp only [List.mem_cons, List.not_mem_nil, or_false] at this ⊢
        rcases this with e | e | e | e
        · exact .inl e
        · exact .inr (.inl e)
        · rw [e] at hx; exact absurd hx n
        · exact .inr (.inr e)
      have md : d ∈ [r0, r1, r2, r3] := Classical.byContradiction fun n => few [a, b, c] rfl fun x hx => by
        have := sub x hx
        simp only [List.mem_cons, List.not_mem_nil, or_false] at this ⊢
        rcases this with e | e | e | e
        · exact .inl e
        · exact .inr (.inl e)
        · exact .inr (.inr e)
        · rw [e] at hx; exact absurd hx n
      have ap : ∀ x y z w : Pt, (∀ q ∈ [r0, r1, r2, r3], q = x ∨ q = y ∨ q = z ∨ q = w) → x ≠ y := fun x y z w h e => few [y, z, w] rfl fun q hq => by
        simp only [List.mem_cons, List.not_mem_nil, or_false]
        rcases h q hq with k | k | k | k
        · exact .inl (k.trans e)
        · exact .inl k
        · exact .inr (.inl k)
        · exact .inr (.inr k)
      have mem : ∀ q ∈ [r0, r1, r2, r3], q = a ∨ q = b ∨ q = c ∨ q = d := fun q hq => by
        have := sub q hq
        simpa only [List.mem_cons, List.not_mem_nil, or_false] using this
      have ab : a ≠ b := ap a b c d mem
      have ac : a ≠ c := ap a c b d fun q hq => by rcases mem q hq with k | k | k | k <;> simp [k]
      have ad : a ≠ d := ap a d b c fun q hq => by rcases mem q hq with k | k | k | k <;> simp [k]
      have bc : b ≠ c := ap b c a d fun q hq => by rcases mem q hq with k | k | k | k <;> simp [k]
      have bd : b ≠ d := ap b d a c fun q hq => by rcases mem q hq with k | k | k | k <;> simp [k]
      have cd : c ≠ d := ap c d a b fun q hq => by rcases mem q hq with k | k | k | k <;> simp [k]
      have single : ∀ (p : Pt) (l : List Pt), p ∈ [r0, r1, r2, r3] → (∀ q ∈ l, q ∈ [a, b, c, d] ∧ q ≠ p) → InHull [p] X Y Z → InHull l X Y Z → False := fun p l hp hl k1 k2 =>
        one_meets hZ k1 k2 ((ext p hp).sub fun q hq => List.mem_filter.mpr ⟨(hl q hq).1, decide_eq_true (hl q hq).2⟩)
      have comm : ∀ x y : Pt, srt [x, y] = srt [y, x] := fun x y => srt_eq_of fun q => by simp only [List.mem_cons, List.not_mem_nil, or_false]; exact Or.comm
      have pair : ∀ x y z w : Pt, x ∈ [r0, r1, r2, r3] → y ∈ [r0, r1, r2, r3] → z ∈ [r0, r1, r2, r3] → w ∈ [r0, r1, r2, r3] → x ≠ y → z ≠ x → z ≠ y → w ≠ x → w ≠ y → InHull [x, y] X Y Z → InHull [z, w] X Y Z → srt [x, y] = srt [r0, r2] ∨ srt [x, y] = srt [r1, r3] := fun x y z w hx hy hz hw xy zx zy wx wy k1 k2 => by
        rcases pair_diag hZ t1 t2 t3 hx hy hz hw xy zx zy wx wy k1 k2 with ⟨e, f⟩ | ⟨e, f⟩ | ⟨e, f⟩ | ⟨e, f⟩ <;> rw [e, f]
        · exact .inl rfl
        · exact .inl (comm _ _)
        · exact .inr rfl
        · exact .inr (comm _ _)
      unfold splits at hsp
      simp only [List.mem_cons, List.not_mem_nil, or_false] at hsp
      rcases hsp with e | e | e | e | e | e | e <;> subst e
      · refine (single a [b, c, d] ma (fun q hq => ?_) h1 h2).elim
        simp only [List.mem_cons, List.not_mem_nil, or_false] at hq
        rcases hq with k | k | k <;> subst k
        · exact ⟨by simp, Ne.symm ab⟩
        · exact ⟨by simp, Ne.symm ac⟩
        · exact ⟨by simp, Ne.symm ad⟩
      · refine (single b [a, c, d] mb (fun q hq => ?_) h1 h2).elim
        simp only [List.mem_cons, List.not_mem_nil, or_false] at hq
        rcases hq with k | k | k <;> subst k
        · exact ⟨by simp, ab⟩
        · exact ⟨by simp, Ne.symm bc⟩
        · exact ⟨by simp, Ne.symm bd⟩
      · refine (single c [a, b, d] mc (fun q hq => ?_) h1 h2).elim
        simp only [List.mem_cons, List.not_mem_nil, or_false] at hq
        rcases hq with k | k | k <;> subst k
        · exact ⟨by simp, ac⟩
        · exact ⟨by simp, bc⟩
        · exact ⟨by simp, Ne.symm cd⟩
      · refine (single d [a, b, c] md (fun q hq => ?_) h1 h2).elim
        simp only [List.mem_cons, List.not_mem_nil, or_false] at hq
        rcases hq with k | k | k <;> subst k
        · exact ⟨by simp, ad⟩
        · exact ⟨by simp, bd⟩
        · exact ⟨by simp, cd⟩
      · exact pair a b c d ma mb mc md ab (Ne.symm ac) (Ne.symm bc) (Ne.symm ad) (Ne.symm bd) h1 h2
      · exact pair a c b d ma mc mb md ac (Ne.symm ab) bc (Ne.symm ad) (Ne.symm cd) h1 h2
      · exact pair a d b c ma md mb mc ad (Ne.symm ab) bd (Ne.symm ac) cd h1 h2
/-- a spot in two hulls is deep -/
theorem hull_count {S : List Pt} {X Y Z : Int} (hZ : 0 < Z) (h : InHull S X Y Z) (m : Pt) : ∃ q ∈ S, 0 ≤ dot2 m (q.1 * Z - X, q.2 * Z - Y) := by
  apply Classical.byContradiction
  intro hno
  -- a line below nought at all of S, nought at the spot
  have e := h.line_pos hZ (a := -m.1 * Z) (b := -m.2 * Z) (c := m.1 * X + m.2 * Y) fun q hq => by
    have : ¬ 0 ≤ dot2 m (q.1 * Z - X, q.2 * Z - Y) := fun k => hno ⟨q, hq, k⟩
    unfold dot2 at this
    unfold at3
    simp only at this
    grind
  grind
end HP
/-! Layer D: readings over data. A frame is told by data alone: each slot holds data (no list of it is ever changed), or a list of its own that may grow, or nothing that is asked. -/
namespace LD
open PySem L2 Evl

/-! ### data as it stands; a dict's data stands for the script -/
def scrV (kvs : List (PyData × PyData)) : List V := kvs.map fun kv => match kv.1 with
  | .int n => V.int n
  | _ => V.non
def scrD (ns : List Int) : PyData := .dict (ns.map fun n => (.int n, .none))
theorem scrV_ints (ns : List Int) : scrV (ns.map fun n => (PyData.int n, PyData.none)) = ns.map V.int := by
  unfold scrV
  rw [List.map_map]
  rfl
mutual
inductive Rp (K : PySem.W.Frag) (H : Hp) : V → PyData → Prop
  | non : Rp K H .non .none
  | bl (b : Bool) : Rp K H (.bl b) (.bool b)
  | int (i : Int) : Rp K H (.int i) (.int i)
  | str (x : Str) : Rp K H (.str x) (.str x)
  | lst {a : Addr} {xs : List V} {ds : List PyData} : H a = some (.lst xs) → RpAll K H xs ds → Rp K H (.ref a) (.list ds)
  | tup {a : Addr} {xs : List V} {ds : List PyData} : H a = some (.tup xs) → RpAll K H xs ds → Rp K H (.ref a) (.tuple ds)
  | scr {a : Addr} {kvs : List (PyData × PyData)} : SqL K H a (scrV kvs) → Rp K H (.ref a) (.dict kvs)
inductive RpAll (K : PySem.W.Frag) (H : Hp) : List V → List PyData → Prop
  | nil : RpAll K H [] []
  | cons {v : V} {vs : List V} {d : PyData} {ds : List PyData} : Rp K H v d → RpAll K H vs ds → RpAll K H (v :: vs) (d :: ds)
end
mutual
/-- no list within -/
def lfree : PyData → Bool
  | .list _ => false
  | .dict _ => false
  | .tuple ds => lfreeAll ds
  | _ => true
def lfreeAll : List PyData → Bool
  | [] => true
  | d :: ds => lfree d && lfreeAll ds
end
section
variable {K : PySem.W.Frag} {H H' : Hp}
mutual
theorem Rp.mono (e : Ex H H') : ∀ {v : V} {d : PyData}, Rp K H v d → Rp K H' v d
  | _, _, .non => .non
  | _, _, .bl b => .bl b
  | _, _, .int i => .int i
  | _, _, .str x => .str x
  | _, _, .lst h r => .lst (e _ _ h) (RpAll.mono e r)
  | _, _, .tup h r => .tup (e _ _ h) (RpAll.mono e r)
  | _, _, .scr h => .scr (ex_l e h)
theorem RpAll.mono (e : Ex H H') : ∀ {vs : List V} {ds : List PyData}, RpAll K H vs ds → RpAll K H' vs ds
  | _, _, .nil => .nil
  | _, _, .cons r t => .cons (Rp.mono e r) (RpAll.mono e t)
end
mutual
theorem Rp.dp : ∀ {v : V} {d : PyData}, Rp K H v d → d.canLay0 = true → Dp K H v d
  | _, _, .non, _ => .non
  | _, _, .bl b, _ => .bl b
  | _, _, .int i, _ => .int i
  | _, _, .str x, _ => .str x
  | _, _, .lst h r, s => .lst (.inl (.inl h)) (RpAll.dp r (by simpa only [PyData.canLay0] using s))
  | _, _, .tup h r, s => .tup (.inl (.inl h)) (RpAll.dp r (by simpa only [PyData.canLay0] using s))
  | _, _, .scr h, s => by simp only [PyData.canLay0, Bool.false_eq_true] at s
theorem RpAll.dp : ∀ {vs : List V} {ds : List PyData}, RpAll K H vs ds → PyData.canLayAll0 ds = true → DpAll K H vs ds
  | _, _, .nil, _ => .nil
  | _, _, .cons r t, s => by
    simp only [PyData.canLayAll0, Bool.and_eq_true] at s
    exact .cons (Rp.dp r s.1) (RpAll.dp t s.2)
end
mutual
/-- data without lists stands when lists are left out -/
theorem Rp.cut (e : ∀ a xs, H a = some (.tup xs) → H' a = some (.tup xs)) : ∀ {v : V} {d : PyData}, Rp K H v d → lfree d = true → Rp K H' v d
  | _, _, .non, _ => .non
  | _, _, .bl b, _ => .bl b
  | _, _, .int i, _ => .int i
  | _, _, .str x, _ => .str x
  | _, _, .lst h r, s => by simp only [lfree, Bool.false_eq_true] at s
  | _, _, .tup h r, s => .tup (e _ _ h) (RpAll.cut e r (by simpa only [lfree] using s))
  | _, _, .scr h, s => by simp only [lfree, Bool.false_eq_true] at s
theorem RpAll.cut (e : ∀ a xs, H a = some (.tup xs) → H' a = some (.tup xs)) : ∀ {vs : List V} {ds : List PyData}, RpAll K H vs ds → lfreeAll ds = true → RpAll K H' vs ds
  | _, _, .nil, _ => .nil
  | _, _, .cons r t, s => by
    simp only [lfreeAll, Bool.and_eq_true] at s
    exact .cons (Rp.cut e r s.1) (RpAll.cut e t s.2)
end
theorem Rp.int_inv {v : V} {i : Int} (h : Rp K H v (.int i)) : v = .int i := by cases h; rfl
theorem Rp.bl_inv {v : V} {b : Bool} (h : Rp K H v (.bool b)) : v = .bl b := by cases h; rfl
theorem Rp.str_inv {v : V} {x : Str} (h : Rp K H v (.str x)) : v = .str x := by cases h; rfl
theorem Rp.non_inv {v : V} (h : Rp K H v .none) : v = .non := by cases h; rfl
theorem Rp.lst_inv {v : V} {ds : List PyData} (h : Rp K H v (.list ds)) : ∃ a xs, v = .ref a ∧ H a = some (.lst xs) ∧ RpAll K H xs ds := by
  cases h with
  | lst h r => exact ⟨_, _, rfl, h, r⟩
theorem Rp.tup_inv {v : V} {ds : List PyData} (h : Rp K H v (.tuple ds)) : ∃ a xs, v = .ref a ∧ H a = some (.tup xs) ∧ RpAll K H xs ds := by
  cases h with
  | tup h r => exact ⟨_, _, rfl, h, r⟩
theorem Rp.scr_inv {v : V} {ns : List Int} (h : Rp K H v (scrD ns)) : ∃ a, v = .ref a ∧ SqL K H a (ns.map V.int) := by
  unfold scrD at h
  cases h with
  | scr h =>
    rw [scrV_ints] at h
    exact ⟨_, rfl, h⟩
theorem RpAll.length : ∀ {vs : List V} {ds : List PyData}, RpAll K H vs ds → vs.length = ds.length
  | _, _, .nil => rfl
  | _, _, .cons _ t => by rw [List.length_cons, List.length_cons, RpAll.length t]
theorem RpAll.get : ∀ {vs : List V} {ds : List PyData} {i : Nat} {d : PyData}, RpAll K H vs ds → ds[i]? = some d → ∃ v, vs[i]? = some v ∧ Rp K H v d
  | _, _, _, _, .nil, h => by simp at h
  | _, _, 0, _, .cons r _, h => by
    simp at h
    subst h
    exact ⟨_, rfl, r⟩
  | _, _, i + 1, d, .cons _ t, h => by
    obtain ⟨v, h1, h2⟩ := RpAll.get (i := i) t (by simpa using h)
    exact ⟨v, by simpa using h1, h2⟩
theorem RpAll.getV : ∀ {vs : List V} {ds : List PyData} {i : Nat} {v : V}, RpAll K H vs ds → vs[i]? = some v → ∃ d, ds[i]? = some d ∧ Rp K H v d
  | _, _, _, _, .nil, h => by simp at h
  | _, _, 0, _, .cons r _, h => by
    simp at h
    subst h
    exact ⟨_, rfl, r⟩
  | _, _, i + 1, d, .cons _ t, h => by
    obtain ⟨v, h1, h2⟩ := RpAll.getV (i := i) t (by simpa using h)
    exact ⟨v, by simpa using h1, h2⟩
theorem RpAll.append : ∀ {vs ws : List V} {ds es : List PyData}, RpAll K H vs ds → RpAll K H ws es → RpAll K H (vs ++ ws) (ds ++ es)
  | _, _, _, _, .nil, h => h
  | _, _, _, _, .cons r t, h => .cons r (RpAll.append t h)
theorem RpAll.take : ∀ {vs : List V} {ds : List PyData} (n : Nat), RpAll K H vs ds → RpAll K H (vs.take n) (ds.take n)
  | _, _, 0, _ => .nil
  | _, _, _ + 1, .nil => .nil
  | _, _, n + 1, .cons r t => .cons r (RpAll.take n t)
theorem RpAll.drop : ∀ {vs : List V} {ds : List PyData} (n : Nat), RpAll K H vs ds → RpAll K H (vs.drop n) (ds.drop n)
  | _, _, 0, h => h
  | _, _, _ + 1, .nil => .nil
  | _, _, n + 1, .cons _ t => RpAll.drop n t
theorem RpAll.rev : ∀ {vs : List V} {ds : List PyData}, RpAll K H vs ds → RpAll K H vs.reverse ds.reverse
  | _, _, .nil => .nil
  | _, _, .cons r t => by
    rw [List.reverse_cons, List.reverse_cons]
    exact RpAll.append (RpAll.rev t) (.cons r .nil)
theorem RpAll.ints : ∀ {vs : List V} {ns : List Int}, RpAll K H vs (ns.map PyData.int) → vs = ns.map V.int
  | _, [], .nil => rfl
  | _, n :: ns, .cons r t => by
    rw [r.int_inv, RpAll.ints t]
    rfl
theorem RpAll.of_ints : ∀ (ns : List Int), RpAll K H (ns.map V.int) (ns.map PyData.int)
  | [] => .nil
  | n :: ns => .cons (.int n) (RpAll.of_ints ns)
theorem RpAll.bools : ∀ {vs : List V} {bs : List Bool}, RpAll K H vs (bs.map PyData.bool) → vs = bs.map V.bl
  | _, [], .nil => rfl
  | _, b :: bs, .cons r t => by
    rw [r.bl_inv, RpAll.bools t]
    rfl
end

/-! ### frames -/
inductive Sl where
  | no
  | dat (d : PyData)
  | own (ds : List PyData)
abbrev SE := List Sl
def Sl.isOwn : Sl → Bool
  | .own _ => true
  | _ => false
def noOwn (env : SE) : Bool := env.all fun s => !s.isOwn
def SlOk (K : PySem.W.Frag) (H0 H : Hp) (v : Option V) : Sl → Prop
  | .no => True
  | .dat d => ∃ x, v = some x ∧ Rp K H0 x d
  | .own ds => ∃ l xs, v = some (.ref l) ∧ H0 l = none ∧ H l = some (.lst xs) ∧ RpAll K H0 xs ds
structure SOk (K : PySem.W.Frag) (Hb H0 H : Hp) (σ : St) (env : SE) : Prop where
  base : Ex Hb H0
  up : Ex H0 H
  len : σ.length = env.length
  at_ : ∀ (i : Nat) (s : Sl), env[i]? = some s → SlOk K H0 H (σ[i]?).join s
def StD (K : PySem.W.Frag) (Hb H : Hp) (σ : St) (env : SE) : Prop := ∃ H0, SOk K Hb H0 H σ env
section
variable {K : PySem.W.Frag} {Hb H0 H H1 : Hp} {σ : St} {env : SE}
theorem SlOk.mono {H0' H' : Hp} {v : Option V} {s : Sl} (e0 : Ex H0 H0') (e : Ex H H') (hf : ∀ l xs, H0 l = none → H l = some (.lst xs) → s.isOwn = true → H0' l = none) (h : SlOk K H0 H v s) : SlOk K H0' H' v s := by
  cases s with
  | no => trivial
  | dat d =>
    obtain ⟨x, h1, h2⟩ := h
    exact ⟨x, h1, h2.mono e0⟩
  | own ds =>
    obtain ⟨l, xs, h1, h2, h3, h4⟩ := h
    exact ⟨l, xs, h1, hf l xs h2 h3 rfl, e _ _ h3, h4.mono e0⟩
theorem StD.grow (h : StD K Hb H σ env) (e : Ex H H1) : StD K Hb H1 σ env := by
  obtain ⟨H0, s⟩ := h
  exact ⟨H0, s.base, s.up.trans e, s.len, fun i sl hi => (s.at_ i sl hi).mono (Ex.refl _) e (fun l xs a _ _ => a)⟩
theorem StD.bot (h : StD K Hb H σ env) : Ex Hb H := by
  obtain ⟨H0, s⟩ := h
  exact s.base.trans s.up
/-- the heap without the frame's own lists -/
noncomputable def cutH (H : Hp) (L : Addr → Prop) : Hp := fun b => open Classical in if L b then none else H b
theorem cutH_in {H : Hp} {L : Addr → Prop} {b : Addr} (h : L b) : cutH H L b = none := by unfold cutH; rw [if_pos h]
theorem cutH_out {H : Hp} {L : Addr → Prop} {b : Addr} (h : ¬ L b) : cutH H L b = H b := by unfold cutH; rw [if_neg h]
theorem cutH_ex {H : Hp} {L : Addr → Prop} : Ex (cutH H L) H := fun a o h => by
  by_cases k : L a
  · rw [cutH_in k] at h; cases h
  · rw [cutH_out k] at h; exact h
def ownAt (σ : St) (env : SE) (b : Addr) : Prop := ∃ (i : Nat) (ds : List PyData), env[i]? = some (Sl.own ds) ∧ (σ[i]?).join = some (V.ref b)
theorem SOk.own_none (s : SOk K Hb H0 H σ env) {b : Addr} (h : ownAt σ env b) : H0 b = none ∧ ∃ xs, H b = some (.lst xs) := by
  obtain ⟨i, ds, h1, h2⟩ := h
  obtain ⟨l, xs, e, n, h3, _⟩ := s.at_ i _ h1
  rw [h2] at e
  cases e
  exact ⟨n, xs, h3⟩
/-- the ground may be taken as all that stands but the frame's own lists -/
theorem StD.widen (h : StD K Hb H σ env) : SOk K Hb (cutH H (ownAt σ env)) H σ env := by
  obtain ⟨H0, s⟩ := h
  have e : Ex H0 (cutH H (ownAt σ env)) := fun a o ha => by
    have n : ¬ ownAt σ env a := fun k => by
      rw [(s.own_none k).1] at ha
      cases ha
    rw [cutH_out n]
    exact s.up a o ha
  refine ⟨s.base.trans e, cutH_ex, s.len, fun i sl hi => ?_⟩
  cases sl with
  | no => trivial
  | dat d =>
    obtain ⟨x, h1, h2⟩ := s.at_ i _ hi
    exact ⟨x, h1, h2.mono e⟩
  | own ds =>
    obtain ⟨l, xs, h1, h2, h3, h4⟩ := s.at_ i _ hi
    exact ⟨l, xs, h1, cutH_in ⟨i, ds, hi, h1⟩, h3, h4.mono e⟩
theorem noOwn_not (h : noOwn env = true) {b : Addr} : ¬ ownAt σ env b := by
  rintro ⟨i, ds, h1, _⟩
  unfold noOwn at h
  rw [List.all_eq_true] at h
  have := h _ (List.mem_of_getElem? h1)
  simp [Sl.isOwn] at this
/-- what stands can be said of the ground, if it holds no list or if the frame has no list of its own -/
theorem rp_ground {v : V} {d : PyData} (s : SOk K Hb H0 H σ env) (h : Rp K H v d) (k : (noOwn env || lfree d) = true) : Rp K (cutH H (ownAt σ env)) v d := by
  rcases Bool.or_eq_true_iff.mp k with k | k
  · exact h.mono fun a o ha => by rw [cutH_out (noOwn_not k)]; exact ha
  · refine h.cut (fun a xs ha => ?_) k
    rw [cutH_out]
    · exact ha
    · intro q
      obtain ⟨_, ys, e⟩ := s.own_none q
      rw [ha] at e
      cases e
theorem rpAll_ground {vs : List V} {ds : List PyData} (s : SOk K Hb H0 H σ env) (h : RpAll K H vs ds) (k : (noOwn env || lfreeAll ds) = true) : RpAll K (cutH H (ownAt σ env)) vs ds := by
  rcases Bool.or_eq_true_iff.mp k with k | k
  · exact h.mono fun a o ha => by rw [cutH_out (noOwn_not k)]; exact ha
  · refine h.cut (fun a xs ha => ?_) k
    rw [cutH_out]
    · exact ha
    · intro q
      obtain ⟨_, ys, e⟩ := s.own_none q
      rw [ha] at e
      cases e
theorem join_set_same {σ : St} {i : Nat} {v : Option V} (h : i < σ.length) : ((σ.set i v)[i]?).join = v := by
  rw [List.getElem?_set_self h]
  rfl
theorem join_set_ne {σ : St} {i j : Nat} {v : Option V} (h : i ≠ j) : ((σ.set i v)[j]?).join = (σ[j]?).join := by
  rw [List.getElem?_set_ne h]
/-- a slot is stored anew -/
theorem SOk.set {i : Nat} {v : V} {s : Sl} (h : SOk K Hb H0 H σ env) (k : SlOk K H0 H (some v) s) : SOk K Hb H0 H (σ.set i (some v)) (env.set i s) := by
  refine ⟨h.base, h.up, by rw [List.length_set, List.length_set, h.len], fun j sl hj => ?_⟩
  by_cases e : i = j
  · subst e
    by_cases hl : i < env.length
    · rw [List.getElem?_set_self hl] at hj
      cases hj
      rw [join_set_same (by rw [h.len]; exact hl)]
      exact k
    · rw [List.getElem?_eq_none (by rw [List.length_set]; omega)] at hj
      cases hj
  · rw [List.getElem?_set_ne e] at hj
    rw [join_set_ne e]
    exact h.at_ j sl hj
/-- nothing more is asked of a slot -/
theorem SOk.forget {i : Nat} {v : Option V} (h : SOk K Hb H0 H σ env) : SOk K Hb H0 H (σ.set i v) (env.set i .no) := by
  refine ⟨h.base, h.up, by rw [List.length_set, List.length_set, h.len], fun j sl hj => ?_⟩
  by_cases e : i = j
  · subst e
    by_cases hl : i < env.length
    · rw [List.getElem?_set_self hl] at hj
      cases hj
      trivial
    · rw [List.getElem?_eq_none (by rw [List.length_set]; omega)] at hj
      cases hj
  · rw [List.getElem?_set_ne e] at hj
    rw [join_set_ne e]
    exact h.at_ j sl hj
end

/-! ### what evaluates to what data -/
def EvD (K : PySem.W.Frag) (te : TE) (σ : St) (H : Hp) (d : PyData) : Prop := ∀ H1, Ex H H1 → ∀ Q : VK, (∀ v H2, Ex H1 H2 → Rp K H2 v d → Q v H2) → te σ H1 Q
/-- a new list -/
def EvF (K : PySem.W.Frag) (te : TE) (σ : St) (H : Hp) (ds : List PyData) : Prop :=
  ∀ H1, Ex H H1 → ∀ Q : VK, (∀ p xs Hm H2, H1 p = none → Ex H1 Hm → Ex Hm H2 → Hm p = none → H2 p = some (.lst xs) → RpAll K Hm xs ds → Q (.ref p) H2) → te σ H1 Q
def EvAD (K : PySem.W.Frag) (ta : TA) (σ : St) (H : Hp) (ds : List PyData) : Prop := ∀ H1, Ex H H1 → ∀ Q : List V → Hp → Prop, (∀ vs H2, Ex H1 H2 → RpAll K H2 vs ds → Q vs H2) → ta σ H1 Q
def EvX (K : PySem.W.Frag) (te : TE) (env : SE) (d : PyData) : Prop := ∀ Hb σ H, StD K Hb H σ env → EvD K te σ H d
def EvFX (K : PySem.W.Frag) (te : TE) (env : SE) (ds : List PyData) : Prop := ∀ Hb σ H, StD K Hb H σ env → EvF K te σ H ds
def EvTX (K : PySem.W.Frag) (tt : TT) (env : SE) (b : Bool) : Prop := ∀ Hb σ H, StD K Hb H σ env → EvT tt σ H b
def EvAX (K : PySem.W.Frag) (ta : TA) (env : SE) (ds : List PyData) : Prop := ∀ Hb σ H, StD K Hb H σ env → EvAD K ta σ H ds
def EvOX (K : PySem.W.Frag) (to : TO) (env : SE) (o : Option Int) : Prop := ∀ Hb σ H, StD K Hb H σ env → EvO to σ H o

section
variable {K : PySem.W.Frag} {env : SE} {ta tb te tc : TE} {t u : TT} {d d' e : PyData} {tr : TA} {ds es : List PyData}
theorem ex_is (h : EvX K te env d) (e : d = d') : EvX K te env d' := e ▸ h
theorem xt_is {a b : Bool} (h : EvTX K t env a) (e : a = b) : EvTX K t env b := e ▸ h
theorem xf_is (h : EvFX K te env ds) (e : ds = es) : EvFX K te env es := e ▸ h
theorem ex_var {i : Nat} (h : env[i]? = some (.dat d)) : EvX K (tVar i) env d := fun Hb σ H s H1 e1 Q q => by
  obtain ⟨H0, s⟩ := s
  obtain ⟨x, hx, r⟩ := s.at_ i _ h
  have : σ[i]? = some (some x) := by
    cases k : σ[i]? with
    | none => rw [k] at hx; cases hx
    | some o => rw [k] at hx; exact congrArg some hx
  exact ⟨x, this, q x H1 (Ex.refl _) (r.mono (s.up.trans e1))⟩
theorem ex_own {i : Nat} (h : env[i]? = some (.own ds)) : EvX K (tVar i) env (.list ds) := fun Hb σ H s H1 e1 Q q => by
  obtain ⟨H0, s⟩ := s
  obtain ⟨l, xs, hx, _, hl, r⟩ := s.at_ i _ h
  have : σ[i]? = some (some (.ref l)) := by
    cases k : σ[i]? with
    | none => rw [k] at hx; cases hx
    | some o => rw [k] at hx; exact congrArg some hx
  exact ⟨.ref l, this, q _ H1 (Ex.refl _) (.lst (e1 _ _ hl) (r.mono (s.up.trans e1)))⟩
theorem ex_int {i : Int} : EvX K (tC (.int i)) env (.int i) := fun _ _ _ _ H1 _ _ q => q _ H1 (Ex.refl _) (.int i)
theorem ex_str {x : Str} : EvX K (tC (.str x)) env (.str x) := fun _ _ _ _ H1 _ _ q => q _ H1 (Ex.refl _) (.str x)
theorem ex_bl {b : Bool} : EvX K (tC (.bl b)) env (.bool b) := fun _ _ _ _ H1 _ _ q => q _ H1 (Ex.refl _) (.bl b)
theorem ex_non : EvX K (tC .non) env .none := fun _ _ _ _ H1 _ _ q => q _ H1 (Ex.refl _) .non
/-- two operands -/
theorem ex_two {r : R2} (ha : EvX K ta env d) (hb : EvX K tb env e) (hr : ∀ x y H, Rp K H x d → Rp K H y e → ∀ Q : VK, (∀ v H2, Ex H H2 → Rp K H2 v d' → Q v H2) → r x y H Q) : EvX K (tOp r ta tb) env d' := fun Hb σ H s H1 e1 Q q =>
  ha Hb σ H s H1 e1 _ fun x H2 e2 rx => hb Hb σ H s H2 (e1.trans e2) _ fun y H3 e3 ry => hr x y H3 (rx.mono e3) ry Q fun v H4 e4 rv => q v H4 ((e2.trans e3).trans e4) rv
theorem ex_I0 {g : Int → Int → Int} {i j : Int} (ha : EvX K ta env (.int i)) (hb : EvX K tb env (.int j)) : EvX K (tOp (rI0 fun i j => V.int (g i j)) ta tb) env (.int (g i j)) :=
  ex_two ha hb fun x y H rx ry Q q => ⟨i, j, rx.int_inv, ry.int_inv, q _ H (Ex.refl _) (.int _)⟩
theorem ex_B0 {g : Int → Int → Bool} {i j : Int} (ha : EvX K ta env (.int i)) (hb : EvX K tb env (.int j)) : EvX K (tOp (rI0 fun i j => V.bl (g i j)) ta tb) env (.bool (g i j)) :=
  ex_two ha hb fun x y H rx ry Q q => ⟨i, j, rx.int_inv, ry.int_inv, q _ H (Ex.refl _) (.bl _)⟩
theorem ex_I {C : Int → Int → Prop} {g : Int → Int → Int} {i j : Int} (ha : EvX K ta env (.int i)) (hb : EvX K tb env (.int j)) (hc : C i j) : EvX K (tOp (rI C fun i j => V.int (g i j)) ta tb) env (.int (g i j)) :=
  ex_two ha hb fun x y H rx ry Q q => ⟨i, j, rx.int_inv, ry.int_inv, hc, q _ H (Ex.refl _) (.int _)⟩
theorem ex_U {g : Int → Int} {i : Int} (ha : EvX K ta env (.int i)) : EvX K (tUn (rU fun i => V.int (g i)) ta) env (.int (g i)) := fun Hb σ H s H1 e1 Q q =>
  ha Hb σ H s H1 e1 _ fun x H2 e2 rx => ⟨i, rx.int_inv, q _ H2 e2 (.int _)⟩
theorem RpAll.at {H : Hp} {xs : List V} {i : Int} (r : RpAll K H xs ds) (h : atI ds i = some d) : ∃ v, atI xs i = some v ∧ Rp K H v d := by
  unfold atI at h ⊢
  rw [r.length]
  cases k : ixN ds.length i with
  | none => rw [k] at h; cases h
  | some j =>
    rw [k] at h
    exact r.get h
theorem ex_ixT {i : Int} (ha : EvX K ta env (.tuple ds)) (hb : EvX K tb env (.int i)) (h : atI ds i = some d) : EvX K (tOp (rIx K) ta tb) env d :=
  ex_two ha hb fun x y H rx ry Q q => by
    obtain ⟨a, xs, e1, h1, h2⟩ := rx.tup_inv
    obtain ⟨v, h3, h4⟩ := h2.at h
    exact .inr (.inl ⟨a, xs, i, v, e1, ry.int_inv, .inl (.inl h1), h3, q _ H (Ex.refl _) h4⟩)
theorem ex_ixL {i : Int} (ha : EvX K ta env (.list ds)) (hb : EvX K tb env (.int i)) (h : atI ds i = some d) : EvX K (tOp (rIx K) ta tb) env d :=
  ex_two ha hb fun x y H rx ry Q q => by
    obtain ⟨a, xs, e1, h1, h2⟩ := rx.lst_inv
    obtain ⟨v, h3, h4⟩ := h2.at h
    exact .inl ⟨a, xs, i, v, e1, ry.int_inv, .inl (.inl h1), h3, q _ H (Ex.refl _) h4⟩
theorem ex_ixScr {ns : List Int} {i n : Int} (ha : EvX K ta env (scrD ns)) (hb : EvX K tb env (.int i)) (h : atI ns i = some n) : EvX K (tOp (rIx K) ta tb) env (.int n) :=
  ex_two ha hb fun x y H rx ry Q q => by
    obtain ⟨a, e1, h1⟩ := rx.scr_inv
    refine .inl ⟨a, ns.map V.int, i, .int n, e1, ry.int_inv, h1, ?_, q _ H (Ex.refl _) (.int n)⟩
    unfold atI at h ⊢
    rw [List.length_map]
    cases k : ixN ns.length i with
    | none => rw [k] at h; cases h
    | some j =>
      rw [k] at h
      show (ns.map V.int)[j]? = _
      rw [List.getElem?_map, show ns[j]? = some n from h]
      rfl
theorem ex_eq (ha : EvX K ta env d) (hb : EvX K tb env e) (s1 : SeqAt.shaped d = true) (s2 : SeqAt.shaped e = true) : EvX K (tOp (rEqD K) ta tb) env (.bool (PyData.eqv d e)) :=
  ex_two ha hb fun x y H rx ry Q q => ⟨d, e, rx.dp (SeqAt.canLay_of_shaped s1), ry.dp (SeqAt.canLay_of_shaped s2), s1, s2, q _ H (Ex.refl _) (.bl _)⟩
theorem ex_ne (ha : EvX K ta env d) (hb : EvX K tb env e) (s1 : SeqAt.shaped d = true) (s2 : SeqAt.shaped e = true) : EvX K (tOp (rNeD K) ta tb) env (.bool (!PyData.eqv d e)) :=
  ex_two ha hb fun x y H rx ry Q q => ⟨d, e, rx.dp (SeqAt.canLay_of_shaped s1), ry.dp (SeqAt.canLay_of_shaped s2), s1, s2, q _ H (Ex.refl _) (.bl _)⟩
theorem ex_in (ha : EvX K ta env d) (hb : EvX K tb env (.list es)) (s1 : SeqAt.shaped d = true) (s2 : SeqAt.shaped (.list es) = true) : EvX K (tOp (rInD K) ta tb) env (.bool (es.any fun z => PyData.eqv z d)) :=
  ex_two ha hb fun x y H rx ry Q q => ⟨d, es, rx.dp (SeqAt.canLay_of_shaped s1), ry.dp (SeqAt.canLay_of_shaped s2), s1, s2, q _ H (Ex.refl _) (.bl _)⟩
theorem ex_notIn (ha : EvX K ta env d) (hb : EvX K tb env (.list es)) (s1 : SeqAt.shaped d = true) (s2 : SeqAt.shaped (.list es) = true) : EvX K (tOp (rNotInD K) ta tb) env (.bool (!es.any fun z => PyData.eqv z d)) :=
  ex_two ha hb fun x y H rx ry Q q => ⟨d, es, rx.dp (SeqAt.canLay_of_shaped s1), ry.dp (SeqAt.canLay_of_shaped s2), s1, s2, q _ H (Ex.refl _) (.bl _)⟩
def isNone : PyData → Bool
  | .none => true
  | _ => false
theorem Rp.isNon {H : Hp} {x : V} (r : Rp K H x d) : decide (x = .non) = isNone d := by
  cases r <;> rfl
theorem ex_isN (ha : EvX K ta env d) : EvX K (tOp (fun x y H Q => y = .non ∧ Q (.bl (decide (x = .non))) H) ta (tC .non)) env (.bool (isNone d)) :=
  ex_two ha ex_non fun x y H rx ry Q q => ⟨ry.non_inv, by
    rw [rx.isNon]
    exact q _ H (Ex.refl _) (.bl _)⟩
theorem ex_notN (ha : EvX K ta env d) : EvX K (tOp (fun x y H Q => y = .non ∧ Q (.bl (!decide (x = .non))) H) ta (tC .non)) env (.bool (!isNone d)) :=
  ex_two ha ex_non fun x y H rx ry Q q => ⟨ry.non_inv, by
    rw [rx.isNon]
    exact q _ H (Ex.refl _) (.bl _)⟩
/-- arguments -/
theorem ea_nil : EvAX K tNil env [] := fun _ _ _ _ H1 _ _ q => q _ H1 (Ex.refl _) .nil
theorem ea_cons (h : EvX K te env d) (hr : EvAX K tr env ds) : EvAX K (tCons te tr) env (d :: ds) := fun Hb σ H s H1 e1 Q q =>
  h Hb σ H s H1 e1 _ fun x H2 e2 rx => hr Hb σ H s H2 (e1.trans e2) _ fun xs H3 e3 rxs => q _ H3 (e2.trans e3) (.cons (rx.mono e3) rxs)
theorem ex_tup (h : EvAX K tr env ds) (hl : ds.length ≤ 100000) : EvX K (tTup tr) env (.tuple ds) := fun Hb σ H s H1 e1 Q q =>
  h Hb σ H s H1 e1 _ fun vs H2 e2 r => ⟨sz_of (by rw [r.length]; exact hl), fun p hp => q _ _ (e2.trans (Ex.new hp)) (.tup upd_same (r.mono (Ex.new hp)))⟩
theorem xf_lst (h : EvAX K tr env ds) (hl : ds.length ≤ 100000) : EvFX K (tLst tr) env ds := fun Hb σ H s H1 e1 Q q =>
  h Hb σ H s H1 e1 _ fun vs H2 e2 r => ⟨sz_of (by rw [r.length]; exact hl), fun p hp => q p vs H2 _ (fresh_back e2 hp) e2 (Ex.new hp) hp upd_same r⟩
theorem ex_new (h : EvFX K te env ds) : EvX K te env (.list ds) := fun Hb σ H s H1 e1 Q q =>
  h Hb σ H s H1 e1 _ fun p xs Hm H2 _ e2 e3 _ h2 r => q _ H2 (e2.trans e3) (.lst h2 (r.mono e3))
/-- a built-in's call by values -/
theorem ex_cb {r : List V → Hp → VK → Prop} (h : EvAX K tr env ds) (hr : ∀ vs H, RpAll K H vs ds → ∀ Q : VK, (∀ v H2, Ex H H2 → Rp K H2 v d → Q v H2) → r vs H Q) : EvX K (tCB r tr) env d := fun Hb σ H s H1 e1 Q q =>
  h Hb σ H s H1 e1 _ fun vs H2 e2 rv => hr vs H2 rv Q fun v H3 e3 rd => q v H3 (e2.trans e3) rd
theorem xf_cb {r : List V → Hp → VK → Prop} (h : EvAX K tr env ds) (hr : ∀ vs H, RpAll K H vs ds → ∀ Q : VK, (∀ p xs Hm H2, H p = none → Ex H Hm → Ex Hm H2 → Hm p = none → H2 p = some (.lst xs) → RpAll K Hm xs es → Q (.ref p) H2) → r vs H Q) : EvFX K (tCB r tr) env es := fun Hb σ H s H1 e1 Q q =>
  h Hb σ H s H1 e1 _ fun vs H2 e2 rv => hr vs H2 rv Q fun p xs Hm H3 hp e3 e4 hm h3 rd => q p xs Hm H3 (fresh_back e2 hp) (e2.trans e3) e4 hm h3 rd
theorem RpAll.one {H : Hp} {vs : List V} (r : RpAll K H vs [d]) : ∃ v, vs = [v] ∧ Rp K H v d := by
  cases r with
  | cons r t =>
    cases t
    exact ⟨_, rfl, r⟩
theorem RpAll.pair {H : Hp} {vs : List V} (r : RpAll K H vs [d, e]) : ∃ v w, vs = [v, w] ∧ Rp K H v d ∧ Rp K H w e := by
  cases r with
  | cons r t =>
    obtain ⟨w, rfl, rw⟩ := t.one
    exact ⟨_, w, rfl, r, rw⟩
def lenD : PyData → Option Nat
  | .list ds => some ds.length
  | .tuple ds => some ds.length
  | .dict kvs => some kvs.length
  | .str x => if x.length ≤ 100000 then some x.length else none
  | _ => none
theorem ex_len {n : Nat} (h : EvX K te env d) (hn : lenD d = some n) : EvX K (tCB (fun xs H Q => ∃ x n, xs = [x] ∧ LenV K x H n ∧ Q (.int n) H) (tCons te tNil)) env (.int n) :=
  ex_cb (ea_cons h ea_nil) fun vs H r Q q => by
    obtain ⟨v, rfl, rv⟩ := r.one
    refine ⟨v, n, rfl, ?_, q _ H (Ex.refl _) (.int n)⟩
    cases rv with
    | lst h1 r1 =>
      cases hn
      exact .inl ⟨_, .inl (.inl h1), r1.length.symm⟩
    | tup h1 r1 =>
      cases hn
      exact .inr ⟨_, .inl (.inl h1), r1.length.symm⟩
    | scr h1 =>
      cases hn
      exact .inl ⟨_, h1, by unfold scrV; rw [List.length_map]⟩
    | str x =>
      have hn' : (if x.length ≤ 100000 then some x.length else none) = some n := hn
      by_cases hx : x.length ≤ 100000
      · rw [if_pos hx] at hn'
        cases hn'
        exact ⟨sz_of hx, rfl⟩
      · rw [if_neg hx] at hn'
        cases hn'
    | _ => cases hn
theorem ex_abs {i : Int} (h : EvX K te env (.int i)) : EvX K (tCB (fun xs H Q => ∃ i, xs = [.int i] ∧ Q (.int (if i < 0 then -i else i)) H) (tCons te tNil)) env (.int (if i < 0 then -i else i)) :=
  ex_cb (ea_cons h ea_nil) fun vs H r Q q => by
    obtain ⟨v, rfl, rv⟩ := r.one
    rw [rv.int_inv]
    exact ⟨i, rfl, q _ H (Ex.refl _) (.int _)⟩
/-- calls of defs: F says which data the def answers for which -/
def spD (K : PySem.W.Frag) (F : List PyData → PyData → Prop) : Sp := fun vs H Q _ => ∃ ds d, RpAll K H vs ds ∧ F ds d ∧ ∀ v H', Ex H H' → Rp K H' v d → Q v H'
def spF (K : PySem.W.Frag) (F : List PyData → List PyData → Prop) : Sp := fun vs H Q _ => ∃ ds es, RpAll K H vs ds ∧ F ds es ∧ ∀ p xs Hm H', H p = none → Ex H Hm → Ex Hm H' → Hm p = none → H' p = some (.lst xs) → RpAll K Hm xs es → Q (.ref p) H'
theorem ex_call {F : List PyData → PyData → Prop} {E : XK} (h : EvAX K tr env ds) (hF : F ds d) : EvX K (tCall (spD K F) [] E tr) env d := fun Hb σ H s H1 e1 Q q =>
  h Hb σ H s H1 e1 _ fun vs H2 e2 rv => ⟨ds, d, by rw [List.append_nil]; exact rv, hF, fun v H3 e3 r => q v H3 (e2.trans e3) r⟩
theorem xf_call {F : List PyData → List PyData → Prop} {E : XK} (h : EvAX K tr env ds) (hF : F ds es) : EvFX K (tCall (spF K F) [] E tr) env es := fun Hb σ H s H1 e1 Q q =>
  h Hb σ H s H1 e1 _ fun vs H2 e2 rv => ⟨ds, es, by rw [List.append_nil]; exact rv, hF, fun p xs Hm H3 hp e3 e4 hm h3 r => q p xs Hm H3 (fresh_back e2 hp) (e2.trans e3) e4 hm h3 r⟩
/-- none, or a new list -/
def spO (K : PySem.W.Frag) (F : List PyData → Option (List PyData) → Prop) : Sp := fun vs H Q _ => ∃ ds o, RpAll K H vs ds ∧ F ds o ∧ (o = none → ∀ H', Ex H H' → Q .non H') ∧
  ∀ es, o = some es → ∀ p xs Hm H', H p = none → Ex H Hm → Ex Hm H' → Hm p = none → H' p = some (.lst xs) → RpAll K Hm xs es → Q (.ref p) H'
theorem ex_callO {F : List PyData → Option (List PyData) → Prop} {E : XK} (h : EvAX K tr env ds) (hF : F ds none) : EvX K (tCall (spO K F) [] E tr) env .none := fun Hb σ H s H1 e1 Q q =>
  h Hb σ H s H1 e1 _ fun vs H2 e2 rv => ⟨ds, none, by rw [List.append_nil]; exact rv, hF, (fun _ H3 e3 => q _ H3 (e2.trans e3) .non), fun es e => by cases e⟩
theorem xf_callO {F : List PyData → Option (List PyData) → Prop} {E : XK} (h : EvAX K tr env ds) (hF : F ds (some es)) : EvFX K (tCall (spO K F) [] E tr) env es := fun Hb σ H s H1 e1 Q q =>
  h Hb σ H s H1 e1 _ fun vs H2 e2 rv => ⟨ds, some es, by rw [List.append_nil]; exact rv, hF, (fun e => by cases e), fun es' e p xs Hm H3 hp e3 e4 hm h3 r => by
    cases e
    exact q p xs Hm H3 (fresh_back e2 hp) (e2.trans e3) e4 hm h3 r⟩
/-- an answer told by more than its data: R of what stood, the value, what stands -/
def spR (K : PySem.W.Frag) (F : List PyData → (Hp → V → Hp → Prop) → Prop) : Sp := fun vs H Q _ => ∃ ds R, RpAll K H vs ds ∧ F ds R ∧ ∀ Hm v H', Ex H Hm → Ex Hm H' → R Hm v H' → Q v H'
theorem ex_callR {F : List PyData → (Hp → V → Hp → Prop) → Prop} {R : Hp → V → Hp → Prop} {E : XK} (h : EvAX K tr env ds) (hF : F ds R) (hR : ∀ Hm v H, R Hm v H → Rp K H v d) : EvX K (tCall (spR K F) [] E tr) env d := fun Hb σ H s H1 e1 Q q =>
  h Hb σ H s H1 e1 _ fun vs H2 e2 rv => ⟨ds, R, by rw [List.append_nil]; exact rv, hF, fun Hm v H3 e3 e4 r => q v H3 ((e2.trans e3).trans e4) (hR Hm v H3 r)⟩
def EvRX (K : PySem.W.Frag) (te : TE) (env : SE) (R : Hp → V → Hp → Prop) : Prop := ∀ Hb σ H, StD K Hb H σ env → ∀ Q : VK, (∀ Hm v H', Ex H Hm → Ex Hm H' → R Hm v H' → Q v H') → te σ H Q
theorem er_call {F : List PyData → (Hp → V → Hp → Prop) → Prop} {R : Hp → V → Hp → Prop} {E : XK} (h : EvAX K tr env ds) (hF : F ds R) : EvRX K (tCall (spR K F) [] E tr) env R := fun Hb σ H s Q q =>
  h Hb σ H s H (Ex.refl H) _ fun vs H2 e2 rv => ⟨ds, R, by rw [List.append_nil]; exact rv, hF, fun Hm v H3 e3 e4 r => q Hm v H3 (e2.trans e3) e4 r⟩
/-- slices -/
theorem eo_no : EvOX K tNoPart env none := fun _ _ _ _ => Evl.eo_none
theorem eo_at {i : Int} (h : EvX K te env (.int i)) : EvOX K (tPart te) env (some i) := fun Hb σ H s H1 e1 Q q => h Hb σ H s H1 e1 _ fun v H2 e2 r => ⟨i, r.int_inv, q H2 e2⟩
def cutD {α : Type} (xs : List α) (lo hi : Option Int) : List α := (xs.drop (HT.sIx xs.length 0 lo)).take (HT.sIx xs.length xs.length hi - HT.sIx xs.length 0 lo)
theorem xf_sl {tl th : TO} {lo hi : Option Int} (h : EvX K te env (.list ds)) (h1 : EvOX K tl env lo) (h2 : EvOX K th env hi) : EvFX K (tSl (rSlL K) te tl th) env (cutD ds lo hi) := fun Hb σ H s H1 e1 Q q =>
  h Hb σ H s H1 e1 _ fun v H2 e2 r => h1 Hb σ H s H2 (e1.trans e2) _ fun H3 e3 => h2 Hb σ H s H3 ((e1.trans e2).trans e3) _ fun H4 e4 => by
    obtain ⟨a, xs, rfl, hv, rx⟩ := r.lst_inv
    have hv4 : H4 a = some (.lst xs) := e4 _ _ (e3 _ _ hv)
    refine ⟨a, xs, rfl, .inl (.inl hv4), fun p hp => q p _ H4 _ (fresh_back ((e2.trans e3).trans e4) hp) ((e2.trans e3).trans e4) (Ex.new hp) hp upd_same ?_⟩
    unfold cutV cutD
    rw [rx.length]
    exact ((rx.mono (e3.trans e4)).drop _).take _
theorem xf_slScr {tl th : TO} {lo hi : Option Int} {ns : List Int} (h : EvX K te env (scrD ns)) (h1 : EvOX K tl env lo) (h2 : EvOX K th env hi) : EvFX K (tSl (rSlL K) te tl th) env ((cutD ns lo hi).map PyData.int) := fun Hb σ H s H1 e1 Q q =>
  h Hb σ H s H1 e1 _ fun v H2 e2 r => h1 Hb σ H s H2 (e1.trans e2) _ fun H3 e3 => h2 Hb σ H s H3 ((e1.trans e2).trans e3) _ fun H4 e4 => by
    obtain ⟨a, rfl, hv⟩ := r.scr_inv
    refine ⟨a, ns.map V.int, rfl, ex_l (e3.trans e4) hv, fun p hp => q p _ H4 _ (fresh_back ((e2.trans e3).trans e4) hp) ((e2.trans e3).trans e4) (Ex.new hp) hp upd_same ?_⟩
    have : cutV (ns.map V.int) lo hi = (cutD ns lo hi).map V.int := by
      unfold cutV cutD
      rw [List.length_map, List.map_take, List.map_drop]
    rw [this]
    exact RpAll.of_ints _
/-- xs + ys -/
theorem xf_cat (ha : EvX K ta env (.list ds)) (hb : EvX K tb env (.list es)) (hl : ds.length + es.length ≤ 100000) : EvFX K (tOp rCat ta tb) env (ds ++ es) := fun Hb σ H s H1 e1 Q q =>
  ha Hb σ H s H1 e1 _ fun x H2 e2 rx => hb Hb σ H s H2 (e1.trans e2) _ fun y H3 e3 ry => by
    obtain ⟨a, xs, rfl, h1, r1⟩ := rx.lst_inv
    obtain ⟨b, ys, rfl, h2, r2⟩ := ry.lst_inv
    exact ⟨a, b, xs, ys, rfl, rfl, e3 _ _ h1, h2, sz_of (by rw [r1.length, r2.length]; exact hl), fun p hp => q p _ H3 _ (fresh_back (e2.trans e3) hp) (e2.trans e3) (Ex.new hp) hp upd_same ((r1.mono e3).append r2)⟩
/-- list(xs) -/
theorem xf_list (h : EvX K te env (.list ds)) : EvFX K (tCB (fun xs H Q => ∃ p ys, xs = [.ref p] ∧ (SqL K H p ys ∨ SqT K H p ys) ∧ ∀ l, H l = none → Q (.ref l) (upd H l (.lst ys))) (tCons te tNil)) env ds :=
  xf_cb (ea_cons h ea_nil) fun vs H r Q q => by
    obtain ⟨v, rfl, rv⟩ := r.one
    obtain ⟨a, xs, rfl, h1, r1⟩ := rv.lst_inv
    exact ⟨a, xs, rfl, .inl (.inl (.inl h1)), fun l hl => q l xs H _ hl (Ex.refl _) (Ex.new hl) hl upd_same r1⟩

/-! ### tests -/
theorem xt_test {b : Bool} (h : EvX K te env (.bool b)) : EvTX K (tTest te) env b := fun Hb σ H s H1 e1 Q q => h Hb σ H s H1 e1 _ fun v H2 e2 r => ⟨b, r.bl_inv, q H2 e2⟩
theorem xt_B {b : Bool} (h : EvX K te env (.bool b)) : EvTX K (tB te) env b := fun Hb σ H s H1 e1 Q q => h Hb σ H s H1 e1 _ fun v H2 e2 r => ⟨b, r.bl_inv, q H2 e2⟩
theorem xt_not {b : Bool} (h : EvTX K t env b) : EvTX K (tNot t) env (!b) := fun Hb σ H s => Evl.et_not (h Hb σ H s)
theorem xt_and {a b : Bool} (h1 : EvTX K t env a) (h2 : a = true → EvTX K u env b) : EvTX K (tAnd t u) env (a && b) := fun Hb σ H s => Evl.et_and (h1 Hb σ H s) fun e => h2 e Hb σ H s
theorem xt_or {a b : Bool} (h1 : EvTX K t env a) (h2 : a = false → EvTX K u env b) : EvTX K (tOr t u) env (a || b) := fun Hb σ H s => Evl.et_or (h1 Hb σ H s) fun e => h2 e Hb σ H s
theorem ex_andV {a b : Bool} (h1 : EvX K ta env (.bool a)) (h2 : a = true → EvX K tb env (.bool b)) : EvX K (tAndV ta tb) env (.bool (a && b)) := fun Hb σ H s H1 e1 Q q => h1 Hb σ H s H1 e1 _ fun v H2 e2 r => ⟨a, r.bl_inv, by
  cases a with
  | true =>
    show tb σ H2 Q
    exact h2 rfl Hb σ H s H2 (e1.trans e2) Q fun v H3 e3 r => q v H3 (e2.trans e3) r
  | false =>
    show Q (.bl false) H2
    exact q _ H2 e2 (.bl false)⟩
theorem ex_orV {a b : Bool} (h1 : EvX K ta env (.bool a)) (h2 : a = false → EvX K tb env (.bool b)) : EvX K (tOrV ta tb) env (.bool (a || b)) := fun Hb σ H s H1 e1 Q q => h1 Hb σ H s H1 e1 _ fun v H2 e2 r => ⟨a, r.bl_inv, by
  cases a with
  | true =>
    show Q (.bl true) H2
    exact q _ H2 e2 (.bl true)
  | false =>
    show tb σ H2 Q
    exact h2 rfl Hb σ H s H2 (e1.trans e2) Q fun v H3 e3 r => q v H3 (e2.trans e3) r⟩
theorem ex_notV {a : Bool} (h1 : EvX K ta env (.bool a)) : EvX K (tNotV ta) env (.bool (!a)) := fun Hb σ H s H1 e1 Q q => h1 Hb σ H s H1 e1 _ fun v H2 e2 r => ⟨a, r.bl_inv, q _ H2 e2 (.bl _)⟩
theorem ex_if {b : Bool} (h : EvTX K t env b) (h1 : b = true → EvX K ta env d) (h2 : b = false → EvX K tb env d) : EvX K (tIf t ta tb) env d := fun Hb σ H s H1 e1 Q q => h Hb σ H s H1 e1 _ fun H2 e2 => by
  cases b with
  | true =>
    show ta σ H2 Q
    exact h1 rfl Hb σ H s H2 (e1.trans e2) Q fun v H3 e3 r => q v H3 (e2.trans e3) r
  | false =>
    show tb σ H2 Q
    exact h2 rfl Hb σ H s H2 (e1.trans e2) Q fun v H3 e3 r => q v H3 (e2.trans e3) r
/-- a < b < c -/
theorem ex_chain {r r' : R2} {a b : Bool} {d1 d2 d3 : PyData} (h1 : EvX K ta env d1) (h2 : EvX K tb env d2) (hr : ∀ x y H, Rp K H x d1 → Rp K H y d2 → ∀ Q : VK, (∀ H2, Ex H H2 → Q (.bl a) H2) → r x y H Q)
    (h3 : a = true → EvX K tc env d3) (hr' : ∀ x y H, Rp K H x d2 → Rp K H y d3 → ∀ Q : VK, (∀ H2, Ex H H2 → Q (.bl b) H2) → r' x y H Q) : EvX K (tChain r r' ta tb tc) env (.bool (a && b)) := fun Hb σ H s H1 e1 Q q =>
  h1 Hb σ H s H1 e1 _ fun x H2 e2 rx => h2 Hb σ H s H2 (e1.trans e2) _ fun y H3 e3 ry => hr x y H3 (rx.mono e3) ry _ fun H4 e4 => ⟨a, rfl, by
    cases a with
    | true =>
      show tc σ H4 fun w' H4 => r' y w' H4 Q
      exact h3 rfl Hb σ H s H4 (((e1.trans e2).trans e3).trans e4) _ fun z H5 e5 rz => hr' y z H5 (ry.mono (e4.trans e5)) rz Q fun H6 e6 => q _ H6 ((((e2.trans e3).trans e4).trans e5).trans e6) (.bl _)
    | false =>
      show Q (.bl false) H4
      exact q _ H4 ((e2.trans e3).trans e4) (.bl false)⟩
theorem ex_chainI {g g' : Int → Int → Bool} {i j k : Int} (h1 : EvX K ta env (.int i)) (h2 : EvX K tb env (.int j)) (h3 : EvX K tc env (.int k)) : EvX K (tChain (rI0 fun i j => V.bl (g i j)) (rI0 fun i j => V.bl (g' i j)) ta tb tc) env (.bool (g i j && g' j k)) :=
  ex_chain h1 h2 (fun x y H rx ry Q q => ⟨i, j, rx.int_inv, ry.int_inv, q H (Ex.refl _)⟩) (fun _ => h3) (fun x y H rx ry Q q => ⟨j, k, rx.int_inv, ry.int_inv, q H (Ex.refl _)⟩)
end

/-! ### statements: from a frame to an outcome -/
inductive Out where
  | nx (e : SE)
  | rt (d : PyData)
  | rf (ds : List PyData)
  | rq (R : Hp → V → Hp → Prop)
  | bk (e : SE)
  | ct (e : SE)
  | ex (P : Hp → Prop)
def Out.stays : Out → Bool
  | .nx _ => true
  | _ => false
def Good (K : PySem.W.Frag) (Hb : Hp) (D : Ends) : Out → Prop
  | .nx e => ∀ σ H, StD K Hb H σ e → D.nx σ H
  | .rt d => ∀ v H, Ex Hb H → Rp K H v d → D.rt v H
  | .rf ds => ∀ p xs Hm H, Hb p = none → Ex Hb Hm → Ex Hm H → Hm p = none → H p = some (.lst xs) → RpAll K Hm xs ds → D.rt (.ref p) H
  | .rq R => ∀ Hm v H, Ex Hb Hm → Ex Hm H → R Hm v H → D.rt v H
  | .bk e => ∀ σ H, StD K Hb H σ e → D.bk σ H
  | .ct e => ∀ σ H, StD K Hb H σ e → D.ct σ H
  | .ex P => ∀ H, Ex Hb H → P H
def RunX (K : PySem.W.Frag) (t : TS) (env : SE) (out : Out) : Prop := ∀ Hb σ H D, StD K Hb H σ env → Good K Hb D out → t D σ H
section
variable {K : PySem.W.Frag} {env e1 : SE} {te : TE} {tt : TT} {t u w : TS} {out : Out} {d : PyData} {ds es : List PyData}
theorem StD.base {Hb Hb' H : Hp} {σ : St} (e : Ex Hb Hb') (h : StD K Hb' H σ env) : StD K Hb H σ env := by
  obtain ⟨H0, s⟩ := h
  exact ⟨H0, e.trans s.base, s.up, s.len, s.at_⟩
theorem Good.base {Hb Hb' : Hp} {D : Ends} (e : Ex Hb Hb') : ∀ {out : Out}, Good K Hb D out → Good K Hb' D out
  | .nx _, g => fun σ H s => g σ H (s.base e)
  | .rt _, g => fun v H x r => g v H (e.trans x) r
  | .rf _, g => fun p xs Hm H hp a b hm h r => g p xs Hm H (fresh_back e hp) (e.trans a) b hm h r
  | .rq _, g => fun Hm v H a b r => g Hm v H (e.trans a) b r
  | .bk _, g => fun σ H s => g σ H (s.base e)
  | .ct _, g => fun σ H s => g σ H (s.base e)
  | .ex _, g => fun H a => g H (e.trans a)
theorem rx_seq (h1 : RunX K t env (.nx e1)) (h2 : RunX K u e1 out) : RunX K (tSeq t u) env out := fun Hb σ H D s g => h1 Hb σ H { D with nx := u D } s fun σ' H' s' => h2 Hb σ' H' D s' g
theorem rx_end (h : RunX K t env out) (k : out.stays = false) : RunX K (tSeq t u) env out := fun Hb σ H D s g => h Hb σ H { D with nx := u D } s (by
  cases out with
  | nx e => cases k
  | rt d => exact g
  | rf ds => exact g
  | rq R => exact g
  | bk e => exact g
  | ct e => exact g
  | ex P => exact g)
theorem rx_next : RunX K tNext env (.nx env) := fun Hb σ H D s g => g σ H s
theorem rx_break : RunX K tBreak env (.bk env) := fun Hb σ H D s g => g σ H s
theorem rx_cont : RunX K tCont env (.ct env) := fun Hb σ H D s g => g σ H s
theorem rx_asg {i : Nat} (h : EvX K te env d) (k : (noOwn env || lfree d) = true) : RunX K (tAsg te (gName i)) env (.nx (env.set i (.dat d))) := fun Hb σ H D s g =>
  h Hb σ H s H (Ex.refl H) _ fun v H1 e r => g _ H1 ⟨_, (s.grow e).widen.set ⟨v, rfl, rp_ground (s.grow e).widen r k⟩⟩
/-- a new list, the slot's own -/
theorem rx_asgF {i : Nat} (h : EvFX K te env ds) (k : (noOwn env || lfreeAll ds) = true) : RunX K (tAsg te (gName i)) env (.nx (env.set i (.own ds))) := fun Hb σ H D s g =>
  h Hb σ H s H (Ex.refl H) _ fun p xs Hm H1 hp e1 e2 hm h1 r => by
    have sm := (s.grow e1).widen
    have r' := rpAll_ground sm r k
    have so : SOk K Hb (cutH Hm (ownAt σ env)) H1 σ env := by
      refine ⟨sm.base, sm.up.trans e2, sm.len, fun j sl hj => ?_⟩
      exact (sm.at_ j sl hj).mono (Ex.refl _) e2 fun l xs a _ _ => a
    refine g _ H1 ⟨_, so.set ⟨p, xs, rfl, ?_, h1, r'⟩⟩
    by_cases q : ownAt σ env p
    · exact cutH_in q
    · rw [cutH_out q]; exact hm
theorem rx_drop (h : EvX K te env d) : RunX K (tDrop te) env (.nx env) := fun Hb σ H D s g => h Hb σ H s H (Ex.refl H) _ fun v H1 e _ => g _ H1 (s.grow e)
theorem rx_ret (h : EvX K te env d) : RunX K (tRet te) env (.rt d) := fun Hb σ H D s g => h Hb σ H s H (Ex.refl H) _ fun v H1 e r => g v H1 (s.bot.trans e) r
theorem rx_retF (h : EvFX K te env ds) : RunX K (tRet te) env (.rf ds) := fun Hb σ H D s g =>
  h Hb σ H s H (Ex.refl H) _ fun p xs Hm H1 hp e1 e2 hm h1 r => g p xs Hm H1 (fresh_back s.bot hp) (s.bot.trans e1) e2 hm h1 r
theorem rx_retO {i : Nat} (h : env[i]? = some (.own ds)) : RunX K (tRet (tVar i)) env (.rf ds) := fun Hb σ H D s g => by
  obtain ⟨H0, s⟩ := s
  obtain ⟨l, xs, hx, hn, hl, r⟩ := s.at_ i _ h
  have hv : σ[i]? = some (some (.ref l)) := by
    cases k : σ[i]? with
    | none => rw [k] at hx; cases hx
    | some o => rw [k] at hx; exact congrArg some hx
  exact ⟨.ref l, hv, g l xs H0 H (fresh_back s.base hn) s.base s.up hn hl r⟩
theorem rx_retR {R : Hp → V → Hp → Prop} (h : EvRX K te env R) : RunX K (tRet te) env (.rq R) := fun Hb σ H D s g => h Hb σ H s _ fun Hm v H1 e1 e2 r => g Hm v H1 (s.bot.trans e1) e2 r
theorem rx_rt (h : RunX K t env (.rt d)) : RunX K t env (.rq fun _ v H => Rp K H v d) := fun Hb σ H D s g => h Hb σ H D s fun v H1 e r => g Hb v H1 (Ex.refl _) e r
theorem rx_retN : RunX K tRetN env (.rt .none) := fun Hb σ H D s g => g .non H s.bot .non
theorem rx_if {b : Bool} (h : EvTX K tt env b) (h1 : b = true → RunX K t env out) (h2 : b = false → RunX K u env out) : RunX K (tIfS tt t u) env out := fun Hb σ H D s g =>
  h Hb σ H s H (Ex.refl H) _ fun H1 e => by
    cases b with
    | true =>
      show t D σ H1
      exact h1 rfl Hb σ H1 D (s.grow e) g
    | false =>
      show u D σ H1
      exact h2 rfl Hb σ H1 D (s.grow e) g
/-- an if, and what stands behind it -/
theorem rx_ifS {b : Bool} (h : EvTX K tt env b) (h1 : b = true → RunX K (tSeq t w) env out) (h2 : b = false → RunX K (tSeq u w) env out) : RunX K (tSeq (tIfS tt t u) w) env out := fun Hb σ H D s g =>
  h Hb σ H s H (Ex.refl H) _ fun H1 e => by
    cases b with
    | true =>
      show tSeq t w D σ H1
      exact h1 rfl Hb σ H1 D (s.grow e) g
    | false =>
      show tSeq u w D σ H1
      exact h2 rfl Hb σ H1 D (s.grow e) g
theorem rx_nextS (h : RunX K w env out) : RunX K (tSeq tNext w) env out := fun Hb σ H D s g => h Hb σ H D s g
theorem rx_is {out' : Out} (h : RunX K t env out) (e : out = out') : RunX K t env out' := e ▸ h
theorem list_is_not {H : Hp} {a b : Addr} {xs : List V} {o : HO} (h : H a = some (.lst xs)) (k : H b = some o) (n : ∀ ys, o ≠ .lst ys) : b ≠ a := fun e => by
  subst e
  rw [h] at k
  exact n xs (Option.some.inj k).symm
/-- the frame when its one own list has been stored anew -/
theorem SOk.store {Hb H0 H : Hp} {σ : St} {i : Nat} {l : Addr} {ys : List V} (s : SOk K Hb H0 H σ env) (hl : (σ[i]?).join = some (.ref l)) (hn : H0 l = none) (hi : i < env.length) (one : noOwn (env.set i .no) = true) (r : RpAll K H0 ys es) : SOk K Hb H0 (upd H l (.lst ys)) σ (env.set i (.own es)) := by
  refine ⟨s.base, Ex.mut s.up hn, by rw [List.length_set, s.len], fun j sl hj => ?_⟩
  by_cases e : i = j
  · subst e
    rw [List.getElem?_set_self hi] at hj
    cases hj
    exact ⟨l, ys, hl, hn, upd_same, r⟩
  · rw [List.getElem?_set_ne e] at hj
    have k := s.at_ j sl hj
    cases sl with
    | no => trivial
    | dat d => exact k
    | own ds =>
      exfalso
      unfold noOwn at one
      rw [List.all_eq_true] at one
      have := one (.own ds) (List.mem_of_getElem? (i := j) (by rw [List.getElem?_set_ne e]; exact hj))
      simp [Sl.isOwn] at this
theorem own_slot {Hb H0 H : Hp} {σ : St} {i : Nat} (s : SOk K Hb H0 H σ env) (h : env[i]? = some (.own ds)) : ∃ l xs, σ[i]? = some (some (.ref l)) ∧ (σ[i]?).join = some (.ref l) ∧ H0 l = none ∧ H l = some (.lst xs) ∧ RpAll K H0 xs ds := by
  obtain ⟨l, xs, hx, hn, hl, r⟩ := s.at_ i _ h
  have hv : σ[i]? = some (some (.ref l)) := by
    cases k : σ[i]? with
    | none => rw [k] at hx; cases hx
    | some o => rw [k] at hx; exact congrArg some hx
  exact ⟨l, xs, hv, hx, hn, hl, r⟩
theorem lfreeAll_app : ∀ {ds es : List PyData}, lfreeAll (ds ++ es) = (lfreeAll ds && lfreeAll es)
  | [], _ => rfl
  | d :: ds, es => by
    show (lfree d && lfreeAll (ds ++ es)) = ((lfree d && lfreeAll ds) && lfreeAll es)
    rw [lfreeAll_app, Bool.and_assoc]
/-- xs.append(e), xs the frame's one own list -/
theorem rx_app {i : Nat} (h : env[i]? = some (.own ds)) (he : EvX K te env d) (hd : lfree d = true) (hz : ds.length < 100000) (one : noOwn (env.set i .no) = true) :
    RunX K (tDrop (tBM K "list" rAppend (tVar i) (tCons te tNil))) env (.nx (env.set i (.own (ds ++ [d])))) := fun Hb σ H D s g => by
  have s0 := s.widen
  obtain ⟨l, xs, hv, hx, hn, hl, r⟩ := own_slot s0 h
  refine ⟨.ref l, hv, .inl ⟨rfl, xs, .inl (.inl hl)⟩, he Hb σ H s H (Ex.refl H) _ fun v H1 e rv => ?_⟩
  have s1 := (s.grow e).widen
  obtain ⟨l', xs', hv', hx', hn', hl', r'⟩ := own_slot s1 h
  rw [hv] at hv'
  cases hv'
  refine ⟨l, xs', v, rfl, rfl, hl', sz_lt (by rw [r'.length]; exact hz), g _ _ ⟨_, s1.store hx hn' ?_ one (r'.append (.cons (rp_ground s1 rv (by rw [hd, Bool.or_true])) .nil))⟩⟩
  exact (List.getElem?_eq_some_iff.mp h).1
/-- xs.pop() -/
theorem rx_pop {i : Nat} (h : env[i]? = some (.own (ds ++ [d]))) (one : noOwn (env.set i .no) = true) : RunX K (tDrop (tBM0 K "list" rPop (tVar i))) env (.nx (env.set i (.own ds))) := fun Hb σ H D s g => by
  have s0 := s.widen
  obtain ⟨l, xs, hv, hx, hn, hl, r⟩ := own_slot s0 h
  have hlen := r.length
  rw [List.length_append, List.length_singleton] at hlen
  obtain ⟨y, hy, ry⟩ := r.get (i := xs.length - 1) (d := d) (by
    rw [List.getElem?_append_right (by omega), show xs.length - 1 - ds.length = 0 by omega]
    rfl)
  refine ⟨.ref l, hv, .inl ⟨rfl, xs, .inl (.inl hl)⟩, l, xs, y, rfl, rfl, hl, hy, g _ _ ⟨_, s0.store hx hn (List.getElem?_eq_some_iff.mp h).1 one ?_⟩⟩
  have k := r.take ds.length
  rw [List.take_left] at k
  rw [List.dropLast_eq_take, show xs.length - 1 = ds.length by omega]
  exact k

/-! ### while -/
inductive Wh (K : PySem.W.Frag) (tc : TT) (tb : TS) : Nat → SE → Out → Prop
  | stop {n : Nat} {e : SE} : EvTX K tc e false → Wh K tc tb n e (.nx e)
  | turn {n : Nat} {e e1 : SE} {out : Out} : EvTX K tc e true → RunX K tb e (.nx e1) → Wh K tc tb n e1 out → Wh K tc tb (n + 1) e out
  | rt {n : Nat} {e : SE} {d : PyData} : EvTX K tc e true → RunX K tb e (.rt d) → Wh K tc tb n e (.rt d)
theorem rx_while {tc : TT} {tb : TS} {n : Nat} (h : Wh K tc tb n env out) : RunX K (tWhile tc tb) env out := fun Hb σ H D s g => by
  refine ⟨fun m σ H => ∃ e, StD K Hb H σ e ∧ Wh K tc tb m e out, ⟨n, env, s, h⟩, ?_⟩
  rintro m σ H ⟨e, s, w⟩
  cases w with
  | stop hc => exact hc Hb σ H s H (Ex.refl H) _ fun H1 e1 => g σ H1 (s.grow e1)
  | @turn n e e1 out hc hb w =>
    refine hc Hb σ H s H (Ex.refl H) _ fun H1 x1 => ?_
    refine ⟨fun σ' H' => StD K Hb H' σ' e1, fun σ' H' s' => ⟨n, Nat.lt_succ_self n, e1, s', w⟩, ?_⟩
    exact hb Hb σ H1 _ (s.grow x1) fun σ' H' s' => s'
  | @rt n e d hc hb =>
    refine hc Hb σ H s H (Ex.refl H) _ fun H1 x1 => ?_
    exact ⟨fun _ _ => False, fun _ _ z => z.elim, hb Hb σ H1 _ (s.grow x1) g⟩

/-! ### targets -/
/-- what a target stores of an item: the frame behind it -/
def TgX (K : PySem.W.Frag) (g : TG) (env : SE) (d : PyData) (env' : SE) : Prop := ∀ Hb H0 H σ v (Q : St → Hp → Prop), SOk K Hb H0 H σ env → Rp K H0 v d → (∀ σ' H0', SOk K Hb H0' H σ' env' → Q σ' H) → g v σ H Q
theorem tg_name {i : Nat} : TgX K (gName i) env d (env.set i (.dat d)) := fun Hb H0 H σ v Q s r q => q _ H0 (s.set ⟨v, rfl, r⟩)
theorem tg_name' {i : Nat} {e' : SE} (e : env.set i (.dat d) = e') : TgX K (gName i) env d e' := e ▸ tg_name
def TgsX (K : PySem.W.Frag) (g : TGs) (env : SE) (ds : List PyData) (env' : SE) : Prop := ∀ Hb H0 H σ vs (Q : St → Hp → Prop), SOk K Hb H0 H σ env → RpAll K H0 vs ds → (∀ σ' H0', SOk K Hb H0' H σ' env' → Q σ' H) → g vs σ H Q
theorem tgs_nil : TgsX K gNil env [] env := fun Hb H0 H σ vs Q s r q => by
  cases r
  exact ⟨rfl, q σ H0 s⟩
theorem tgs_name {i : Nat} {g : TGs} {env' : SE} (h : TgsX K g (env.set i (.dat d)) ds env') : TgsX K (gCons (gName i) g) env (d :: ds) env' := fun Hb H0 H σ vs Q s r q => by
  cases r with
  | cons r t => exact ⟨_, _, rfl, h Hb H0 H _ _ Q (s.set ⟨_, rfl, r⟩) t q⟩
theorem tg_tup {n : Nat} {g : TGs} {env' : SE} (h : TgsX K g env ds env') (hn : ds.length = n) : TgX K (gTup K n g) env (.tuple ds) env' := fun Hb H0 H σ v Q s r q => by
  obtain ⟨a, xs, rfl, h1, h2⟩ := r.tup_inv
  exact ⟨a, xs, rfl, .inl (.inl (s.up _ _ h1)), by rw [h2.length]; exact hn, h Hb H0 H σ xs Q s h2 q⟩
theorem rx_asgT {n : Nat} {g : TGs} {env' : SE} (h : EvX K te env (.tuple ds)) (hg : TgsX K g env ds env') (hn : ds.length = n) (k : (noOwn env || lfree (.tuple ds)) = true) : RunX K (tAsg te (gTup K n g)) env (.nx env') := fun Hb σ H D s gd =>
  h Hb σ H s H (Ex.refl H) _ fun v H1 e r => tg_tup hg hn Hb _ H1 σ v _ (s.grow e).widen (rp_ground (s.grow e).widen r k) fun σ' H0' s' => gd σ' H1 ⟨H0', s'⟩
/-- a, b = e1, e2 -/
theorem rx_par {i j : Nat} {ta : TA} {d1 d2 : PyData} (h : EvAX K ta env [d1, d2]) (k1 : (noOwn env || lfree d1) = true) (k2 : (noOwn env || lfree d2) = true) : RunX K (tPar i j ta) env (.nx ((env.set i (.dat d1)).set j (.dat d2))) := fun Hb σ H D s g =>
  h Hb σ H s H (Ex.refl H) _ fun vs H1 e r => by
    obtain ⟨v, w, rfl, r1, r2⟩ := r.pair
    have s1 := (s.grow e).widen
    exact ⟨v, w, rfl, g _ H1 ⟨_, (s1.set (s := .dat d1) ⟨v, rfl, rp_ground s1 r1 k1⟩).set (s := .dat d2) ⟨w, rfl, rp_ground s1 r2 k2⟩⟩⟩

/-! ### for -/
/-- the turns of a loop over the items -/
inductive Fr (K : PySem.W.Frag) (g : TG) (tb : TS) : List PyData → SE → Out → Prop
  | done {e : SE} : Fr K g tb [] e (.nx e)
  | turn {d : PyData} {ds : List PyData} {e e1 e2 : SE} {out : Out} : TgX K g e d e1 → RunX K tb e1 (.nx e2) → Fr K g tb ds e2 out → Fr K g tb (d :: ds) e out
  | cont {d : PyData} {ds : List PyData} {e e1 e2 : SE} {out : Out} : TgX K g e d e1 → RunX K tb e1 (.ct e2) → Fr K g tb ds e2 out → Fr K g tb (d :: ds) e out
  | brk {d : PyData} {ds : List PyData} {e e1 e2 : SE} : TgX K g e d e1 → RunX K tb e1 (.bk e2) → Fr K g tb (d :: ds) e (.nx e2)
  | rt {d r : PyData} {ds : List PyData} {e e1 : SE} : TgX K g e d e1 → RunX K tb e1 (.rt r) → Fr K g tb (d :: ds) e (.rt r)
  | rf {d : PyData} {ds rs : List PyData} {e e1 : SE} : TgX K g e d e1 → RunX K tb e1 (.rf rs) → Fr K g tb (d :: ds) e (.rf rs)
  | rq {d : PyData} {ds : List PyData} {R : Hp → V → Hp → Prop} {e e1 : SE} : TgX K g e d e1 → RunX K tb e1 (.rq R) → Fr K g tb (d :: ds) e (.rq R)
  | ex {d : PyData} {ds : List PyData} {P : Hp → Prop} {e e1 : SE} : TgX K g e d e1 → RunX K tb e1 (.ex P) → Fr K g tb (d :: ds) e (.ex P)
/-- one turn from the items that are left -/
theorem Fr.step {g : TG} {tb : TS} {ds : List PyData} {Hb H0 H : Hp} {σ : St} {D : Ends} {e : SE} {x : PyData} {v : V} {Pv : List PyData → St → Hp → Prop} (f : Fr K g tb (x :: ds) e out) (gd : Good K Hb D out) (s : SOk K Hb H0 H σ e) (r : Rp K H0 v x)
    (k : ∀ e2, Fr K g tb ds e2 out → ∀ σ2 H2, StD K Hb H2 σ2 e2 → Pv ds σ2 H2) : g v σ H fun σ2 H2 => tb { D with nx := Pv ds, ct := Pv ds, bk := D.nx } σ2 H2 := by
  cases f with
  | turn ht hb hf => exact ht Hb H0 H σ v _ s r fun σ' H0' s' => hb Hb σ' H _ ⟨_, s'⟩ fun σ2 H2 s2 => k _ hf σ2 H2 s2
  | cont ht hb hf => exact ht Hb H0 H σ v _ s r fun σ' H0' s' => hb Hb σ' H _ ⟨_, s'⟩ fun σ2 H2 s2 => k _ hf σ2 H2 s2
  | brk ht hb => exact ht Hb H0 H σ v _ s r fun σ' H0' s' => hb Hb σ' H _ ⟨_, s'⟩ fun σ2 H2 s2 => gd σ2 H2 s2
  | rt ht hb => exact ht Hb H0 H σ v _ s r fun σ' H0' s' => hb Hb σ' H _ ⟨_, s'⟩ gd
  | rf ht hb => exact ht Hb H0 H σ v _ s r fun σ' H0' s' => hb Hb σ' H _ ⟨_, s'⟩ gd
  | rq ht hb => exact ht Hb H0 H σ v _ s r fun σ' H0' s' => hb Hb σ' H _ ⟨_, s'⟩ gd
  | ex ht hb => exact ht Hb H0 H σ v _ s r fun σ' H0' s' => hb Hb σ' H _ ⟨_, s'⟩ gd
/-- a loop over a list that stands in the ground -/
theorem for_ground {g : TG} {tb : TS} {a : Addr} {xs : List V} {Hb Hg H : Hp} {σ : St} {D : Ends} (sg : SOk K Hb Hg H σ env) (ha : Hg a = some (.lst xs)) (r : RpAll K Hg xs ds) (f : Fr K g tb ds env out) (gd : Good K Hb D out) :
    ∃ W : Nat → Nat → St → Hp → Prop, (∃ m, W 0 m σ H) ∧ ∀ i m σ H, W i m σ H →
      ((Itl K a).stop i H ∧ D.nx σ H) ∨ ((Itl K a).go i H ∧ ∃ N : St → Hp → Prop, (∀ σ' H', N σ' H' → ∃ m', m' < m ∧ W (i + 1) m' σ' H') ∧ ∀ x H', (Itl K a).yld i H x H' → g x σ H' fun σ2 H2 => tb { D with nx := N, ct := N, bk := D.nx } σ2 H2) := by
  have gg : Good K Hg D out := gd.base sg.base
  refine for_list (xs := xs) (fun i σ' H' => ∃ e, StD K Hg H' σ' e ∧ Fr K g tb (ds.drop i) e out) ⟨env, ⟨Hg, Ex.refl _, sg.up, sg.len, sg.at_⟩, by rw [List.drop_zero]; exact f⟩ ?_ ?_ ?_
  · rintro i σ' H' _ ⟨e, s, _⟩
    exact .inl (.inl (s.bot _ _ ha))
  · rintro i v σ' H' hi ⟨e, s, fr⟩
    obtain ⟨d, hd, rd⟩ := r.getV hi
    have hlt := (List.getElem?_eq_some_iff.mp hd).1
    have ed : ds.drop i = d :: ds.drop (i + 1) := by
      rw [List.drop_eq_getElem_cons hlt]
      congr 1
      exact (List.getElem?_eq_some_iff.mp hd).2
    rw [ed] at fr
    obtain ⟨H0, s0⟩ := s
    exact fr.step (Pv := fun l σ2 H2 => ∃ e, StD K Hg H2 σ2 e ∧ Fr K g tb (ds.drop (i + 1)) e out) gg s0 (rd.mono s0.base) fun e2 f2 σ2 H2 s2 => ⟨e2, s2, f2⟩
  · rintro σ' H' ⟨e, s, fr⟩
    rw [r.length, List.drop_length] at fr
    cases fr
    exact gg σ' H' s
/-- for .. in a name's list -/
theorem rx_forV {g : TG} {tb : TS} {i : Nat} (h : env[i]? = some (.dat (.list ds))) (f : Fr K g tb ds env out) : RunX K (tFor (iList K (tVar i)) g tb) env out := fun Hb σ H D s gd => by
  obtain ⟨H0, s0⟩ := s
  obtain ⟨x, hx, r⟩ := s0.at_ i _ h
  have hv : σ[i]? = some (some x) := by
    cases k : σ[i]? with
    | none => rw [k] at hx; cases hx
    | some o => rw [k] at hx; exact congrArg some hx
  obtain ⟨a, xs, rfl, ha, ra⟩ := r.lst_inv
  exact ⟨.ref a, hv, a, rfl, ⟨xs, .inl (.inl (s0.up _ _ ha))⟩, for_ground s0 ha ra f gd⟩
/-- .. in a list that is reckoned, the frame without lists of its own -/
theorem rx_forE {g : TG} {tb : TS} (h : EvX K te env (.list ds)) (k : noOwn env = true) (f : Fr K g tb ds env out) : RunX K (tFor (iList K te) g tb) env out := fun Hb σ H D s gd =>
  h Hb σ H s H (Ex.refl H) _ fun v H1 e r => by
    have s1 := (s.grow e).widen
    obtain ⟨a, xs, rfl, ha, ra⟩ := (rp_ground s1 r (by rw [k, Bool.true_or])).lst_inv
    exact ⟨a, rfl, ⟨xs, .inl (.inl (s1.up _ _ ha))⟩, for_ground s1 ha ra f gd⟩
/-- .. in a new list, whatever the frame holds -/
theorem rx_forF {g : TG} {tb : TS} (h : EvFX K te env ds) (k : lfreeAll ds = true) (f : Fr K g tb ds env out) : RunX K (tFor (iList K te) g tb) env out := fun Hb σ H D s gd =>
  h Hb σ H s H (Ex.refl H) _ fun p xs Hm H1 hp e1 e2 hm h1 r => by
    have sm := (s.grow e1).widen
    have r' := rpAll_ground sm r (by rw [k, Bool.or_true])
    have np : ¬ ownAt σ env p := fun q => by
      obtain ⟨_, ys, hy⟩ := sm.own_none q
      rw [hm] at hy
      cases hy
    have eg : Ex (cutH Hm (ownAt σ env)) (upd (cutH Hm (ownAt σ env)) p (.lst xs)) := Ex.new (by rw [cutH_out np]; exact hm)
    have s1 : SOk K Hb (upd (cutH Hm (ownAt σ env)) p (.lst xs)) H1 σ env := by
      refine ⟨sm.base.trans eg, fun b o hb => ?_, sm.len, fun j sl hj => ?_⟩
      · by_cases hbp : b = p
        · subst hbp
          rw [upd_same] at hb
          cases hb
          exact h1
        · rw [upd_ne hbp] at hb
          exact e2 _ _ (cutH_ex _ _ hb)
      · refine (sm.at_ j sl hj).mono eg e2 fun l ys a b c => ?_
        have : l ≠ p := fun q => by
          subst q
          rw [hm] at b
          cases b
        rw [upd_ne this]
        exact a
    exact ⟨p, rfl, ⟨xs, .inl (.inl h1)⟩, for_ground s1 upd_same (r'.mono eg) f gd⟩
/-- .. in a tuple that is a name's -/
theorem rx_forT {g : TG} {tb : TS} (h : EvX K te env (.tuple ds)) (k : (noOwn env || lfree (.tuple ds)) = true) (f : Fr K g tb ds env out) : RunX K (tFor (iTup K te) g tb) env out := fun Hb σ H D s gd =>
  h Hb σ H s H (Ex.refl H) _ fun v H1 e r => by
    have sg := (s.grow e).widen
    obtain ⟨a, xs, rfl, ha, ra⟩ := (rp_ground sg r k).tup_inv
    have gg : Good K (cutH H1 (ownAt σ env)) D out := gd.base sg.base
    refine ⟨a, rfl, ⟨xs, .inl (.inl (sg.up _ _ ha))⟩, for_tup (xs := xs) (fun i σ' H' => ∃ e, StD K (cutH H1 (ownAt σ env)) H' σ' e ∧ Fr K g tb (ds.drop i) e out) ⟨env, ⟨_, Ex.refl _, sg.up, sg.len, sg.at_⟩, by rw [List.drop_zero]; exact f⟩ ?_ ?_ ?_⟩
    · rintro i σ' H' _ ⟨e, s, _⟩
      exact .inl (.inl (s.bot _ _ ha))
    · rintro i v σ' H' hi ⟨e, s, fr⟩
      obtain ⟨d, hd, rd⟩ := ra.getV hi
      have hlt := (List.getElem?_eq_some_iff.mp hd).1
      have ed : ds.drop i = d :: ds.drop (i + 1) := by
        rw [List.drop_eq_getElem_cons hlt]
        congr 1
        exact (List.getElem?_eq_some_iff.mp hd).2
      rw [ed] at fr
      obtain ⟨H0, s0⟩ := s
      exact fr.step (Pv := fun l σ2 H2 => ∃ e, StD K (cutH H1 (ownAt σ env)) H2 σ2 e ∧ Fr K g tb (ds.drop (i + 1)) e out) gg s0 (rd.mono s0.base) fun e2 f2 σ2 H2 s2 => ⟨e2, s2, f2⟩
    · rintro σ' H' ⟨e, s, fr⟩
      rw [ra.length, List.drop_length] at fr
      cases fr
      exact gg σ' H' s
/-- the ints of a range -/
def rgD (lo : Int) (n : Nat) : List PyData := (List.range n).map fun i => .int (lo + (i : Nat))
theorem rgD_len (lo : Int) (n : Nat) : (rgD lo n).length = n := by unfold rgD; rw [List.length_map, List.length_range]
theorem rgD_at {lo : Int} {n i : Nat} (h : i < n) : (rgD lo n)[i]? = some (.int (lo + i)) := by
  unfold rgD
  rw [List.getElem?_map, List.getElem?_range h]
  rfl
theorem for_rg {g : TG} {tb : TS} {lo : Int} {n : Nat} {Hb H : Hp} {σ : St} {D : Ends} (s : StD K Hb H σ env) (f : Fr K g tb (rgD lo n) env out) (gd : Good K Hb D out) :
    ∃ W : Nat → Nat → St → Hp → Prop, (∃ m, W 0 m σ H) ∧ ∀ i m σ H, W i m σ H →
      ((Itr lo n).stop i H ∧ D.nx σ H) ∨ ((Itr lo n).go i H ∧ ∃ N : St → Hp → Prop, (∀ σ' H', N σ' H' → ∃ m', m' < m ∧ W (i + 1) m' σ' H') ∧ ∀ x H', (Itr lo n).yld i H x H' → g x σ H' fun σ2 H2 => tb { D with nx := N, ct := N, bk := D.nx } σ2 H2) := by
  refine for_range (lo := lo) (n := n) (fun i σ' H' => ∃ e, StD K Hb H' σ' e ∧ Fr K g tb ((rgD lo n).drop i) e out) ⟨env, s, by rw [List.drop_zero]; exact f⟩ ?_ ?_
  · rintro i σ' H' hi ⟨e, s, fr⟩
    have hlt : i < (rgD lo n).length := by rw [rgD_len]; exact hi
    have ed : (rgD lo n).drop i = .int (lo + i) :: (rgD lo n).drop (i + 1) := by
      rw [List.drop_eq_getElem_cons hlt]
      congr 1
      exact (List.getElem?_eq_some_iff.mp (rgD_at hi)).2
    rw [ed] at fr
    obtain ⟨H0, s0⟩ := s
    exact fr.step (Pv := fun l σ2 H2 => ∃ e, StD K Hb H2 σ2 e ∧ Fr K g tb ((rgD lo n).drop (i + 1)) e out) gd s0 (.int _) fun e2 f2 σ2 H2 s2 => ⟨e2, s2, f2⟩
  · rintro σ' H' ⟨e, s, fr⟩
    rw [show (rgD lo n).drop n = [] by
      conv => lhs; arg 1; rw [← rgD_len lo n]
      exact List.drop_length] at fr
    cases fr
    exact gd σ' H' s
theorem rx_forR1 {g : TG} {tb : TS} {ta : TA} {n : Int} (h : EvAX K ta env [.int n]) (hn : -100000 ≤ n ∧ n ≤ 100000) (f : Fr K g tb (rgD 0 n.toNat) env out) : RunX K (tFor (iRng1 ta) g tb) env out := fun Hb σ H D s gd =>
  h Hb σ H s H (Ex.refl H) _ fun vs H1 e r => by
    obtain ⟨v, rfl, rv⟩ := r.one
    rw [rv.int_inv]
    exact ⟨n, rfl, by omega, by omega, for_rg (s.grow e) f gd⟩
theorem rx_forR2 {g : TG} {tb : TS} {ta : TA} {lo n : Int} (h : EvAX K ta env [.int lo, .int n]) (hn : -100000 ≤ lo ∧ lo ≤ 100000 ∧ -100000 ≤ n ∧ n ≤ 100000) (f : Fr K g tb (rgD lo (n - lo).toNat) env out) : RunX K (tFor (iRng2 ta) g tb) env out := fun Hb σ H D s gd =>
  h Hb σ H s H (Ex.refl H) _ fun vs H1 e r => by
    obtain ⟨v, w, rfl, rv, rw⟩ := r.pair
    rw [rv.int_inv, rw.int_inv]
    exact ⟨lo, n, rfl, ⟨by omega, by omega, by omega, by omega⟩, for_rg (s.grow e) f gd⟩
end

/-! ### comprehensions -/
def wipeE (env : SE) : List Nat → SE
  | [] => env
  | v :: vs => (wipeE env vs).set v .no
section
variable {K : PySem.W.Frag} {env : SE} {te tl : TE} {tt : TT} {ds es : List PyData}
theorem SOk.wipe {Hb H0 H : Hp} {σ : St} (s : SOk K Hb H0 H σ env) : ∀ vs : List Nat, SOk K Hb H0 H (wipe σ vs) (wipeE env vs)
  | [] => s
  | v :: vs => by
    have k := SOk.wipe s vs
    exact k.forget
theorem wipe_get_in {σ : St} {i : Nat} : ∀ {vs : List Nat}, i ∈ vs → (L2.wipe σ vs)[i]? = (if i < σ.length then some none else none)
  | [], h => by simp at h
  | v :: vs, h => by
    unfold L2.wipe
    by_cases e : v = i
    · subst e
      by_cases hl : v < σ.length
      · rw [List.getElem?_set_self (by rw [wipe_length]; exact hl), if_pos hl]
      · rw [List.getElem?_eq_none (by rw [List.length_set, wipe_length]; omega), if_neg hl]
    · rw [List.getElem?_set_ne e]
      exact wipe_get_in ((List.mem_cons.mp h).resolve_left (Ne.symm e))
theorem wipe_get_out {σ : St} {i : Nat} : ∀ {vs : List Nat}, i ∉ vs → (L2.wipe σ vs)[i]? = σ[i]?
  | [], _ => rfl
  | v :: vs, h => by
    unfold L2.wipe
    rw [List.getElem?_set_ne (fun e => h (by rw [e]; simp))]
    exact wipe_get_out fun k => h (List.mem_cons_of_mem _ k)
/-- two frames that differ in the wiped slots alone are one behind the wiping -/
theorem wipe_eq {σ τ : St} {vs : List Nat} (hl : τ.length = σ.length) (h : ∀ i, i ∉ vs → τ[i]? = (L2.wipe σ vs)[i]?) : L2.wipe τ vs = L2.wipe σ vs := by
  apply List.ext_getElem?
  intro i
  by_cases hi : i ∈ vs
  · rw [wipe_get_in hi, wipe_get_in hi, hl]
  · rw [wipe_get_out hi, h i hi]
theorem wipe_set1 {σ : St} {vs : List Nat} {j : Nat} {x : Option V} (hj : j ∈ vs) : L2.wipe ((L2.wipe σ vs).set j x) vs = L2.wipe σ vs := by
  refine wipe_eq (by rw [List.length_set, wipe_length]) fun i hi => ?_
  rw [List.getElem?_set_ne]
  intro e
  exact hi (e ▸ hj)
/-- a comprehension's target: what is stored, and that nothing but the block's own names is -/
def CgX (K : PySem.W.Frag) (g : TG) (vs : List Nat) (env : SE) (d : PyData) (env' : SE) : Prop := ∀ Hb H0 H σ v (Q : St → Hp → Prop), SOk K Hb H0 H (L2.wipe σ vs) env → Rp K H0 v d → (∀ σ', SOk K Hb H0 H σ' env' → L2.wipe σ' vs = L2.wipe σ vs → Q σ' H) → g v (L2.wipe σ vs) H Q
theorem cg_name {i : Nat} {vs : List Nat} {d : PyData} {e' : SE} (hi : i ∈ vs) (e : env.set i (.dat d) = e') : CgX K (gName i) vs env d e' := fun Hb H0 H σ v Q s r q => q _ (e ▸ s.set ⟨v, rfl, r⟩) (wipe_set1 hi)
theorem cg_pair {i j : Nat} {vs : List Nat} {d1 d2 : PyData} {e' : SE} (hi : i ∈ vs) (hj : j ∈ vs) (e : (env.set i (.dat d1)).set j (.dat d2) = e') : CgX K (gTup K 2 (gCons (gName i) (gCons (gName j) gNil))) vs env (.tuple [d1, d2]) e' := fun Hb H0 H σ v Q s r q => by
  obtain ⟨a, xs, rfl, h1, h2⟩ := r.tup_inv
  obtain ⟨v, w, rfl, r1, r2⟩ := h2.pair
  refine ⟨a, [v, w], rfl, .inl (.inl (s.up _ _ h1)), rfl, v, [w], rfl, w, [], rfl, rfl, q _ (e ▸ (s.set (s := .dat d1) ⟨v, rfl, r1⟩).set (s := .dat d2) ⟨w, rfl, r2⟩) ?_⟩
  refine wipe_eq (by rw [List.length_set, List.length_set, wipe_length]) fun k hk => ?_
  rw [List.getElem?_set_ne (fun e => by subst e; exact hk hj), List.getElem?_set_ne (fun e => by subst e; exact hk hi)]
/-- what a turn does with the list so far -/
structure CwD (K : PySem.W.Frag) (Hb Hg : Hp) (σ : St) (env : SE) (Dl : Addr) (acc : List PyData) (H : Hp) : Prop where
  frame : StD K Hg H σ env
  new : Hg Dl = none
  at_ : ∃ xs, H Dl = some (.lst xs) ∧ RpAll K H xs acc
theorem rpAll_upd {H : Hp} {l : Addr} {xs : List V} {vs : List V} {o : HO} (h : H l = some (.lst xs)) (r : RpAll K H vs ds) (f : lfreeAll ds = true) : RpAll K (upd H l o) vs ds := by
  refine r.cut (fun a ys ha => ?_) f
  rw [upd_ne]
  · exact ha
  · intro e
    subst e
    rw [h] at ha
    cases ha
theorem rp_upd {H : Hp} {l : Addr} {xs : List V} {v : V} {d : PyData} {o : HO} (h : H l = some (.lst xs)) (r : Rp K H v d) (f : lfree d = true) : Rp K (upd H l o) v d := by
  refine r.cut (fun a ys ha => ?_) f
  rw [upd_ne]
  · exact ha
  · intro e
    subst e
    rw [h] at ha
    cases ha
/-- the frame stands when a list beside it grows: the ground holds nothing of it -/
theorem StD.beside {Hb H : Hp} {σ : St} {l : Addr} {o : HO} (s : StD K Hb H σ env) (no : noOwn env = true) (hb : ∀ H0, SOk K Hb H0 H σ env → ∃ H0', SOk K Hb H0' H σ env ∧ H0' l = none) : StD K Hb (upd H l o) σ env := by
  obtain ⟨H0, s0⟩ := s
  obtain ⟨H0', s', hn⟩ := hb H0 s0
  refine ⟨H0', s'.base, Ex.mut s'.up hn, s'.len, fun j sl hj => ?_⟩
  have k := s'.at_ j sl hj
  cases sl with
  | no => trivial
  | dat d => exact k
  | own ds =>
    exfalso
    unfold noOwn at no
    rw [List.all_eq_true] at no
    have := no _ (List.mem_of_getElem? hj)
    simp [Sl.isOwn] at this
/-- one turn of a comprehension: the frame in the block, the tests, the element -/
theorem lc_turn {α : Type} {g : TG} {vs : List Nat} {Hb Hg H : Hp} {σ : St} {Dl : Addr} {v : V} {items : List α} {inj : α → PyData} {f : α → Bool} {h : α → PyData} {a : α} {envb : SE} {i : Nat} {acc : List PyData}
    (sg : SOk K Hb Hg Hg' σ env) (hEx : Ex Hg H) (hDl : Hg Dl = none) (hH : ∃ xs, H Dl = some (.lst xs) ∧ RpAll K H xs acc) (hacc : lfreeAll acc = true) (hz : acc.length < 100000) (noO : noOwn env = true)
    (rv : Rp K Hg v (inj a)) (hg : CgX K g vs (wipeE env vs) (inj a) envb) (ht : EvTX K tt envb (f a)) (he : f a = true → EvX K te envb (h a)) (hl : f a = true → lfree (h a) = true) (Nx : List PyData → Hp → Prop)
    (k : ∀ H2, Ex Hg H2 → (∃ xs, H2 Dl = some (.lst xs) ∧ RpAll K H2 xs (acc ++ if f a = true then [h a] else [])) → Nx (acc ++ if f a = true then [h a] else []) H2) :
    g v (L2.wipe σ vs) H fun σ2 H2 => L2.wipe σ2 vs = L2.wipe σ vs ∧ tt σ2 H2 fun b H3 => if b = true then te σ2 H3 fun y H4 => ∃ acc', H4 Dl = some (.lst acc') ∧ acc'.length < sizeLine ∧ Nx (acc ++ if f a = true then [h a] else []) (upd H4 Dl (.lst (acc' ++ [y]))) else Nx (acc ++ if f a = true then [h a] else []) H3 := by
  have s1 : SOk K Hb Hg H σ env := ⟨sg.base, hEx, sg.len, fun j sl hj => by
    have q := sg.at_ j sl hj
    cases sl with
    | no => trivial
    | dat d => exact q
    | own ds =>
      exfalso
      unfold noOwn at noO
      rw [List.all_eq_true] at noO
      have := noO _ (List.mem_of_getElem? hj)
      simp [Sl.isOwn] at this⟩
  refine hg Hb Hg H σ v _ (s1.wipe vs) rv fun σ' s' hw => ⟨hw, ?_⟩
  refine ht Hb σ' H ⟨Hg, s'⟩ H (Ex.refl H) _ fun H3 e3 => ?_
  obtain ⟨xs, hx, rx⟩ := hH
  cases hf : f a with
  | true =>
    rw [hf] at k
    show te σ' H3 fun y H4 => ∃ acc', H4 Dl = some (.lst acc') ∧ acc'.length < sizeLine ∧ Nx (acc ++ if true = true then [h a] else []) (upd H4 Dl (.lst (acc' ++ [y])))
    refine he hf Hb σ' H ⟨Hg, s'⟩ H3 e3 _ fun y H4 e4 ry => ?_
    have hx4 : H4 Dl = some (.lst xs) := e4 _ _ (e3 _ _ hx)
    refine ⟨xs, hx4, sz_lt (by rw [rx.length]; exact hz), k _ (Ex.mut ((hEx.trans e3).trans e4) hDl) ⟨_, upd_same, ?_⟩⟩
    refine RpAll.append (rpAll_upd hx4 (rx.mono (e3.trans e4)) hacc) (.cons (rp_upd hx4 ry (hl hf)) .nil)
  | false =>
    rw [hf] at k
    show Nx (acc ++ if false = true then [h a] else []) H3
    refine k H3 (hEx.trans e3) ⟨xs, e3 _ _ hx, ?_⟩
    show RpAll K H3 xs (acc ++ [])
    rw [List.append_nil]
    exact rx.mono e3
def lcRes {α : Type} (f : α → Bool) (h : α → PyData) (l : List α) : List PyData := (l.filter f).map h
theorem lcRes_snoc {α : Type} (f : α → Bool) (h : α → PyData) (l : List α) (a : α) : lcRes f h (l ++ [a]) = lcRes f h l ++ if f a = true then [h a] else [] := by
  unfold lcRes
  rw [List.filter_append, List.map_append]
  congr 1
  cases k : f a with
  | true => rw [List.filter_cons_of_pos k]; rfl
  | false => rw [List.filter_cons_of_neg (by rw [k]; decide)]; rfl
theorem lfree_lcRes {α : Type} {f : α → Bool} {h : α → PyData} : ∀ {l : List α}, (∀ a ∈ l, f a = true → lfree (h a) = true) → lfreeAll (lcRes f h l) = true
  | [], _ => rfl
  | a :: l, k => by
    have ih := lfree_lcRes (f := f) (h := h) (l := l) fun b hb => k b (List.mem_cons_of_mem _ hb)
    unfold lcRes at ih ⊢
    by_cases hf : f a = true
    · rw [List.filter_cons_of_pos hf, List.map_cons]
      show (lfree (h a) && lfreeAll _) = true
      rw [k a (by simp) hf, Bool.true_and]
      exact ih
    · rw [List.filter_cons_of_neg hf]
      exact ih
theorem lcRes_len {α : Type} (f : α → Bool) (h : α → PyData) (l : List α) : (lcRes f h l).length ≤ l.length := by
  unfold lcRes
  rw [List.length_map]
  exact List.length_filter_le _ _
theorem take_snoc {α : Type} {l : List α} {i : Nat} {a : α} (h : l[i]? = some a) : l.take (i + 1) = l.take i ++ [a] := by
  rw [List.take_add_one, h]
  rfl
/-- [elt for target in list if ..] -/
theorem xf_lc {α : Type} {g : TG} {vs : List Nat} (items : List α) (inj : α → PyData) (f : α → Bool) (h : α → PyData) (envb : α → SE) (hl : EvX K tl env (.list (items.map inj))) (no : noOwn env = true) (hz : items.length < 100000)
    (hg : ∀ a ∈ items, CgX K g vs (wipeE env vs) (inj a) (envb a)) (ht : ∀ a ∈ items, EvTX K tt (envb a) (f a)) (he : ∀ a ∈ items, f a = true → EvX K te (envb a) (h a)) (hf : ∀ a ∈ items, f a = true → lfree (h a) = true) :
    EvFX K (tLc (iList K tl) g tt te vs) env (lcRes f h items) := fun Hb σ H s H1 e1 Q q =>
  hl Hb σ H s H1 e1 _ fun v H2 e2 r => by
    have sg := ((s.grow e1).grow e2).widen
    obtain ⟨a, xs, rfl, ha, ra⟩ := (rp_ground sg r (by rw [no, Bool.true_or])).lst_inv
    have eg : Ex (cutH H2 (ownAt σ env)) H2 := cutH_ex
    have ge : cutH H2 (ownAt σ env) = H2 := by
      funext b
      exact cutH_out (noOwn_not no)
    rw [ge] at sg ha ra
    refine ⟨a, rfl, ⟨xs, .inl (.inl ha)⟩, fun Dl hD => ?_⟩
    refine lc_list (xs := xs) (fun i H' => Ex H2 H' ∧ ∃ ys, H' Dl = some (.lst ys) ∧ RpAll K H' ys (lcRes f h (items.take i))) ⟨Ex.new hD, [], upd_same, .nil⟩ ?_ ?_ ?_
    · rintro i H' _ ⟨e, _⟩
      exact .inl (.inl (e _ _ ha))
    · rintro i x H' hi ⟨e, hacc⟩
      obtain ⟨d, hd, rd⟩ := ra.getV hi
      rw [List.getElem?_map] at hd
      cases ka : items[i]? with
      | none => rw [ka] at hd; cases hd
      | some b =>
        rw [ka] at hd
        cases hd
        have hb : b ∈ items := List.mem_of_getElem? ka
        have es : lcRes f h (items.take (i + 1)) = lcRes f h (items.take i) ++ if f b = true then [h b] else [] := by rw [take_snoc ka, lcRes_snoc]
        rw [es]
        refine lc_turn (items := items) (i := i) sg e hD hacc (lfree_lcRes fun c hc => hf c (List.mem_of_mem_take hc)) ?_ no rd (hg b hb) (ht b hb) (he b hb) (hf b hb) (fun acc H' => Ex H2 H' ∧ ∃ ys, H' Dl = some (.lst ys) ∧ RpAll K H' ys acc) fun H3 e3 h3 => ⟨e3, h3⟩
        refine Nat.lt_of_le_of_lt (Nat.le_trans (lcRes_len f h _) ?_) hz
        rw [List.length_take]
        omega
    · rintro H' ⟨e, ys, hy, ry⟩
      have hx := ra.length
      rw [List.length_map] at hx
      rw [hx, List.take_length] at ry
      refine q Dl ys (cutH H' fun b => b = Dl) H' (fresh_back e2 hD) ?_ cutH_ex (cutH_in rfl) hy ?_
      · intro b o hb
        rw [cutH_out]
        · exact e _ _ (e2 _ _ hb)
        · intro k
          subst k
          rw [e2 _ _ hb] at hD
          cases hD
      · refine ry.cut (fun b zs hb => ?_) (lfree_lcRes hf)
        rw [cutH_out]
        · exact hb
        · intro k
          subst k
          rw [hy] at hb
          cases hb
/-- .. over a range from nought -/
theorem xf_lcR {ta : TA} {g : TG} {vs : List Nat} (n : Nat) (f : Nat → Bool) (h : Nat → PyData) (envb : Nat → SE) (hl : EvAX K ta env [.int (n : Nat)]) (no : noOwn env = true) (hz : n < 100000)
    (hg : ∀ i, i < n → CgX K g vs (wipeE env vs) (.int (i : Nat)) (envb i)) (ht : ∀ i, i < n → EvTX K tt (envb i) (f i)) (he : ∀ i, i < n → f i = true → EvX K te (envb i) (h i)) (hf : ∀ i, i < n → f i = true → lfree (h i) = true) :
    EvFX K (tLc (iRng1 ta) g tt te vs) env (lcRes f h (List.range n)) := fun Hb σ H s H1 e1 Q q =>
  hl Hb σ H s H1 e1 _ fun vs' H2 e2 r => by
    have sg := ((s.grow e1).grow e2).widen
    have ge : cutH H2 (ownAt σ env) = H2 := by
      funext b
      exact cutH_out (noOwn_not no)
    rw [ge] at sg
    obtain ⟨v, rfl, rv⟩ := r.one
    rw [rv.int_inv]
    refine ⟨n, rfl, by omega, by omega, fun Dl hD => ?_⟩
    refine lc_range (lo := 0) (n := n) (fun i H' => Ex H2 H' ∧ ∃ ys, H' Dl = some (.lst ys) ∧ RpAll K H' ys (lcRes f h ((List.range n).take i))) ⟨Ex.new hD, [], upd_same, .nil⟩ ?_ ?_
    · rintro i H' hi ⟨e, hacc⟩
      have ka : (List.range n)[i]? = some i := List.getElem?_range hi
      have es : lcRes f h ((List.range n).take (i + 1)) = lcRes f h ((List.range n).take i) ++ if f i = true then [h i] else [] := by rw [take_snoc ka, lcRes_snoc]
      rw [es, Int.zero_add]
      refine lc_turn (items := List.range n) (inj := fun i => .int (i : Nat)) (i := i) sg e hD hacc (lfree_lcRes fun c hc => hf c (List.mem_range.mp (List.mem_of_mem_take hc))) ?_ no (.int _) (hg i hi) (ht i hi) (he i hi) (hf i hi) (fun acc H' => Ex H2 H' ∧ ∃ ys, H' Dl = some (.lst ys) ∧ RpAll K H' ys acc) fun H3 e3 h3 => ⟨e3, h3⟩
      refine Nat.lt_of_le_of_lt (lcRes_len f h _) ?_
      rw [List.length_take, List.length_range]
      omega
    · rintro H' ⟨e, ys, hy, ry⟩
      rw [show (List.range n).take n = List.range n by
        conv => lhs; arg 1; rw [← List.length_range (n := n)]
        exact List.take_length] at ry
      refine q Dl ys (cutH H' fun b => b = Dl) H' (fresh_back e2 hD) ?_ cutH_ex (cutH_in rfl) hy ?_
      · intro b o hb
        rw [cutH_out]
        · exact e _ _ (e2 _ _ hb)
        · intro k
          subst k
          rw [e2 _ _ hb] at hD
          cases hD
      · refine ry.cut (fun b zs hb => ?_) (lfree_lcRes fun i hi => hf i (List.mem_range.mp hi))
        rw [cutH_out]
        · exact hb
        · intro k
          subst k
          rw [hy] at hb
          cases hb
end
end LD
/-! list(reversed(a list)). -/
namespace LRv
open PySem PySem.Spec PyProof.Rows RT
section
variable {prog : Program} {w : World} {A : Around} {E : Value → Shared → Prop} {s : Shared}
/-- the loop that fills the list at S from the iterator -/
theorem ext_rev {R : Result → Shared → Prop} {it l : Addr} {items : Array Value} (hh : A.handled = none) (hit : s.heap.IsRevIter it l ((items.size : Int) - 1)) (hl : s.heap.IsList l items) (hne : l ≠ it) (hn : items.size ≤ sizeLine) (S : Addr)
    (hSi : S ≠ it) (hSl : S ≠ l) (res : Value) (c0 : Nat) (hS : s.heap.get? S = some { cls := .type "list", data := .seq #[] c0 })
    (hR : ∀ (h' : Heap) (tk : Nat) (acc : Array Value) (c : Nat), (∀ b o, b ≠ S → b ≠ it → s.heap.get? b = some o → h'.get? b = some o) → h'.get? S = some { cls := .type "list", dict := none, data := .seq acc c, slots := #[] } →
      ItemsOf (fun i v => items[items.size - 1 - i]? = some v) acc items.size → R (.ok (.ret res)) { s with heap := h', toks := tk }) :
    wpAny (model prog w) A.in1 (Builtin.List.listExtendWith (.ref S) (.ref it) res)
      (fun fin s' => match fin with | .done f => R (.ok f) s' | .again c' => c'.quiet = true ∧ codeAny (model prog w) A c' R s') (fun e s' => R (.error e) s') s := by
  have W := (Walks.listRev (prog := prog) (w := w) (A := A.in1) hh it l hne items).toS
  have nin : S ∉ [it, l] := by simp only [List.mem_cons, List.not_mem_nil, or_false, not_or]; exact ⟨hSi, hSl⟩
  have ty : s.TypeIs (.ref it) "list_reverseiterator" := hit.typeIs
  have other : Builtin.List.listSameRef (.ref S) (.ref it) = false := by simp [Builtin.List.listSameRef, hSi]
  unfold Builtin.List.listExtendWith
  refine wpAny_bind (wpAny_typeOf ty ?_)
  rw [if_neg (by rw [other]; decide)]
  refine wpAny_bind (wpAny_pyIter_revIter hit ?_)
  refine wpAny_bind (wpAny_holding ?_)
  unfold Builtin.List.listLengthHint
  refine wpAny_bind (wpAny_specialOf ty nolen_lri ?_)
  show wpAny _ A.in1 (specialOf (Value.ref it) (Str.ofString "__length_hint__") >>= _) _ _ _
  refine wpAny_bind (wpAny_specialOf ty hint_lri ?_)
  generalize hid : ("list_reverseiterator.__length_hint__" : String) = id0
  wp_delta
  rw [show splitId id0 = some ("list_reverseiterator", "__length_hint__") from by subst hid; decide +kernel]
  subst hid
  refine wpAny_bind (wpAny_isInstance (b := true) ty (by rw [isSubtype_type]; kernel_rfl) ?_)
  refine wpAny_pure ?_
  rw [if_neg (by decide)]
  have e0 : ((items.size : Nat) : Int) - 1 - ((0 : Nat) : Int) = (items.size : Int) - 1 := by omega
  refine wpAny_pure ⟨plainId_quiet F.plain_extend_loop _, codeAny_extend_loopS W hn S nin res items.size 0 _ #[] c0 rfl (Nat.zero_le _) ⟨Nat.zero_le _, by rw [e0]; exact hit, hl⟩ hS (ItemsOf.nil _) fun s' acc c hm hS' hacc => ?_⟩
  rw [Moved.eq_with hm]
  refine hR s'.heap s'.toks acc c (fun b o hb hb2 e => hm.heap b o (fun z => ?_) e) hS' hacc
  rcases List.mem_cons.mp z with q | q
  · exact hb q
  · exact hb2 (List.mem_singleton.mp q)
theorem call_list_rev {it l : Addr} {items : Array Value} {Q : Value → Shared → Prop} (hh : A.handled = none) (hit : s.heap.IsRevIter it l ((items.size : Int) - 1)) (hl : s.heap.IsList l items) (hne : l ≠ it) (hn : items.size ≤ sizeLine)
    (hQ : ∀ (h' : Heap) (tk : Nat) (acc : Array Value) (c : Nat), (∀ b o, b ≠ it → s.heap.get? b = some o → h'.get? b = some o) → h'.get? s.heap.objs.size = some { cls := .type "list", dict := none, data := .seq acc c, slots := #[] } →
      ItemsOf (fun i v => items[items.size - 1 - i]? = some v) acc items.size → Q (.ref s.heap.objs.size) { s with heap := h', toks := tk }) :
    wpAny (model prog w) A (call (.type "list") [.ref it]) Q E s := by
  obtain ⟨oi, hoi, _⟩ := id hit
  obtain ⟨ol, hol, _⟩ := id hl
  refine callType_codes (Q₁ := fun obj t => obj = .ref s.heap.objs.size ∧ t = { s with heap := s.heap.push { cls := .type "list", data := .seq #[] } }) PySem.F.called_list (PySem.F.typeCall_list_1 _) PySem.F.entry_list_init (code_list_new _ ⟨rfl, rfl⟩) fun obj t h => ?_
  obtain ⟨rfl, rfl⟩ := h
  have hS : (s.heap.push { cls := .type "list", data := .seq #[] }).get? s.heap.objs.size = some { cls := .type "list", data := .seq #[] } := Heap.get?_push_size _ rfl
  have nSi : s.heap.objs.size ≠ it := Nat.ne_of_gt (Heap.lt_size hoi)
  have nSl : s.heap.objs.size ≠ l := Nat.ne_of_gt (Heap.lt_size hol)
  refine ⟨⟨_, hS, rfl⟩, PySem.F.args_list_init_2 _ _, ?_⟩
  show wpAny _ _ (do let old ← Builtin.List.listItems (.ref s.heap.objs.size); Builtin.List.listUpdate (.ref s.heap.objs.size) (fun _ => #[]); letGo old.toList.reverse; Builtin.List.listExtendWith (.ref s.heap.objs.size) (.ref it) .none) _ _ _
  refine wpAny_bind ?_
  unfold Builtin.List.listItems
  refine wpAny_bind (wpAny_seqItems hS rfl (wpAny_pure ?_))
  refine wpAny_bind ?_
  show wpAny _ _ (updateSeq s.heap.objs.size (fun _ => #[])) _ _ _
  refine wpAny_updateSeq hS rfl ?_
  have hS2 := Heap.get?_update_self (Obj.mapSeq (fun _ => (#[] : Array Value))) hS rfl
  have oth : ∀ b o, s.heap.get? b = some o → ((s.heap.push { cls := .type "list", data := .seq #[] }).update s.heap.objs.size (Obj.mapSeq (fun _ => (#[] : Array Value)))).get? b = some o := fun b o e =>
    (Heap.get?_update_other _ _ (Nat.ne_of_gt (Heap.lt_size e))).trans (Heap.get?_push_of_some _ e)
  refine wpAny_bind (wpAny_letGo ?_)
  refine ext_rev (A := A.in1) hh (hit.at fun o e => oth it o e) (hl.at fun o e => oth l o e) hne hn _ nSi nSl .none _ hS2 fun h' tk acc c hk hS' hacc => ?_
  exact ⟨rfl, hQ h' tk acc c (fun b o hb e => hk b o (Nat.ne_of_lt (Heap.lt_size e)) hb (oth b o e)) hS' hacc⟩
end
end LRv
namespace LD
open PySem PySem.Spec PyProof.Rows L2 Evl
def tLstRev (K : PySem.W.Frag) (te : TE) : TE := fun σ H Q => te σ H fun x H1 => ∃ (a : Addr) (xs : List V), x = .ref a ∧ SqL K H1 a xs ∧ ∀ p, H1 p = none → Q (.ref p) (upd H1 p (.lst xs.reverse))
section
variable {X : Cx}
theorem vals_back {xs : List V} {its : List Value} {acc : Array Value} (r : Vals xs its) (h : ItemsOf (fun i v => its.toArray[its.toArray.size - 1 - i]? = some v) acc its.toArray.size) : Vals xs.reverse acc.toList := by
  have hs : acc.toList.length = its.length := by
    rw [Array.length_toList, h.1]
    exact List.size_toArray
  have e : acc.toList = its.reverse := by
    apply List.ext_getElem?
    intro j
    by_cases hj : j < its.length
    · have e1 : acc.toList[j]? = some acc.toList[j] := List.getElem?_eq_getElem (by omega)
      have e2 : its.toArray[its.toArray.size - 1 - j]? = some acc.toList[j] := h.2 j _ (by rw [← Array.getElem?_toList]; exact e1)
      rw [e1, List.getElem?_reverse hj, ← e2]
      simp
    · rw [List.getElem?_eq_none (by omega), List.getElem?_eq_none (by rw [List.length_reverse]; omega)]
  rw [e]
  exact r.reverse
theorem pe_lstRev {e : Expr} {te : TE} {p p2 pos pos2 : Pos} (hc : X.calm = true) (hg : Gl X "list") (hm : X.mg "list" = none) (hg2 : Gl X "reversed") (hm2 : X.mg "reversed" = none) (he : PE X e te)
    (hs : starEach [e] X.env = (false, eval e X.env) :: starEach [] X.env := by rfl)
    (hs2 : starEach [.Call (.Name "reversed" p2) [e] [] pos2] X.env = (false, eval (.Call (.Name "reversed" p2) [e] [] pos2) X.env) :: starEach [] X.env := by rfl) :
    PE X (.Call (.Name "list" p) [.Call (.Name "reversed" p2) [e] [] pos2] [] pos) (tLstRev X.K te) := by
  refine ⟨fun pins s σ H Q I h => ?_⟩
  refine Call_ (ld_blt I hg hm boot_list (PyProof.Rows.callWith_type1 (args_cons (Call_ (ld_blt I hg2 hm2 PyProof.Rows.boot_reversed (PyProof.Rows.callWith_type1 (args_cons (thn (he.run pins s σ H _ I h) fun u s1 g1 => args_nil ?_) hs) hs rfl))) hs2) hs2 rfl))
  obtain ⟨v, H1, I1, r1, a, xs, ev, hq, q⟩ := g1
  subst ev
  obtain rfl : u = Value.ref a := r1
  obtain ⟨its, rv, pl, hz⟩ := I1.list hq
  have hl := pl.isList
  refine call_reversed_list hl (args_nil ?_)
  have k0 : ∀ b o, s1.heap.get? b = some o → (s1.heap.push (revObj a ((its.toArray.size : Int) - 1))).get? b = some o := fun b o e => Heap.get?_push_of_some _ e
  obtain ⟨ol, hol, _⟩ := id hl
  have hne : a ≠ s1.heap.objs.size := Nat.ne_of_lt (Heap.lt_size hol)
  have hn : its.toArray.size ≤ sizeLine := by rw [List.size_toArray, ← rv.length]; exact hz
  refine LRv.call_list_rev (s := { s1 with heap := s1.heap.push (revObj a ((its.toArray.size : Int) - 1)) }) (I1.ok.hd hc) ⟨_, Heap.get?_push_size _ rfl, rfl, rfl⟩ (hl.push _) hne hn fun h' tk acc c hk hS hi => ?_
  have kp : ∀ b o, s1.heap.get? b = some o → h'.get? b = some o := fun b o e => hk b o (Nat.ne_of_lt (Heap.lt_size e)) (k0 b o e)
  have big : s1.heap.objs.size ≤ (s1.heap.push (revObj a ((its.toArray.size : Int) - 1))).objs.size := by rw [Heap.size_push]; exact Nat.le_succ _
  have new := I1.hok.fresh big
  refine ⟨.ref (s1.heap.push (revObj a ((its.toArray.size : Int) - 1))).objs.size, upd H1 _ (.lst xs.reverse), I1.laid (t' := tk) kp big ⟨by rw [List.length_reverse]; exact hz, acc.toList, c, vals_back rv hi, ?_⟩, rfl, q _ new⟩
  rw [Array.toArray_toList]
  exact hS
end
theorem xf_rev {K : PySem.W.Frag} {env : SE} {te : TE} {ds : List PyData} (h : EvX K te env (.list ds)) : EvFX K (tLstRev K te) env ds.reverse := fun Hb σ H s H1 e1 Q q =>
  h Hb σ H s H1 e1 _ fun v H2 e2 r => by
    obtain ⟨a, xs, rfl, ha, ra⟩ := r.lst_inv
    exact ⟨a, xs, rfl, .inl (.inl ha), fun p hp => q p _ H2 _ (fresh_back e2 hp) e2 (Ex.new hp) hp upd_same ra.rev⟩
end LD
/-! sorted(set(points)): a set of pairs of any ints, in order. -/
namespace LSt
open PySem PySem.Spec PyProof.Rows L2
/-- a row of the set as a pair -/
def asPair (q : Addr × List Int) : Int × Int := (q.2.getD 0 0, q.2.getD 1 0)
/-- the ints that a row at that address holds -/
def keyOf (L : List (Addr × List Int)) : Value → Int × Int
  | .ref a => match L.find? fun q => q.1 == a with
    | some q => asPair q
    | none => (0, 0)
  | _ => (0, 0)
theorem keyOf_row {L : List (Addr × List Int)} (one : ∀ q ∈ L, ∀ r ∈ L, q.1 = r.1 → q = r) {q : Addr × List Int} (hq : q ∈ L) : keyOf L (.ref q.1) = asPair q := by
  have e : keyOf L (.ref q.1) = (match L.find? fun r => r.1 == q.1 with
    | some q => asPair q
    | none => (0, 0)) := rfl
  rw [e]
  cases h : L.find? fun r => r.1 == q.1 with
  | none =>
    have := List.find?_eq_none.mp h q hq
    simp at this
  | some r =>
    have h1 := List.mem_of_find?_eq_some h
    have h2 := List.find?_some h
    have : r = q := one r h1 q hq (by simpa using h2)
    rw [this]
/-- values that are rows' addresses, told by the rows -/
theorem rows_back {L : List (Addr × List Int)} : ∀ {vs : List Value}, (∀ v ∈ vs, ∃ q ∈ L, v = Value.ref q.1) → ∃ M : List (Addr × List Int), vs = M.map (fun q => Value.ref q.1) ∧ ∀ q ∈ M, q ∈ L
  | [], _ => ⟨[], rfl, by simp⟩
  | v :: vs, h => by
    obtain ⟨q, hq, e⟩ := h v (by simp)
    obtain ⟨M, e1, h1⟩ := rows_back fun u hu => h u (List.mem_cons_of_mem _ hu)
    refine ⟨q :: M, by rw [List.map_cons, ← e1, e], fun r hr => ?_⟩
    rcases List.mem_cons.mp hr with e | hr
    · rw [e]; exact hq
    · exact h1 r hr
theorem vals_rows : ∀ (L : List (Addr × List Int)), Vals (L.map fun q => V.ref q.1) (L.map fun q => Value.ref q.1)
  | [] => .nil
  | _ :: L => .cons rfl (vals_rows L)
section
variable {P : Program} {w : World} {A : Around} {E : Value → Shared → Prop} {s : Shared}
theorem pair_of {h : Heap} {q : Addr × List Int} {x y : Int} (t : IsT P w h q.2 q.1) (e : q.2 = [x, y]) : Srt.IsPair h (.ref q.1) x y := by
  obtain ⟨o, items, n, ho, hc, hd, hi⟩ := t
  rw [e] at hi
  have k := ints_of_items hi
  obtain ⟨l⟩ := items
  match l, k with
  | _, .cons _ t1 (.cons _ t2 .nil) => exact ⟨q.1, o, t1, t2, n, rfl, ho, hc, hd⟩
theorem call_sorted {a : Addr} {L : List (Addr × List Int)} {es : Array (Int × Value)} {ep : Nat} {t : SetTable} {Q : Value → Shared → Prop} (R : SetTR P w s.heap a L es ep t) (hh : A.handled = none) (two : ∀ q ∈ L, q.2 = [(asPair q).1, (asPair q).2])
    (hQ : ∀ (s' : Shared) (p : Addr) (c : Nat) (M : List (Addr × List Int)), (∀ b o, s.heap.get? b = some o → s'.heap.get? b = some o) → s'.gens = s.gens → s'.os = s.os → s.heap.objs.size ≤ p →
      s'.heap.get? p = some (seqObj "list" (M.map fun q => Value.ref q.1).toArray c) → M.Perm L → M.Pairwise (fun q r => SrtO.lexB (asPair r) (asPair q) = false) → Q (.ref p) s') :
    wpAny (model P w) A (call (.builtin "sorted") [.ref a]) Q E s := by
  obtain ⟨o, ho, hex, hd⟩ := R.ob
  have one : ∀ q ∈ L, ∀ r ∈ L, q.1 = r.1 → q = r := fun q hq r hr e => by
    have t1 := R.tup q hq
    have t2 := R.tup r hr
    rw [e] at t1
    exact Prod.ext e (t1.inj t2)
  have small : es.size < scanBound := by
    have z := R.size
    have f := R.few
    unfold scanBound
    omega
  refine Calls.call_function_entry kind_sorted plain_sorted entry_sorted (args_sorted1 _) ?_
  unfold Builtin.«sorted»
  refine wpAny_bind (m := checkCount "sorted" 1 1 _) (wpAny_pure ?_)
  refine wpAny_bind (collect_set (A := A.in1) hh ⟨o, ho, hex.1, hd⟩ R.fits small R.tab.ris R.led fun s1 vs k1 hz g1 o1 pm => ?_)
  rw [show es.toList.map (·.2) = L.map fun q => Value.ref q.1 by
    rw [R.rows, rowsOf, List.map_map]
    rfl] at pm
  have few : vs.length ≤ sizeLine := by
    have f := R.few
    rw [pm.length_eq, List.length_map, sizeLine_eq]
    omega
  refine wpAny_bind (wpAny_newList ?_ few)
  have hl : (s1.heap.push (seqObj "list" vs.toArray 0)).get? s1.heap.objs.size = some (seqObj "list" vs.toArray 0) := Heap.get?_push_size _ rfl
  have isRow : ∀ v ∈ vs, ∃ q ∈ L, v = Value.ref q.1 := fun v hv => by
    obtain ⟨q, hq, e⟩ := List.mem_map.mp (pm.mem_iff.mp hv)
    exact ⟨q, hq, e.symm⟩
  have prs : ∀ v ∈ vs, Srt.IsPair (s1.heap.push (seqObj "list" vs.toArray 0)) v (keyOf L v).1 (keyOf L v).2 := fun v hv => by
    obtain ⟨q, hq, rfl⟩ := isRow v hv
    rw [keyOf_row one hq]
    exact pair_of (isT_keep (R.tup q hq) fun b u e => Heap.get?_push_of_some _ (k1 b u e)) (two q hq)
  refine wpAny_bind (wpAny_holding (wpAny_call_entry slot_list_sort ⟨_, hl, rfl⟩ entry_list_sort (SrtO.list_sort_ord (SrtO.swo_lex (keyOf L)) hl few (fun h2 => SrtO.pairs_sortableO (s := { s1 with heap := s1.heap.push (seqObj "list" vs.toArray 0) }) (by omega) prs fun o e => ?_) fun out h1 h2 => ⟨_, rfl, ?_⟩) (args_list_sort _)))
  · cases hl.symm.trans e
    intro z
    exact absurd (Value.type.inj z) (by decide)
  · obtain ⟨c, hc⟩ := sortedHeap_at (vs := vs) (out := out.toArray) hl
    obtain ⟨M, eM, hM⟩ := rows_back (L := L) (vs := out) fun v hv => isRow v (h2.perm.mem_iff.mp hv)
    have nL : L.Nodup := nodup_of_map R.nd
    have inj : ∀ q ∈ L, ∀ r ∈ L, Value.ref q.1 = Value.ref r.1 → q = r := fun q hq r hr e => one q hq r hr (by injection e)
    have nv : (L.map fun q => Value.ref q.1).Nodup := List.pairwise_map.mpr (List.Pairwise.imp_of_mem (fun {q r} hq hr hne e => hne (inj q hq r hr e)) nL)
    have pM : (M.map fun q => Value.ref q.1).Perm (L.map fun q => Value.ref q.1) := by
      rw [← eM]
      exact h2.perm.trans pm
    have nM : M.Nodup := nodup_of_map (pM.nodup_iff.mpr nv)
    have perm : M.Perm L := (List.perm_ext_iff_of_nodup nM nL).mpr fun q => ⟨hM q, fun hq => by
      obtain ⟨r, hr, e⟩ := List.mem_map.mp (pM.mem_iff.mpr (List.mem_map.mpr ⟨q, hq, rfl⟩))
      rw [← inj r (hM r hr) q hq e]
      exact hr⟩
    refine wpAny_pure ⟨_, rfl, hQ _ s1.heap.objs.size c M (fun b u e => ?_) g1 o1 hz (by rw [← eM]; exact hc) perm ?_⟩
    · have old := k1 b u e
      have lo := Heap.lt_size old
      show (sortedHeap (s1.heap.push (seqObj "list" vs.toArray 0)) s1.heap.objs.size vs out.toArray).get? b = some u
      rw [sortedHeap_old (Nat.ne_of_lt lo) (by rw [size_push']; exact Nat.lt_succ_of_lt lo)]
      exact Heap.get?_push_of_some _ old
    · rw [eM] at h1
      refine List.Pairwise.imp_of_mem (fun {q r} hq hr k => ?_) (List.pairwise_map.mp h1)
      have k' : SrtO.lexB (keyOf L (.ref r.1)) (keyOf L (.ref q.1)) = false := k
      rw [keyOf_row one (hM q hq), keyOf_row one (hM r hr)] at k'
      exact k'
end
end LSt

namespace LD
open PySem PySem.Spec PyProof.Rows L2 Evl LSt
/-- sorted(s), s a set of pairs of ints -/
def rSortedSet (K : PySem.W.Frag) (P : Program) (w : World) : List V → Hp → VK → Prop := fun vs H Q => ∃ (a : Addr) (L : List (Addr × List Int)), vs = [V.ref a] ∧ H a = some (SetTO P w a L) ∧ (∀ q ∈ L, SqT K H q.1 (q.2.map V.int) ∧ q.2 = [(asPair q).1, (asPair q).2]) ∧
  ∀ (M : List (Addr × List Int)) (p : Addr), M.Perm L → (M.map (·.2)).Nodup → M.Pairwise (fun q r => SrtO.lexB (asPair r) (asPair q) = false) → H p = none → Q (.ref p) (upd H p (.lst (M.map fun q => V.ref q.1)))
section
variable {X : Cx}
theorem cr_sortedSet (hc : X.calm = true) : CallR X (.builtin "sorted") (rSortedSet X.K X.prog X.w) := by
  intro pins s σ H vs us Q I r h
  obtain ⟨a, L, rfl, ha, hk, q⟩ := h
  have R0 : SetT0 X.prog X.w s.heap a L := (I.hok a _ ha).1
  obtain ⟨es, ep, t, R⟩ := R0.full fun p hp => I.isT (hk p hp).1
  rw [Vals.ref1 r]
  refine LSt.call_sorted R (I.ok.hd hc) (fun p hp => (hk p hp).2) fun s' p c M k g o hp hM pm pw => ?_
  have few : (M.map fun q => V.ref q.1).length ≤ sizeLine := by
    have f := R.few
    rw [List.length_map, pm.length_eq, sizeLine_eq]
    omega
  have new : H p = none := I.hok.fresh hp
  have J : Inv X pins σ (upd H p (.lst (M.map fun q => V.ref q.1))) { s with heap := s'.heap, gens := s'.gens, drawn := s'.drawn, toks := s'.toks } :=
    I.call (ch := []) (Un.laid k hp new) (I.hok.laid k hp ⟨few, _, c, vals_rows M, hM⟩) (by rw [g]; exact I.bare) (fun _ z => nomatch z)
  have e : s' = { s with heap := s'.heap, gens := s'.gens, drawn := s'.drawn, toks := s'.toks } := by
    cases s'
    cases s
    cases o
    rfl
  rw [e]
  exact ⟨.ref p, _, J, rfl, q M p pm ((pm.map (·.2)).nodup_iff.mpr R.nd) pw new⟩
end
/-- a point's data -/
def ptD (p : Int × Int) : PyData := .tuple [.int p.1, .int p.2]
def ptsD (ps : List (Int × Int)) : PyData := .list (ps.map ptD)
section
variable {K : PySem.W.Frag} {H : Hp}
theorem Rp.pt {v : V} {p : Int × Int} (h : Rp K H v (ptD p)) : ∃ a, v = .ref a ∧ H a = some (.tup [.int p.1, .int p.2]) := by
  obtain ⟨a, xs, rfl, h1, h2⟩ := h.tup_inv
  obtain ⟨x, y, rfl, r1, r2⟩ := h2.pair
  rw [r1.int_inv, r2.int_inv] at h1
  exact ⟨a, rfl, h1⟩
theorem Rp.of_pt {a : Addr} {p : Int × Int} (h : H a = some (.tup [.int p.1, .int p.2])) : Rp K H (.ref a) (ptD p) := .tup h (.cons (.int _) (.cons (.int _) .nil))
/-- the addresses of a list's points -/
theorem RpAll.pts : ∀ {vs : List V} {ps : List (Int × Int)}, RpAll K H vs (ps.map ptD) → ∃ ks : List (Addr × List Int), vs = ks.map (fun q => V.ref q.1) ∧ ks.map asPair = ps ∧ ∀ q ∈ ks, H q.1 = some (.tup (q.2.map V.int)) ∧ q.2 = [(asPair q).1, (asPair q).2]
  | _, [], .nil => ⟨[], rfl, rfl, by simp⟩
  | _, p :: ps, .cons r t => by
    obtain ⟨a, rfl, ha⟩ := r.pt
    obtain ⟨ks, rfl, e2, h⟩ := RpAll.pts t
    refine ⟨(a, [p.1, p.2]) :: ks, rfl, by rw [List.map_cons, e2]; rfl, fun q hq => ?_⟩
    rcases List.mem_cons.mp hq with e | hq
    · subst e
      exact ⟨ha, rfl⟩
    · exact h q hq
theorem rows_pts : ∀ {ks : List (Addr × List Int)}, (∀ q ∈ ks, H q.1 = some (.tup (q.2.map V.int)) ∧ q.2 = [(asPair q).1, (asPair q).2]) → RpAll K H (ks.map fun q => V.ref q.1) ((ks.map asPair).map ptD)
  | [], _ => .nil
  | q :: ks, h => by
    refine .cons (Rp.of_pt ?_) (rows_pts fun r hr => h r (List.mem_cons_of_mem _ hr))
    obtain ⟨h1, h2⟩ := h q (by simp)
    rw [h2] at h1
    exact h1
theorem lfree_pts : ∀ (ps : List (Int × Int)), lfreeAll (ps.map ptD) = true
  | [] => rfl
  | p :: ps => by
    show (lfree (ptD p) && lfreeAll (ps.map ptD)) = true
    rw [lfree_pts ps]
    rfl
end
/-- sorted(set(points)) -/
theorem xf_sortedSet {K : PySem.W.Frag} {P : Program} {w : World} {env : SE} {te : TE} {ps rs : List (Int × Int)} (h : EvX K te env (ptsD ps)) (hn : ps.length < 64) (hr : ∀ m : List (Int × Int), m.Nodup → (∀ x, x ∈ m ↔ x ∈ ps) → m.Pairwise (fun p q => SrtO.lexB q p = false) → m = rs) :
    EvFX K (tCB (rSortedSet K P w) (tCons (tCB (rSetOfT K P w) (tCons te tNil)) tNil)) env (rs.map ptD) := fun Hb σ H s H1 e1 Q q =>
  h Hb σ H s H1 e1 _ fun v H2 e2 r => by
    obtain ⟨a, xs, rfl, ha, ra⟩ := r.lst_inv
    obtain ⟨ks, rfl, ek, hk⟩ := ra.pts
    refine ⟨a, ks, rfl, .inl (.inl ha), fun q hq => .inl (.inl (hk q hq).1), ?_, fun b L hb hL1 hL2 => ?_⟩
    · have := congrArg List.length ek
      rw [List.length_map] at this
      omega
    · have eb : Ex H2 (upd H2 b (SetTO P w b L)) := Ex.new hb
      have hkL : ∀ q ∈ L, H2 q.1 = some (.tup (q.2.map V.int)) ∧ q.2 = [(asPair q).1, (asPair q).2] := fun q hq => hk q (hL1 q hq)
      refine ⟨b, L, rfl, upd_same, fun q hq => ⟨.inl (.inl (eb _ _ (hkL q hq).1)), (hkL q hq).2⟩, fun M p pm nd pw hp => ?_⟩
      have hM : ∀ q ∈ M, H2 q.1 = some (.tup (q.2.map V.int)) ∧ q.2 = [(asPair q).1, (asPair q).2] := fun q hq => hkL q (pm.mem_iff.mp hq)
      have em : M.map asPair = rs := by
        refine hr _ ?_ (fun x => ?_) (List.pairwise_map.mpr pw)
        · rw [List.nodup_iff_pairwise_ne, List.pairwise_map] at nd ⊢
          refine List.Pairwise.imp_of_mem (fun {q r} hq hr' hne e => hne ?_) nd
          rw [(hM q hq).2, (hM r hr').2, e]
        · constructor
          · intro hx
            obtain ⟨q, hq, rfl⟩ := List.mem_map.mp hx
            rw [← ek]
            exact List.mem_map.mpr ⟨q, hL1 q (pm.mem_iff.mp hq), rfl⟩
          · intro hx
            rw [← ek] at hx
            obtain ⟨q, hq, rfl⟩ := List.mem_map.mp hx
            obtain ⟨r, hr', e⟩ := List.mem_map.mp (hL2 q hq)
            refine List.mem_map.mpr ⟨r, pm.mem_iff.mpr hr', ?_⟩
            unfold asPair
            rw [show r.2 = q.2 from e]
      have e3 : Ex (upd H2 b (SetTO P w b L)) (upd (upd H2 b (SetTO P w b L)) p (.lst (M.map fun q => V.ref q.1))) := Ex.new hp
      refine q p _ (upd H2 b (SetTO P w b L)) _ (fresh_back (e2.trans eb) hp) (e2.trans eb) e3 hp upd_same ?_
      rw [← em]
      exact (rows_pts hM).mono eb
end LD
/-! More values; the frame of a def. -/
namespace LD
open PySem PySem.Spec PyProof.Rows L2 Evl LSt
section
variable {K : PySem.W.Frag} {env : SE} {te ta tb : TE} {tr : TA} {d e : PyData} {ds es : List PyData}
/-- min, max of a list of ints -/
theorem ex_minL {ns : List Int} {m : Int} (h : EvX K te env (.list (ns.map .int))) (h0 : 0 < ns.length) (hm : ∀ x, x ∈ ns → (∀ y ∈ ns, x ≤ y) → x = m) : EvX K (tCB (rMin K) (tCons te tNil)) env (.int m) :=
  ex_cb (ea_cons h ea_nil) fun vs H r Q q => by
    obtain ⟨v, rfl, rv⟩ := r.one
    obtain ⟨a, xs, rfl, ha, ra⟩ := rv.lst_inv
    rw [ra.ints] at ha
    exact ⟨a, ns, rfl, .inl (.inl ha), h0, fun x hx hl => q _ H (Ex.refl _) (by rw [hm x hx hl]; exact .int m)⟩
theorem ex_maxL {ns : List Int} {m : Int} (h : EvX K te env (.list (ns.map .int))) (h0 : 0 < ns.length) (hm : ∀ x, x ∈ ns → (∀ y ∈ ns, y ≤ x) → x = m) : EvX K (tCB (rMax K) (tCons te tNil)) env (.int m) :=
  ex_cb (ea_cons h ea_nil) fun vs H r Q q => by
    obtain ⟨v, rfl, rv⟩ := r.one
    obtain ⟨a, xs, rfl, ha, ra⟩ := rv.lst_inv
    rw [ra.ints] at ha
    exact ⟨a, ns, rfl, .inl (.inl ha), h0, fun x hx hl => q _ H (Ex.refl _) (by rw [hm x hx hl]; exact .int m)⟩
theorem ex_min2 {i j : Int} (h : EvX K ta env (.int i)) (h2 : EvX K tb env (.int j)) : EvX K (tCB (fun xs H Q => ∃ i j, xs = [.int i, .int j] ∧ Q (.int (if j < i then j else i)) H) (tCons ta (tCons tb tNil))) env (.int (if j < i then j else i)) :=
  ex_cb (ea_cons h (ea_cons h2 ea_nil)) fun vs H r Q q => by
    obtain ⟨v, w, rfl, rv, rw⟩ := r.pair
    rw [rv.int_inv, rw.int_inv]
    exact ⟨i, j, rfl, q _ H (Ex.refl _) (.int _)⟩
theorem ex_max2 {i j : Int} (h : EvX K ta env (.int i)) (h2 : EvX K tb env (.int j)) : EvX K (tCB (fun xs H Q => ∃ i j, xs = [.int i, .int j] ∧ Q (.int (if j > i then j else i)) H) (tCons ta (tCons tb tNil))) env (.int (if j > i then j else i)) :=
  ex_cb (ea_cons h (ea_cons h2 ea_nil)) fun vs H r Q q => by
    obtain ⟨v, w, rfl, rv, rw⟩ := r.pair
    rw [rv.int_inv, rw.int_inv]
    exact ⟨i, j, rfl, q _ H (Ex.refl _) (.int _)⟩
/-- all of a list of truths -/
theorem ex_all {bs : List Bool} (h : EvX K te env (.list (bs.map .bool))) : EvX K (tCB (rAll K) (tCons te tNil)) env (.bool (bs.all id)) :=
  ex_cb (ea_cons h ea_nil) fun vs H r Q q => by
    obtain ⟨v, rfl, rv⟩ := r.one
    obtain ⟨a, xs, rfl, ha, ra⟩ := rv.lst_inv
    rw [ra.bools] at ha
    exact ⟨a, bs, rfl, .inl (.inl ha), q _ H (Ex.refl _) (.bl _)⟩
/-- int(flag), int(n) -/
theorem ex_intB {b : Bool} (h : EvX K te env (.bool b)) : EvX K (tCB (fun xs H Q => (∃ i, xs = [.int i] ∧ Q (.int i) H) ∨ ∃ k, xs = [.bl k] ∧ Q (.int (if k then 1 else 0)) H) (tCons te tNil)) env (.int (if b then 1 else 0)) :=
  ex_cb (ea_cons h ea_nil) fun vs H r Q q => by
    obtain ⟨v, rfl, rv⟩ := r.one
    rw [rv.bl_inv]
    exact .inr ⟨b, rfl, q _ H (Ex.refl _) (.int _)⟩
/-- the built-in class of data -/
def tyD : PyData → Option String
  | .none => some "NoneType"
  | .bool _ => some "bool"
  | .int _ => some "int"
  | .str _ => some "str"
  | .list _ => some "list"
  | .tuple _ => some "tuple"
  | .dict _ => none
theorem Rp.ty {H : Hp} {v : V} {t : String} (r : Rp K H v d) (h : tyD d = some t) : TyX K H v (.type t) := by
  cases r with
  | non => cases h; exact .base .non
  | bl b => cases h; exact .base (.bl b)
  | int i => cases h; exact .base (.int i)
  | str x => cases h; exact .base (.str x)
  | lst h1 _ => cases h; exact .base (.lst h1)
  | tup h1 _ => cases h; exact .base (.tup h1)
  | scr _ => cases h
/-- isinstance(x, T), T a built-in class -/
theorem ex_isi {t T : String} {b : Bool} (h : EvX K te env d) (ht : tyD d = some t) (k : PySem.W.kitOne K (.type t) (.type T) = some b) : EvX K (tCB (rIsi K) (tCons te (tCons (tC (.ty T)) tNil))) env (.bool b) := fun Hb σ H s H1 e1 Q q =>
  h Hb σ H s H1 e1 _ fun v H2 e2 r => ⟨v, .ty T, .type t, .type T, b, rfl, .ty T, r.ty ht, k, q _ H2 e2 (.bl b)⟩
/-- xs.index(x) -/
theorem ex_index {j : Nat} {z : PyData} (h : EvX K ta env (.list ds)) (hx : EvX K te env d) (s1 : SeqAt.shaped (.list ds) = true) (s2 : SeqAt.shaped d = true) (hj : ds[j]? = some z) (hz : PyData.eqv z d = true) (hn : ∀ (m : Nat) (z' : PyData), m < j → ds[m]? = some z' → PyData.eqv z' d = false) :
    EvX K (tBM K "list" (rIndexD K) ta (tCons te tNil)) env (.int (j : Nat)) := fun Hb σ H s H1 e1 Q q =>
  h Hb σ H s H1 e1 _ fun v H2 e2 r => by
    obtain ⟨a, xs, rfl, ha, ra⟩ := r.lst_inv
    refine ⟨.inl ⟨rfl, xs, .inl (.inl ha)⟩, hx Hb σ H s H2 (e1.trans e2) _ fun w H3 e3 rw => ?_⟩
    exact ⟨a, w, d, ds, j, z, rfl, rfl, (r.mono e3).dp (SeqAt.canLay_of_shaped s1), rw.dp (SeqAt.canLay_of_shaped s2), s1, s2, hj, hz, hn, q _ H3 (e2.trans e3) (.int _)⟩
/-- sorted(xs) of points, of ints -/
theorem xf_sortedP {ps rs : List (Int × Int)} (h : EvX K te env (ptsD ps)) (hr : ∀ m : List (Int × Int), m.Perm ps → m.Pairwise (fun p q => SrtO.lexB q p = false) → m = rs) : EvFX K (tCB (rSortedPO K) (tCons te tNil)) env (rs.map ptD) :=
  xf_cb (ea_cons h ea_nil) fun vs H r Q q => by
    obtain ⟨v, rfl, rv⟩ := r.one
    obtain ⟨a, xs, rfl, ha, ra⟩ := rv.lst_inv
    obtain ⟨ks, rfl, ek, hk⟩ := ra.pts
    -- the ints at an address, by the heap
    have kx : ∃ k : V → Int × Int, ∀ q ∈ ks, k (.ref q.1) = asPair q := by
      refine ⟨fun v => match v with
        | .ref b => (match H b with
          | some (.tup [.int x, .int y]) => (x, y)
          | _ => (0, 0))
        | _ => (0, 0), fun q hq => ?_⟩
      obtain ⟨h1, h2⟩ := hk q hq
      rw [h2] at h1
      show (match H q.1 with
          | some (.tup [.int x, .int y]) => (x, y)
          | _ => (0, 0)) = asPair q
      rw [h1]
      rfl
    obtain ⟨k, hkx⟩ := kx
    refine ⟨a, _, k, rfl, .inl (.inl ha), fun x hx => ?_, fun ys p hs hb hp => ?_⟩
    · obtain ⟨q, hq, rfl⟩ := List.mem_map.mp hx
      obtain ⟨h1, h2⟩ := hk q hq
      refine ⟨q.1, rfl, ?_⟩
      rw [hkx q hq]
      rw [h2] at h1
      exact h1
    · have hys : ∀ y ∈ ys, ∃ q ∈ ks, y = V.ref q.1 := fun y hy => by
        obtain ⟨q, hq, e⟩ := List.mem_map.mp (hb.perm.mem_iff.mp hy)
        exact ⟨q, hq, e.symm⟩
      have back : ∀ {zs : List V}, (∀ y ∈ zs, ∃ q ∈ ks, y = V.ref q.1) → ∃ M : List (Addr × List Int), zs = M.map (fun q => V.ref q.1) ∧ ∀ q ∈ M, q ∈ ks := by
        intro zs
        induction zs with
        | nil => intro _; exact ⟨[], rfl, by simp⟩
        | cons z zs ih =>
          intro hz
          obtain ⟨q, hq, e⟩ := hz z (by simp)
          obtain ⟨M, e1, h1⟩ := ih fun y hy => hz y (List.mem_cons_of_mem _ hy)
          refine ⟨q :: M, by rw [List.map_cons, ← e1, e], fun r hr => ?_⟩
          rcases List.mem_cons.mp hr with e | hr
          · rw [e]; exact hq
          · exact h1 r hr
      obtain ⟨M, rfl, hM⟩ := back hys
      have hM2 : ∀ q ∈ M, H q.1 = some (.tup (q.2.map V.int)) ∧ q.2 = [(asPair q).1, (asPair q).2] := fun q hq => hk q (hM q hq)
      have em : M.map asPair = rs := by
        refine hr _ ?_ ?_
        · have p1 := hb.perm.map k
          rw [List.map_map, List.map_map] at p1
          have e1 : M.map (k ∘ fun q => V.ref q.1) = M.map asPair := List.map_congr_left fun q hq => hkx q (hM q hq)
          have e2 : ks.map (k ∘ fun q => V.ref q.1) = ks.map asPair := List.map_congr_left fun q hq => hkx q hq
          rw [e1, e2, ek] at p1
          exact p1
        · refine List.pairwise_map.mpr (List.Pairwise.imp_of_mem (fun {q r} hq hr' z => ?_) (List.pairwise_map.mp hs))
          have z' : SrtO.lexB (k (.ref r.1)) (k (.ref q.1)) = false := z
          rw [hkx q (hM q hq), hkx r (hM r hr')] at z'
          exact z'
      refine q p _ H _ hp (Ex.refl _) (Ex.new hp) hp upd_same ?_
      rw [← em]
      exact rows_pts hM2
end
/-! ### the frame of a def -/
def env0 (n : Nat) (ds : List PyData) : SE := ds.map .dat ++ List.replicate (n - ds.length) .no
theorem std_start {K : PySem.W.Frag} {H : Hp} {N : List Str} {vs : List V} {ds : List PyData} (r : RpAll K H vs ds) : StD K H H (L2.start N vs) (env0 N.length ds) := by
  refine ⟨H, Ex.refl _, Ex.refl _, ?_, fun i s hi => ?_⟩
  · unfold L2.start env0
    rw [List.length_append, List.length_append, List.length_map, List.length_map, List.length_replicate, List.length_replicate, r.length]
  · unfold env0 at hi
    by_cases h : i < ds.length
    · rw [List.getElem?_append_left (by rw [List.length_map]; exact h), List.getElem?_map] at hi
      cases k : ds[i]? with
      | none => rw [k] at hi; cases hi
      | some d =>
        rw [k] at hi
        cases hi
        obtain ⟨v, hv, rv⟩ := r.get k
        refine ⟨v, ?_, rv⟩
        unfold L2.start
        rw [List.getElem?_append_left (by rw [List.length_map, r.length]; exact h), List.getElem?_map, hv]
        rfl
    · rw [List.getElem?_append_right (by rw [List.length_map]; omega)] at hi
      have : s = .no := List.eq_of_mem_replicate (List.mem_of_getElem? hi)
      subst this
      trivial
section
variable {P : Program} {w : World} {K : PySem.W.Frag} {mg : Str → Option Value} {base : Heap}
/-- a def that answers data -/
theorem ok_D {x qual : Str} {st : Stmt} {f : Addr} {fd : FuncData} {N ps : List Str} {k : Nat} {F : List PyData → PyData → Prop} (Fn : Fun K x qual st f fd) (S : FnScope N ps (defScope st)) (len : ∀ ds d, F ds d → ds.length = ps.length)
    (hbody : ∀ (cdv : Value) (A : Around) (outer : List Env) (s : Shared) (H : Hp) (E : XK), Room k (A.deeper (envOfC qual (defScope st) s.heap.objs.size f cdv)) → ∀ ds d, F ds d →
      ∃ t, PSs (cxOf CX0 P w K mg base N qual (defScope st) f cdv A outer s H E).nox (defBody st) t ∧ RunX K t (env0 N.length ds) (.rt d)) : FnOk P w K mg base CX0 (k + 1) f fd ps (spD K F) := by
  refine Fn.ok S (fun vs H Q E h => ?_) (fun cdv A outer s H vs Q E hr h => ?_)
  · obtain ⟨ds, d, r, hF, _⟩ := h
    rw [r.length, len ds d hF]
  · obtain ⟨ds, d, r, hF, q⟩ := h
    obtain ⟨t, ht, hx⟩ := hbody cdv A outer s H E hr ds d hF
    exact ⟨t, ht, hx H _ H _ (std_start r) q⟩
/-- a def that answers a new list -/
theorem ok_F {x qual : Str} {st : Stmt} {f : Addr} {fd : FuncData} {N ps : List Str} {k : Nat} {F : List PyData → List PyData → Prop} (Fn : Fun K x qual st f fd) (S : FnScope N ps (defScope st)) (len : ∀ ds d, F ds d → ds.length = ps.length)
    (hbody : ∀ (cdv : Value) (A : Around) (outer : List Env) (s : Shared) (H : Hp) (E : XK), Room k (A.deeper (envOfC qual (defScope st) s.heap.objs.size f cdv)) → ∀ ds es, F ds es →
      ∃ t, PSs (cxOf CX0 P w K mg base N qual (defScope st) f cdv A outer s H E).nox (defBody st) t ∧ RunX K t (env0 N.length ds) (.rf es)) : FnOk P w K mg base CX0 (k + 1) f fd ps (spF K F) := by
  refine Fn.ok S (fun vs H Q E h => ?_) (fun cdv A outer s H vs Q E hr h => ?_)
  · obtain ⟨ds, d, r, hF, _⟩ := h
    rw [r.length, len ds d hF]
  · obtain ⟨ds, es, r, hF, q⟩ := h
    obtain ⟨t, ht, hx⟩ := hbody cdv A outer s H E hr ds es hF
    exact ⟨t, ht, hx H _ H _ (std_start r) q⟩
/-- a def that answers None or a new list -/
theorem ok_O {x qual : Str} {st : Stmt} {f : Addr} {fd : FuncData} {N ps : List Str} {k : Nat} {F : List PyData → Option (List PyData) → Prop} (Fn : Fun K x qual st f fd) (S : FnScope N ps (defScope st)) (len : ∀ ds d, F ds d → ds.length = ps.length)
    (hbody : ∀ (cdv : Value) (A : Around) (outer : List Env) (s : Shared) (H : Hp) (E : XK), Room k (A.deeper (envOfC qual (defScope st) s.heap.objs.size f cdv)) → ∀ ds o, F ds o →
      ∃ t, PSs (cxOf CX0 P w K mg base N qual (defScope st) f cdv A outer s H E).nox (defBody st) t ∧ RunX K t (env0 N.length ds) (match o with | none => .rt .none | some es => .rf es)) : FnOk P w K mg base CX0 (k + 1) f fd ps (spO K F) := by
  refine Fn.ok S (fun vs H Q E h => ?_) (fun cdv A outer s H vs Q E hr h => ?_)
  · obtain ⟨ds, d, r, hF, _⟩ := h
    rw [r.length, len ds d hF]
  · obtain ⟨ds, o, r, hF, q1, q2⟩ := h
    obtain ⟨t, ht, hx⟩ := hbody cdv A outer s H E hr ds o hF
    refine ⟨t, ht, hx H _ H _ (std_start r) ?_⟩
    cases o with
    | none => exact fun v H' e rv => by rw [rv.non_inv]; exact q1 rfl H' e
    | some es => exact q2 es rfl
/-- a def whose answer is told by more than its data -/
theorem ok_R {x qual : Str} {st : Stmt} {f : Addr} {fd : FuncData} {N ps : List Str} {k : Nat} {F : List PyData → (Hp → V → Hp → Prop) → Prop} (Fn : Fun K x qual st f fd) (S : FnScope N ps (defScope st)) (len : ∀ ds d, F ds d → ds.length = ps.length)
    (hbody : ∀ (cdv : Value) (A : Around) (outer : List Env) (s : Shared) (H : Hp) (E : XK), Room k (A.deeper (envOfC qual (defScope st) s.heap.objs.size f cdv)) → ∀ ds R, F ds R →
      ∃ t, PSs (cxOf CX0 P w K mg base N qual (defScope st) f cdv A outer s H E).nox (defBody st) t ∧ RunX K t (env0 N.length ds) (.rq R)) : FnOk P w K mg base CX0 (k + 1) f fd ps (spR K F) := by
  refine Fn.ok S (fun vs H Q E h => ?_) (fun cdv A outer s H vs Q E hr h => ?_)
  · obtain ⟨ds, d, r, hF, _⟩ := h
    rw [r.length, len ds d hF]
  · obtain ⟨ds, R, r, hF, q⟩ := h
    obtain ⟨t, ht, hx⟩ := hbody cdv A outer s H E hr ds R hF
    exact ⟨t, ht, hx H _ H _ (std_start r) q⟩
/-- a def that falls off its end answers None -/
theorem rx_none {t : TS} {env e : SE} {H : Hp} {vs : List V} {N : List Str} {Q : VK} (h : RunX K t env (.nx e)) (s : StD K H H (L2.start N vs) env) (q : ∀ v H', Ex H H' → Rp K H' v .none → Q v H') : t { nx := fun _ H' => Q .non H', rt := Q } (L2.start N vs) H :=
  h H _ H _ s fun σ' H' s' => q .non H' s'.bot .non
/-- a def whose answer is None -/
theorem ok_N {x qual : Str} {st : Stmt} {f : Addr} {fd : FuncData} {N ps : List Str} {k : Nat} {F : List PyData → Prop} (Fn : Fun K x qual st f fd) (S : FnScope N ps (defScope st)) (len : ∀ ds, F ds → ds.length = ps.length)
    (hbody : ∀ (cdv : Value) (A : Around) (outer : List Env) (s : Shared) (H : Hp) (E : XK), Room k (A.deeper (envOfC qual (defScope st) s.heap.objs.size f cdv)) → ∀ ds, F ds →
      ∃ t, PSs (cxOf CX0 P w K mg base N qual (defScope st) f cdv A outer s H E).nox (defBody st) t ∧ ∃ e, RunX K t (env0 N.length ds) (.nx e)) : FnOk P w K mg base CX0 (k + 1) f fd ps (spD K fun ds d => F ds ∧ d = .none) := by
  refine Fn.ok S (fun vs H Q E h => ?_) (fun cdv A outer s H vs Q E hr h => ?_)
  · obtain ⟨ds, d, r, hF, _⟩ := h
    rw [r.length, len ds hF.1]
  · obtain ⟨ds, d, r, ⟨hF, rfl⟩, q⟩ := h
    obtain ⟨t, ht, e, hx⟩ := hbody cdv A outer s H E hr ds hF
    exact ⟨t, ht, rx_none hx (std_start r) q⟩
end
end LD
/-! Loops as folds and searches. -/
namespace LD
open PySem L2 Evl LSt
/-- the second frame asks less -/
inductive Wk : SE → SE → Prop
  | nil : Wk [] []
  | keep {s : Sl} {e e' : SE} : Wk e e' → Wk (s :: e) (s :: e')
  | drop {s : Sl} {e e' : SE} : Wk e e' → Wk (s :: e) (.no :: e')
  | data {ds : List PyData} {e e' : SE} : Wk e e' → Wk (.own ds :: e) (.no :: e')
theorem Wk.refl : ∀ (e : SE), Wk e e
  | [] => .nil
  | _ :: e => .keep (Wk.refl e)
theorem Wk.length {e e' : SE} (h : Wk e e') : e.length = e'.length := by
  induction h with
  | nil => rfl
  | keep _ ih => rw [List.length_cons, List.length_cons, ih]
  | drop _ ih => rw [List.length_cons, List.length_cons, ih]
  | data _ ih => rw [List.length_cons, List.length_cons, ih]
theorem Wk.get {e e' : SE} (h : Wk e e') : ∀ {i : Nat} {s : Sl}, e'[i]? = some s → s = .no ∨ e[i]? = some s := by
  induction h with
  | nil => intro i s h; simp at h
  | keep _ ih =>
    intro i s h
    cases i with
    | zero => exact .inr h
    | succ i => exact ih (by simpa using h)
  | drop _ ih =>
    intro i s h
    cases i with
    | zero => exact .inl (by simpa using h.symm)
    | succ i => exact ih (by simpa using h)
  | data _ ih =>
    intro i s h
    cases i with
    | zero => exact .inl (by simpa using h.symm)
    | succ i => exact ih (by simpa using h)
section
variable {K : PySem.W.Frag} {env env' e e' : SE} {t u : TS} {out : Out}
theorem StD.weak {Hb H : Hp} {σ : St} (h : StD K Hb H σ e) (k : Wk e e') : StD K Hb H σ e' := by
  obtain ⟨H0, s⟩ := h
  refine ⟨H0, s.base, s.up, by rw [s.len, k.length], fun i sl hi => ?_⟩
  rcases k.get hi with q | q
  · subst q; trivial
  · exact s.at_ i sl q
theorem rx_pre (k : Wk env env') (h : RunX K t env' out) : RunX K t env out := fun Hb σ H D s g => h Hb σ H D (s.weak k) g
theorem rx_post (h : RunX K t env (.nx e)) (k : Wk e e') : RunX K t env (.nx e') := fun Hb σ H D s g => h Hb σ H D s fun σ' H' s' => g σ' H' (s'.weak k)
theorem rx_postC (h : RunX K t env (.ct e)) (k : Wk e e') : RunX K t env (.ct e') := fun Hb σ H D s g => h Hb σ H D s fun σ' H' s' => g σ' H' (s'.weak k)
theorem fr_pre {g : TG} {tb : TS} {ds : List PyData} (k : Wk e e') (h : Fr K g tb ds e' (.nx env)) (kk : ∀ {d : PyData} {e1 : SE}, TgX K g e' d e1 → TgX K g e d e1) : ds ≠ [] → Fr K g tb ds e (.nx env) := by
  intro hne
  cases h with
  | done => exact absurd rfl hne
  | turn h1 h2 h3 => exact .turn (kk h1) h2 h3
  | cont h1 h2 h3 => exact .cont (kk h1) h2 h3
  | brk h1 h2 => exact .brk (kk h1) h2
/-- a loop that carries a value: its frame is envOf of the value -/
theorem fr_fold {α β : Type} {g : TG} {tb : TS} (inj : α → PyData) (envOf : β → SE) (f : β → α → β) (b0 : β) (items : List α)
    (h : ∀ (pre post : List α) (a : α), items = pre ++ a :: post → ∃ e1, TgX K g (envOf (pre.foldl f b0)) (inj a) e1 ∧ RunX K tb e1 (.nx (envOf (f (pre.foldl f b0) a)))) : Fr K g tb (items.map inj) (envOf b0) (.nx (envOf (items.foldl f b0))) := by
  have key : ∀ (post pre : List α), items = pre ++ post → Fr K g tb (post.map inj) (envOf (pre.foldl f b0)) (.nx (envOf (items.foldl f b0))) := by
    intro post
    induction post with
    | nil =>
      intro pre hp
      rw [List.append_nil] at hp
      rw [hp]
      exact .done
    | cons a post ih =>
      intro pre hp
      obtain ⟨e1, h1, h2⟩ := h pre post a hp
      refine .turn h1 h2 ?_
      have := ih (pre ++ [a]) (by rw [hp]; simp)
      rw [List.foldl_append] at this
      exact this
  exact key items [] rfl
/-- a loop that searches: the first item that answers ends it -/
theorem fr_find {α : Type} {g : TG} {tb : TS} (inj : α → PyData) (f : α → Option PyData) (env : SE) (items : List α)
    (h : ∀ a ∈ items, ∃ e1, TgX K g env (inj a) e1 ∧ (∀ d, f a = some d → RunX K tb e1 (.rt d)) ∧ (f a = none → RunX K tb e1 (.nx env))) :
    Fr K g tb (items.map inj) env (match items.findSome? f with | some d => .rt d | none => .nx env) := by
  induction items with
  | nil => exact .done
  | cons a items ih =>
    obtain ⟨e1, h1, h2, h3⟩ := h a (by simp)
    cases k : f a with
    | some d =>
      rw [List.findSome?_cons, k]
      exact .rt h1 (h2 d k)
    | none =>
      rw [List.findSome?_cons, k]
      exact .turn h1 (h3 k) (ih fun b hb => h b (List.mem_cons_of_mem _ hb))
/-- a search, and what stands behind it -/
theorem rx_find {α : Type} {f : α → Option PyData} {items : List α} (h : RunX K t env (match items.findSome? f with | some d => .rt d | none => .nx e)) (h1 : ∀ d, items.findSome? f = some d → out = .rt d) (h2 : items.findSome? f = none → RunX K u e out) : RunX K (tSeq t u) env out := by
  cases k : items.findSome? f with
  | some d =>
    rw [k] at h
    rw [h1 d k]
    exact rx_end h rfl
  | none =>
    rw [k] at h
    exact rx_seq h (h2 k)
/-- a while by a value that it carries, what holds of it, and a number that falls -/
theorem rx_whileP {α : Type} {tc : TT} {tb : TS} (envOf : α → SE) (P : α → Prop) (cond : α → Bool) (next : α → α) (m : α → Nat) (a0 : α) (h0 : P a0) (hc : ∀ a, P a → EvTX K tc (envOf a) (cond a))
    (hb : ∀ a, P a → cond a = true → RunX K tb (envOf a) (.nx (envOf (next a))) ∧ P (next a) ∧ m (next a) < m a) (hd : ∀ a, P a → cond a = false → Wk (envOf a) e) : RunX K (tWhile tc tb) (envOf a0) (.nx e) := by
  have key : ∀ (n : Nat) (a : α), m a ≤ n → P a → ∃ a', P a' ∧ cond a' = false ∧ Wh K tc tb n (envOf a) (.nx (envOf a')) := by
    intro n
    induction n with
    | zero =>
      intro a hm hp
      cases k : cond a with
      | false => exact ⟨a, hp, k, .stop (k ▸ hc a hp)⟩
      | true => have := (hb a hp k).2.2; omega
    | succ n ih =>
      intro a hm hp
      cases k : cond a with
      | false => exact ⟨a, hp, k, .stop (k ▸ hc a hp)⟩
      | true =>
        obtain ⟨h1, h2, h3⟩ := hb a hp k
        obtain ⟨a', p', c', w'⟩ := ih (next a) (by omega) h2
        exact ⟨a', p', c', .turn (k ▸ hc a hp) h1 w'⟩
  obtain ⟨a', p', c', w'⟩ := key _ a0 (Nat.le_refl _) h0
  exact rx_post (rx_while w') (hd a' p' c')
theorem rx_to {out' : Out} (e : out' = out) (h : RunX K t env out') : RunX K t env out := e ▸ h
/-- statements told together, the rest behind them -/
theorem rx_assoc {t1 t2 w : TS} (h : RunX K (tSeq t1 t2) env (.nx e)) (h2 : RunX K w e out) : RunX K (tSeq t1 (tSeq t2 w)) env out := fun Hb σ H D s g => h Hb σ H ⟨fun σ' H' => w D σ' H', D.rt, D.bk, D.ct⟩ s fun σ' H' s' => h2 Hb σ' H' D s' g
/-- an answer that is not told by the end of the loop: all turns go on -/
theorem fr_all {α : Type} {g : TG} {tb : TS} (inj : α → PyData) (env : SE) (items : List α) (h : ∀ a ∈ items, ∃ e1, TgX K g env (inj a) e1 ∧ RunX K tb e1 (.nx env)) : Fr K g tb (items.map inj) env (.nx env) := by
  have := fr_fold (g := g) (tb := tb) (K := K) inj (fun _ : Unit => env) (fun _ _ => ()) () items fun pre post a hp => h a (by rw [hp]; simp)
  exact this
theorem atI_two1 {α : Type} (l : List α) (x y : α) : atI (l ++ [x, y]) (-1) = some y := by
  have : l ++ [x, y] = (l ++ [x]) ++ [y] := by simp
  rw [this]
  exact atI_last _ _
theorem atI_two2 {α : Type} (l : List α) (x y : α) : atI (l ++ [x, y]) (-2) = some x := by
  unfold atI ixN
  rw [if_neg (by omega), if_pos (by rw [List.length_append]; simp only [List.length_cons, List.length_nil]; omega)]
  show (l ++ [x, y])[((-2 : Int) + ((l ++ [x, y]).length : Int)).toNat]? = some x
  rw [List.length_append, show ((-2 : Int) + ((l.length + [x, y].length : Nat) : Int)).toNat = l.length by simp only [List.length_cons, List.length_nil]; omega, List.getElem?_append_right (Nat.le_refl _), Nat.sub_self]
  rfl
end
end LD
/-! sorted(xs) of triples of ints; more of tuples. -/
namespace LD
open PySem PySem.Spec PyProof.Rows L2 Evl LSt
def bigB : Int := 1099511627776
def w3D (u : Int × Int × Int) : PyData := .tuple [.int u.1, .int u.2.1, .int u.2.2]
def asTri (q : Addr × List Int) : Int × Int × Int := (q.2.getD 0 0, q.2.getD 1 0, q.2.getD 2 0)
theorem lfree_w3s : ∀ (us : List (Int × Int × Int)), lfreeAll (us.map w3D) = true
  | [] => rfl
  | u :: us => by
    show (lfree (w3D u) && lfreeAll (us.map w3D)) = true
    rw [lfree_w3s us]
    rfl
theorem xt_true {K : PySem.W.Frag} {env : SE} : EvTX K tYes env true := fun Hb σ H s H1 e1 Q q => q H1 (Ex.refl _)
section
variable {K : PySem.W.Frag} {H : Hp}
theorem RpAll.w3s : ∀ {vs : List V} {us : List (Int × Int × Int)}, RpAll K H vs (us.map w3D) → ∃ ks : List (Addr × List Int), vs = ks.map (fun q => V.ref q.1) ∧ ks.map asTri = us ∧ ∀ q ∈ ks, H q.1 = some (.tup (q.2.map V.int)) ∧ q.2 = [(asTri q).1, (asTri q).2.1, (asTri q).2.2]
  | _, [], .nil => ⟨[], rfl, rfl, by simp⟩
  | _, u :: us, .cons r t => by
    obtain ⟨a, xs, rfl, ha, ra⟩ := r.tup_inv
    have hx : xs = [V.int u.1, V.int u.2.1, V.int u.2.2] := RpAll.ints (ns := [u.1, u.2.1, u.2.2]) ra
    rw [hx] at ha
    obtain ⟨ks, rfl, e2, h⟩ := RpAll.w3s t
    refine ⟨(a, [u.1, u.2.1, u.2.2]) :: ks, rfl, by rw [List.map_cons, e2]; rfl, fun q hq => ?_⟩
    rcases List.mem_cons.mp hq with e | hq
    · subst e
      exact ⟨ha, rfl⟩
    · exact h q hq
theorem rows_w3s : ∀ {ks : List (Addr × List Int)}, (∀ q ∈ ks, H q.1 = some (.tup (q.2.map V.int)) ∧ q.2 = [(asTri q).1, (asTri q).2.1, (asTri q).2.2]) → RpAll K H (ks.map fun q => V.ref q.1) ((ks.map asTri).map w3D)
  | [], _ => .nil
  | q :: ks, h => by
    refine .cons ?_ (rows_w3s fun r hr => h r (List.mem_cons_of_mem _ hr))
    obtain ⟨h1, h2⟩ := h q (by simp)
    rw [h2] at h1
    exact .tup h1 (.cons (.int _) (.cons (.int _) (.cons (.int _) .nil)))
theorem refs_back : ∀ {ks : List (Addr × List Int)} {zs : List V}, (∀ y ∈ zs, ∃ q ∈ ks, y = V.ref q.1) → ∃ M : List (Addr × List Int), zs = M.map (fun q => V.ref q.1) ∧ ∀ q ∈ M, q ∈ ks
  | ks, [], _ => ⟨[], rfl, by simp⟩
  | ks, z :: zs, hz => by
    obtain ⟨q, hq, e⟩ := hz z (by simp)
    obtain ⟨M, e1, h1⟩ := refs_back (zs := zs) fun y hy => hz y (List.mem_cons_of_mem _ hy)
    refine ⟨q :: M, by rw [List.map_cons, ← e1, e], fun r hr => ?_⟩
    rcases List.mem_cons.mp hr with e | hr
    · rw [e]; exact hq
    · exact h1 r hr
/-- sorted(xs) of triples, few and within bounds -/
theorem xf_sortedW {env : SE} {te : TE} {us rs : List (Int × Int × Int)} (h : EvX K te env (.list (us.map w3D))) (hn : us.length < 64) (hb : ∀ u ∈ us, (0 ≤ u.1 ∧ u.1 < bigB) ∧ (0 ≤ u.2.1 ∧ u.2.1 < bigB) ∧ (0 ≤ u.2.2 ∧ u.2.2 < bigB))
    (hr : ∀ m : List (Int × Int × Int), m.Perm us → m.Pairwise (fun u v => TS.code bigB [u.1, u.2.1, u.2.2] ≤ TS.code bigB [v.1, v.2.1, v.2.2]) → m = rs) : EvFX K (tCB (rSortU K 3 bigB) (tCons te tNil)) env (rs.map w3D) :=
  xf_cb (ea_cons h ea_nil) fun vs H r Q q => by
    obtain ⟨v, rfl, rv⟩ := r.one
    obtain ⟨a, xs, rfl, ha, ra⟩ := rv.lst_inv
    obtain ⟨ks, rfl, ek, hk⟩ := ra.w3s
    have tup : ∀ q ∈ ks, TupI K H (.ref q.1) q.2 := fun q hq => ⟨q.1, rfl, .inl (.inl (hk q hq).1)⟩
    refine ⟨a, _, rfl, .inl (.inl ha), ?_, fun x hx => ?_, fun ys p hp hs hnone => ?_⟩
    · rw [List.length_map]
      have := congrArg List.length ek
      rw [List.length_map] at this
      omega
    · obtain ⟨q, hq, rfl⟩ := List.mem_map.mp hx
      have h2 := (hk q hq).2
      refine ⟨q.2, tup q hq, by rw [h2]; rfl, ?_⟩
      have hu := hb (asTri q) (by rw [← ek]; exact List.mem_map.mpr ⟨q, hq, rfl⟩)
      rw [h2]
      intro m hm
      simp only [List.mem_cons, List.not_mem_nil, or_false] at hm
      rcases hm with e | e | e <;> subst e
      · exact hu.1
      · exact hu.2.1
      · exact hu.2.2
    · obtain ⟨M, rfl, hM⟩ := refs_back (ks := ks) (zs := ys) fun y hy => by
        obtain ⟨q, hq, e⟩ := List.mem_map.mp (hp.mem_iff.mp hy)
        exact ⟨q, hq, e.symm⟩
      have hM2 : ∀ q ∈ M, H q.1 = some (.tup (q.2.map V.int)) ∧ q.2 = [(asTri q).1, (asTri q).2.1, (asTri q).2.2] := fun q hq => hk q (hM q hq)
      have em : M.map asTri = rs := by
        refine hr _ ?_ ?_
        · -- by what stands at the addresses
          let f : V → Int × Int × Int := fun v => match v with
            | .ref b => (match H b with
              | some (.tup [.int x, .int y, .int z]) => (x, y, z)
              | _ => (0, 0, 0))
            | _ => (0, 0, 0)
          have fx : ∀ q ∈ ks, f (.ref q.1) = asTri q := fun q hq => by
            obtain ⟨h1, h2⟩ := hk q hq
            rw [h2] at h1
            show (match H q.1 with
              | some (.tup [.int x, .int y, .int z]) => (x, y, z)
              | _ => (0, 0, 0)) = asTri q
            rw [h1]
            rfl
          have p1 := hp.map f
          rw [List.map_map, List.map_map] at p1
          have e1 : M.map (f ∘ fun q => V.ref q.1) = M.map asTri := List.map_congr_left fun q hq => fx q (hM q hq)
          have e2 : ks.map (f ∘ fun q => V.ref q.1) = ks.map asTri := List.map_congr_left fun q hq => fx q hq
          rw [e1, e2, ek] at p1
          exact p1
        · refine List.pairwise_map.mpr (List.Pairwise.imp_of_mem (fun {q r} hq hr' z => ?_) (List.pairwise_map.mp hs))
          have k := z _ _ (tup q (hM q hq)) (tup r (hM r hr'))
          rw [(hk q (hM q hq)).2, (hk r (hM r hr')).2] at k
          exact k
      refine q p _ H _ hnone (Ex.refl _) (Ex.new hnone) hnone upd_same ?_
      rw [← em]
      exact rows_w3s hM2
end
/-! ### comprehensions whose parts speak of the block -/
section
variable {X : Cx}
abbrev Blk (α : Type) : Type := Shared → Hp → Addr → List (Str × Addr) → List Addr → α
abbrev Blk.at0 {α : Type} (X : Cx) (f : Blk α) : α := f X.s_0 X.H_0 0 [] []
theorem pe_lcA {elt tg iter : Expr} {ifs : List Expr} {scope : Scope} {own : List (Str × Nat)} {pos : Pos} {wi : TI} {g : Blk TG} {tt : Blk TT} {te : Blk TE} (hc : X.calm = true) (hN : X.N.Nodup) (hi : PI X tg iter wi) (ok : BlkOk X.N X.env.scope scope own)
    (hg : ∀ (s : Shared) (H : Hp) (C : Addr) (cl : List (Str × Addr)) (fp : List Addr), PG (X.blk s H scope (compEnvC scope cl C X.env) fp) tg (g s H C cl fp)) (ht : ∀ (s : Shared) (H : Hp) (C : Addr) (cl : List (Str × Addr)) (fp : List Addr), PTs (X.blk s H scope (compEnvC scope cl C X.env) fp) ifs (tt s H C cl fp))
    (he : ∀ (s : Shared) (H : Hp) (C : Addr) (cl : List (Str × Addr)) (fp : List Addr), PE (X.blk s H scope (compEnvC scope cl C X.env) fp) elt (te s H C cl fp)) (hs : ∀ x, foldedSetIterable iter X.env x = pure x := by intro _; rfl)
    (eg : ∀ s H C cl fp, g s H C cl fp = Blk.at0 X g := by intro _ _ _ _ _; rfl) (et : ∀ s H C cl fp, tt s H C cl fp = Blk.at0 X tt := by intro _ _ _ _ _; rfl) (ee : ∀ s H C cl fp, te s H C cl fp = Blk.at0 X te := by intro _ _ _ _ _; rfl) :
    PE X (.ListComp elt [⟨tg, iter, ifs, 0⟩] scope pos) (tLc wi (Blk.at0 X g) (Blk.at0 X tt) (Blk.at0 X te) (own.map (·.2))) :=
  pe_lc hc hN hi ok (fun s H C cl fp => eg s H C cl fp ▸ hg s H C cl fp) (fun s H C cl fp => et s H C cl fp ▸ ht s H C cl fp) (fun s H C cl fp => ee s H C cl fp ▸ he s H C cl fp) hs
theorem ps_setLcA {i : Nat} {y : Str} {py : Pos} {elt tg iter : Expr} {ifs : List Expr} {scope : Scope} {own : List (Str × Nat)} {pos spos : Pos} {wi : TI} {g : Blk TG} {tt : Blk TT} {te : Blk TE} (hc : X.calm = true) (hN : X.N.Nodup) (hy : X.N[i]? = some y) (hyl : X.env.scope.names.lookup y = some .local)
    (hsw : swapsWith (.ListComp elt [⟨tg, iter, ifs, 0⟩] scope pos) (some (.Name y py)) spos.line X.env = pure true) (hi : PI X tg iter wi) (ok : BlkOk X.N X.env.scope scope own)
    (hg : ∀ (s : Shared) (H : Hp) (C : Addr) (cl : List (Str × Addr)) (fp : List Addr), PG (X.blk s H scope (compEnvC scope cl C X.env) fp) tg (g s H C cl fp)) (ht : ∀ (s : Shared) (H : Hp) (C : Addr) (cl : List (Str × Addr)) (fp : List Addr), PTs (X.blk s H scope (compEnvC scope cl C X.env) fp) ifs (tt s H C cl fp))
    (he : ∀ (s : Shared) (H : Hp) (C : Addr) (cl : List (Str × Addr)) (fp : List Addr), PE (X.blk s H scope (compEnvC scope cl C X.env) fp) elt (te s H C cl fp)) (hs : ∀ x, foldedSetIterable iter X.env x = pure x := by intro _; rfl)
    (eg : ∀ s H C cl fp, g s H C cl fp = Blk.at0 X g := by intro _ _ _ _ _; rfl) (et : ∀ s H C cl fp, tt s H C cl fp = Blk.at0 X tt := by intro _ _ _ _ _; rfl) (ee : ∀ s H C cl fp, te s H C cl fp = Blk.at0 X te := by intro _ _ _ _ _; rfl) :
    PS X (.Assign [.Name y py] (.ListComp elt [⟨tg, iter, ifs, 0⟩] scope pos) spos) (tAsg (tLc wi (Blk.at0 X g) (Blk.at0 X tt) (Blk.at0 X te) (own.map (·.2))) (gName i)) :=
  ps_setLc hc hN hy hyl hsw hi ok (fun s H C cl fp => eg s H C cl fp ▸ hg s H C cl fp) (fun s H C cl fp => et s H C cl fp ▸ ht s H C cl fp) (fun s H C cl fp => ee s H C cl fp ▸ he s H C cl fp) hs
end
end LD
/-! Answers that hold new lists of their own, and what a caller does to these lists. -/
namespace LD
open PySem PySem.Spec L2 Evl LSt
abbrev Part := PyData ⊕ List PyData
def Part.toD : Part → PyData
  | .inl d => d
  | .inr ds => .list ds
/-- a tuple's items: data without lists, or lists that were not there before -/
inductive PsOk (K : PySem.W.Frag) (Hb H : Hp) : List Addr → List V → List Part → Prop
  | nil : PsOk K Hb H [] [] []
  | dat {L : List Addr} {v : V} {vs : List V} {d : PyData} {ps : List Part} : Rp K H v d → lfree d = true → PsOk K Hb H L vs ps → PsOk K Hb H L (v :: vs) (.inl d :: ps)
  | own {L : List Addr} {l : Addr} {xs vs : List V} {ds : List PyData} {ps : List Part} : Hb l = none → H l = some (.lst xs) → RpAll K H xs ds → lfreeAll ds = true → l ∉ L → PsOk K Hb H L vs ps → PsOk K Hb H (l :: L) (.ref l :: vs) (.inr ds :: ps)
section
variable {K : PySem.W.Frag} {Hb Hb0 H H' : Hp} {L : List Addr} {vs : List V} {ps : List Part}
theorem PsOk.rpAll (h : PsOk K Hb H L vs ps) : RpAll K H vs (ps.map Part.toD) := by
  induction h with
  | nil => exact .nil
  | dat r _ _ ih => exact .cons r ih
  | own _ h1 r _ _ _ ih => exact .cons (.lst h1 r) ih
theorem PsOk.mono (e : Ex H H') (h : PsOk K Hb H L vs ps) : PsOk K Hb H' L vs ps := by
  induction h with
  | nil => exact .nil
  | dat r f _ ih => exact .dat (r.mono e) f ih
  | own h0 h1 r f n _ ih => exact .own h0 (e _ _ h1) (r.mono e) f n ih
theorem PsOk.base (e : Ex Hb0 Hb) (h : PsOk K Hb H L vs ps) : PsOk K Hb0 H L vs ps := by
  induction h with
  | nil => exact .nil
  | dat r f _ ih => exact .dat r f ih
  | own h0 h1 r f n _ ih => exact .own (fresh_back e h0) h1 r f n ih
theorem PsOk.keep {l : Addr} {xs : List V} {o : HO} (hl : H l = some (.lst xs)) (h : PsOk K Hb H L vs ps) (n : l ∉ L) : PsOk K Hb (upd H l o) L vs ps := by
  induction h with
  | nil => exact .nil
  | dat r f _ ih => exact .dat (rp_upd hl r f) f (ih n)
  | own h0 h1 r f k _ ih =>
    have n1 : _ ≠ l := fun e => n (by rw [← e]; exact List.mem_cons_self)
    exact .own h0 (by rw [upd_ne n1]; exact h1) (rpAll_upd hl r f) f k (ih fun m => n (List.mem_cons_of_mem _ m))
theorem PsOk.get {j : Nat} {ds : List PyData} (h : PsOk K Hb H L vs ps) (hj : ps[j]? = some (.inr ds)) : ∃ l xs, vs[j]? = some (.ref l) ∧ l ∈ L ∧ Hb l = none ∧ H l = some (.lst xs) ∧ RpAll K H xs ds ∧
    ∀ (y : V) (d : PyData), Rp K H y d → lfree d = true → PsOk K Hb (upd H l (.lst (xs ++ [y]))) L vs (ps.set j (.inr (ds ++ [d]))) := by
  induction h generalizing j with
  | nil => simp at hj
  | dat r f k ih =>
    cases j with
    | zero => simp at hj
    | succ j =>
      obtain ⟨l, xs, h1, h2, h3, h4, h5, h6⟩ := ih (j := j) (by simpa using hj)
      exact ⟨l, xs, by simpa using h1, h2, h3, h4, h5, fun y d ry fd => .dat (rp_upd h4 r f) f (h6 y d ry fd)⟩
  | own h0 h1 r f n k ih =>
    cases j with
    | zero =>
      simp at hj
      subst hj
      refine ⟨_, _, rfl, List.mem_cons_self, h0, h1, r, fun y d ry fd => ?_⟩
      refine .own h0 upd_same (RpAll.append (rpAll_upd h1 r f) (.cons (rp_upd h1 ry fd) .nil)) ?_ n (k.keep h1 n)
      rw [lfreeAll_app, f, Bool.true_and]
      show (lfree d && true) = true
      rw [fd]; rfl
    | succ j =>
      obtain ⟨l, xs, g1, g2, g3, g4, g5, g6⟩ := ih (j := j) (by simpa using hj)
      refine ⟨l, xs, by simpa using g1, List.mem_cons_of_mem _ g2, g3, g4, g5, fun y d ry fd => ?_⟩
      have n1 : ∀ z, z ∉ _ → z ≠ l := fun z hz e => hz (e ▸ g2)
      exact .own h0 (by rw [upd_ne (n1 _ n)]; exact h1) (rpAll_upd g4 r f) f n (g6 y d ry fd)
end
/-- the items of a tuple that is built -/
def EvPX (K : PySem.W.Frag) (ta : TA) (env : SE) (o : Bool) (ps : List Part) : Prop := ∀ Hb σ H, StD K Hb H σ env → ∀ H1, Ex H H1 → ∀ Q : List V → Hp → Prop, (∀ L vs H2, Ex H1 H2 → PsOk K Hb H2 L vs ps → (∀ l ∈ L, (o = true ∧ ownAt σ env l) ∨ H1 l = none) → Q vs H2) → ta σ H1 Q
section
variable {K : PySem.W.Frag} {env : SE} {te : TE} {tr : TA} {d : PyData} {ds : List PyData} {ps : List Part} {o : Bool} {t u w : TS} {tt : TT} {out : Out}
theorem ep_nil : EvPX K tNil env false [] := fun Hb σ H s H1 e1 Q q => q [] [] H1 (Ex.refl _) .nil fun l hl => by simp at hl
theorem ep_dat (h : EvX K te env d) (f : lfree d = true) (r : EvPX K tr env o ps) : EvPX K (tCons te tr) env o (.inl d :: ps) := fun Hb σ H s H1 e1 Q q =>
  h Hb σ H s H1 e1 _ fun x H2 e2 rx => r Hb σ H s H2 (e1.trans e2) _ fun L vs H3 e3 k hL => q L _ H3 (e2.trans e3) (.dat (rx.mono e3) f k) fun l hl => (hL l hl).imp id fun z => fresh_back e2 z
theorem ep_new (h : EvFX K te env ds) (f : lfreeAll ds = true) (r : EvPX K tr env o ps) : EvPX K (tCons te tr) env o (.inr ds :: ps) := fun Hb σ H s H1 e1 Q q =>
  h Hb σ H s H1 e1 _ fun p xs Hm H2 hp e2 e3 hm h2 rx => r Hb σ H s H2 ((e1.trans e2).trans e3) _ fun L vs H3 e4 k hL => by
    refine q (p :: L) _ H3 ((e2.trans e3).trans e4) (.own (fresh_back (s.bot.trans e1) hp) (e4 _ _ h2) (rx.mono (e3.trans e4)) f ?_ k) fun l hl => ?_
    · intro m
      rcases hL p m with ⟨_, z⟩ | z
      · obtain ⟨H0, s0⟩ := s
        obtain ⟨_, ys, hy⟩ := s0.own_none z
        have := e1 _ _ hy
        rw [hp] at this
        cases this
      · rw [h2] at z; cases z
    · rcases List.mem_cons.mp hl with e | m
      · subst e; exact .inr hp
      · exact (hL l m).imp id fun z => fresh_back (e2.trans e3) z
theorem ep_own {i : Nat} (h : env[i]? = some (.own ds)) (f : lfreeAll ds = true) (r : EvPX K tr env false ps) : EvPX K (tCons (tVar i) tr) env true (.inr ds :: ps) := fun Hb σ H s H1 e1 Q q => by
  obtain ⟨H0, s0⟩ := id s
  obtain ⟨l, xs, hv, hx, hn, hl, rx⟩ := own_slot s0 h
  refine ⟨.ref l, hv, r Hb σ H s H1 e1 _ fun L vs H3 e4 k hL => q (l :: L) _ H3 e4 (.own (fresh_back s0.base hn) (e4 _ _ (e1 _ _ hl)) ((rx.mono s0.up).mono (e1.trans e4)) f ?_ k) fun m hm => ?_⟩
  · intro m
    rcases hL l m with ⟨z, _⟩ | z
    · cases z
    · rw [e1 _ _ hl] at z; cases z
  · rcases List.mem_cons.mp hm with e | m'
    · subst e
      exact .inl ⟨rfl, i, ds, h, hx⟩
    · rcases hL m m' with ⟨z, _⟩ | z
      · cases z
      · exact .inr z
/-- an answer: a tuple of such items -/
def RT (K : PySem.W.Frag) (ps : List Part) : Hp → V → Hp → Prop := fun Hm v H => ∃ t L vs, v = .ref t ∧ H t = some (.tup vs) ∧ PsOk K Hm H L vs ps
theorem RT.rp {Hm H : Hp} {v : V} (h : RT K ps Hm v H) : Rp K H v (.tuple (ps.map Part.toD)) := by
  obtain ⟨t, L, vs, rfl, h1, h2⟩ := h
  exact .tup h1 h2.rpAll
theorem rx_retT (h : EvPX K tr env o ps) (hl : ps.length ≤ 100000) : RunX K (tRet (tTup tr)) env (.rq (RT K ps)) := fun Hb σ H D s g =>
  h Hb σ H s H (Ex.refl _) _ fun L vs H2 e2 k _ => by
    have e := k.rpAll.length
    rw [List.length_map] at e
    exact ⟨sz_of (by rw [e]; exact hl), fun p hp => g Hb _ _ (Ex.refl _) ((s.bot.trans e2).trans (Ex.new hp)) ⟨p, L, vs, rfl, upd_same, k.mono (Ex.new hp)⟩⟩
/-- the caller's frame: slot i holds the answer, its lists are the caller's own -/
def MutS (K : PySem.W.Frag) (Hb : Hp) (env : SE) (i : Nat) (ps : List Part) (σ : St) (H : Hp) : Prop := ∃ Hp t L vs, StD K Hb Hp σ env ∧ Ex Hp H ∧ σ[i]? = some (some (.ref t)) ∧ H t = some (.tup vs) ∧ PsOk K Hp H L vs ps
def RunM (K : PySem.W.Frag) (u : TS) (env : SE) (i : Nat) (ps : List Part) (out : Out) : Prop := ∀ Hb σ H D, MutS K Hb env i ps σ H → Good K Hb D out → u D σ H
theorem MutS.grow {Hb H H' : Hp} {i : Nat} {σ : St} (e : Ex H H') (h : MutS K Hb env i ps σ H) : MutS K Hb env i ps σ H' := by
  obtain ⟨Hp, t, L, vs, h1, h2, h3, h4, h5⟩ := h
  exact ⟨Hp, t, L, vs, h1, h2.trans e, h3, e _ _ h4, h5.mono e⟩
theorem MutS.dat {Hb H : Hp} {i : Nat} {σ : St} (no : noOwn env = true) (h : MutS K Hb env i ps σ H) : StD K Hb H σ (env.set i (.dat (.tuple (ps.map Part.toD)))) := by
  obtain ⟨Hp, t, L, vs, ⟨H0, s⟩, h2, h3, h4, h5⟩ := h
  refine ⟨H, (s.base.trans s.up).trans h2, Ex.refl _, by rw [List.length_set]; exact s.len, fun j sl hj => ?_⟩
  by_cases e : i = j
  · subst e
    have hl : i < env.length := by
      rw [← s.len]
      exact (List.getElem?_eq_some_iff.mp h3).1
    rw [List.getElem?_set_self hl] at hj
    cases hj
    exact ⟨.ref t, by rw [h3]; rfl, .tup h4 h5.rpAll⟩
  · rw [List.getElem?_set_ne e] at hj
    have q := s.at_ j sl hj
    cases sl with
    | no => trivial
    | dat d =>
      obtain ⟨x, q1, q2⟩ := q
      exact ⟨x, q1, q2.mono (s.up.trans h2)⟩
    | own ds =>
      exfalso
      unfold noOwn at no
      rw [List.all_eq_true] at no
      have := no _ (List.mem_of_getElem? hj)
      simp [Sl.isOwn] at this
theorem rx_asgM {i : Nat} (h : EvRX K te env (RT K ps)) (hi : i < env.length) (k : RunM K u (env.set i .no) i ps out) : RunX K (tSeq (tAsg te (gName i)) u) env out := fun Hb σ H D s g =>
  h Hb σ H s _ fun Hm v H' e1 e2 r => by
    obtain ⟨t, L, vs, rfl, ht, pk⟩ := r
    refine k Hb (σ.set i (some (.ref t))) H' D ⟨H, t, L, vs, ?_, e1.trans e2, ?_, ht, pk.base e1⟩ g
    · obtain ⟨H0, s0⟩ := s
      exact ⟨H0, s0.forget⟩
    · obtain ⟨H0, s0⟩ := s
      rw [List.getElem?_set_self (by rw [s0.len]; exact hi)]
theorem rm_ifS {i : Nat} {b : Bool} (no : noOwn env = true) (h : EvTX K tt (env.set i (.dat (.tuple (ps.map Part.toD)))) b) (h1 : b = true → RunM K (tSeq t w) env i ps out) (h2 : b = false → RunM K (tSeq u w) env i ps out) : RunM K (tSeq (tIfS tt t u) w) env i ps out := fun Hb σ H D s g =>
  h Hb σ H (s.dat no) H (Ex.refl H) _ fun H1 e => by
    cases b with
    | true =>
      show tSeq t w D σ H1
      exact h1 rfl Hb σ H1 D (s.grow e) g
    | false =>
      show tSeq u w D σ H1
      exact h2 rfl Hb σ H1 D (s.grow e) g
theorem rm_nextS {i : Nat} (h : RunM K w env i ps out) : RunM K (tSeq tNext w) env i ps out := h
theorem rm_drop {i : Nat} (h : RunX K u env out) : RunM K u env i ps out := fun Hb σ H D s g => by
  obtain ⟨Hp, t, L, vs, h1, h2, _⟩ := s
  exact h Hb σ H D (h1.grow h2) g
theorem rm_dat {i : Nat} (no : noOwn env = true) (h : RunX K u (env.set i (.dat (.tuple (ps.map Part.toD)))) out) : RunM K u env i ps out := fun Hb σ H D s g => h Hb σ H D (s.dat no) g
theorem rm_app {i j : Nat} (hj : ps[j]? = some (.inr ds)) (no : noOwn env = true) (he : EvX K te (env.set i (.dat (.tuple (ps.map Part.toD)))) d) (hd : lfree d = true) (hz : ds.length < 100000) (k : RunM K u env i (ps.set j (.inr (ds ++ [d]))) out) :
    RunM K (tSeq (tDrop (tBM K "list" rAppend (tOp (rIx K) (tVar i) (tC (.int (j : Nat)))) (tCons te tNil))) u) env i ps out := fun Hb σ H D s g => by
  obtain ⟨Hp, t, L, vs, h1, h2, h3, h4, h5⟩ := id s
  obtain ⟨l, xs, g1, g2, g3, g4, g5, _⟩ := h5.get hj
  refine ⟨.ref t, h3, ?_⟩
  refine .inr (.inl ⟨t, vs, (j : Nat), .ref l, rfl, rfl, .inl (.inl h4), atI_nat g1, ?_⟩)
  refine ⟨.inl ⟨rfl, xs, .inl (.inl g4)⟩, he Hb σ H (s.dat no) H (Ex.refl H) _ fun y H1 e ry => ?_⟩
  obtain ⟨l', xs', k1, k2, k3, k4, k5, k6⟩ := (h5.mono e).get hj
  rw [g1] at k1
  cases k1
  refine ⟨l, xs', y, rfl, rfl, k4, sz_lt (by rw [k5.length]; exact hz), k Hb σ _ D ⟨Hp, t, L, vs, h1, Ex.mut (h2.trans e) g3, h3, ?_, k6 y d ry hd⟩ g⟩
  rw [upd_ne]
  · exact e _ _ h4
  · intro z
    subst z
    rw [h4] at g4
    cases g4
end
section
variable {K : PySem.W.Frag} {env : SE} {te tl : TE} {tt : TT} {ds es : List PyData} {t u : TS} {out : Out}
/-- [elt for target in tuple if ..] -/
theorem xf_lcT {α : Type} {g : TG} {vs : List Nat} (items : List α) (inj : α → PyData) (f : α → Bool) (h : α → PyData) (envb : α → SE) (hl : EvX K tl env (.tuple (items.map inj))) (no : noOwn env = true) (hz : items.length < 100000)
    (hg : ∀ a ∈ items, CgX K g vs (wipeE env vs) (inj a) (envb a)) (ht : ∀ a ∈ items, EvTX K tt (envb a) (f a)) (he : ∀ a ∈ items, f a = true → EvX K te (envb a) (h a)) (hf : ∀ a ∈ items, f a = true → lfree (h a) = true) :
    EvFX K (tLc (iTup K tl) g tt te vs) env (lcRes f h items) := fun Hb σ H s H1 e1 Q q =>
  hl Hb σ H s H1 e1 _ fun v H2 e2 r => by
    have sg := ((s.grow e1).grow e2).widen
    obtain ⟨a, xs, rfl, ha, ra⟩ := (rp_ground sg r (by rw [no, Bool.true_or])).tup_inv
    have eg : Ex (cutH H2 (ownAt σ env)) H2 := cutH_ex
    have ge : cutH H2 (ownAt σ env) = H2 := by
      funext b
      exact cutH_out (noOwn_not no)
    rw [ge] at sg ha ra
    refine ⟨a, rfl, ⟨xs, .inl (.inl ha)⟩, fun Dl hD => ?_⟩
    refine lc_tup (xs := xs) (fun i H' => Ex H2 H' ∧ ∃ ys, H' Dl = some (.lst ys) ∧ RpAll K H' ys (lcRes f h (items.take i))) ⟨Ex.new hD, [], upd_same, .nil⟩ ?_ ?_ ?_
    · rintro i H' _ ⟨e, _⟩
      exact .inl (.inl (e _ _ ha))
    · rintro i x H' hi ⟨e, hacc⟩
      obtain ⟨d, hd, rd⟩ := ra.getV hi
      rw [List.getElem?_map] at hd
      cases ka : items[i]? with
      | none => rw [ka] at hd; cases hd
      | some b =>
        rw [ka] at hd
        cases hd
        have hb : b ∈ items := List.mem_of_getElem? ka
        have es : lcRes f h (items.take (i + 1)) = lcRes f h (items.take i) ++ if f b = true then [h b] else [] := by rw [take_snoc ka, lcRes_snoc]
        rw [es]
        refine lc_turn (items := items) (i := i) sg e hD hacc (lfree_lcRes fun c hc => hf c (List.mem_of_mem_take hc)) ?_ no rd (hg b hb) (ht b hb) (he b hb) (hf b hb) (fun acc H' => Ex H2 H' ∧ ∃ ys, H' Dl = some (.lst ys) ∧ RpAll K H' ys acc) fun H3 e3 h3 => ⟨e3, h3⟩
        refine Nat.lt_of_le_of_lt (Nat.le_trans (lcRes_len f h _) ?_) hz
        rw [List.length_take]
        omega
    · rintro H' ⟨e, ys, hy, ry⟩
      have hx := ra.length
      rw [List.length_map] at hx
      rw [hx, List.take_length] at ry
      refine q Dl ys (cutH H' fun b => b = Dl) H' (fresh_back e2 hD) ?_ cutH_ex (cutH_in rfl) hy ?_
      · intro b o hb
        rw [cutH_out]
        · exact e _ _ (e2 _ _ hb)
        · intro k
          subst k
          rw [e2 _ _ hb] at hD
          cases hD
      · refine ry.cut (fun b zs hb => ?_) (lfree_lcRes hf)
        rw [cutH_out]
        · exact hb
        · intro k
          subst k
          rw [hy] at hb
          cases hb
/-- the frame's own list as data: it grows no more -/
theorem rx_settle {i : Nat} (h : env[i]? = some (.own ds)) (one : noOwn (env.set i .no) = true) (k : RunX K t (env.set i (.dat (.list ds))) out) : RunX K t env out := fun Hb σ H D s g => by
  refine k Hb σ H D ?_ g
  obtain ⟨H0, s0⟩ := s
  refine ⟨H, s0.base.trans s0.up, Ex.refl _, by rw [List.length_set]; exact s0.len, fun j sl hj => ?_⟩
  by_cases e : i = j
  · subst e
    have hl : i < env.length := (List.getElem?_eq_some_iff.mp h).1
    rw [List.getElem?_set_self hl] at hj
    cases hj
    obtain ⟨l, xs, hx, hn, h1, r⟩ := s0.at_ i _ h
    exact ⟨.ref l, hx, .lst h1 (r.mono s0.up)⟩
  · rw [List.getElem?_set_ne e] at hj
    have q := s0.at_ j sl hj
    cases sl with
    | no => trivial
    | dat d =>
      obtain ⟨x, q1, q2⟩ := q
      exact ⟨x, q1, q2.mono s0.up⟩
    | own ds =>
      exfalso
      unfold noOwn at one
      rw [List.all_eq_true] at one
      have := one (.own ds) (List.mem_of_getElem? (i := j) (by rw [List.getElem?_set_ne e]; exact hj))
      simp [Sl.isOwn] at this
/-- a statement that leaves something of which only a property counts -/
theorem rx_seqE {α : Type} {P : α → Prop} {e : α → SE} (h : ∃ a, P a ∧ RunX K t env (.nx (e a))) (k : ∀ a, P a → RunX K u (e a) out) : RunX K (tSeq t u) env out := by
  obtain ⟨a, h1, h2⟩ := h
  exact rx_seq h2 (k a h1)
/-- a list of ints, or the script -/
def SeqI (ns : List Int) (d : PyData) : Prop := d = scrD ns ∨ d = .list (ns.map .int)
theorem ex_ixI {ta tb : TE} {d : PyData} {ns : List Int} {i n : Int} (hs : SeqI ns d) (ha : EvX K ta env d) (hb : EvX K tb env (.int i)) (h : atI ns i = some n) : EvX K (tOp (rIx K) ta tb) env (.int n) := by
  rcases hs with e | e
  · subst e
    exact ex_ixScr ha hb h
  · subst e
    refine ex_ixL ha hb ?_
    unfold atI at *
    rw [List.length_map]
    cases k : ixN ns.length i with
    | none => rw [k] at h; cases h
    | some j =>
      rw [k] at h
      show (ns.map PyData.int)[j]? = _
      rw [List.getElem?_map]
      have h' : ns[j]? = some n := h
      rw [h']
      rfl
theorem ex_lenI {d : PyData} {ns : List Int} (hs : SeqI ns d) (ha : EvX K te env d) : EvX K (tCB (fun xs H Q => ∃ x n, xs = [x] ∧ LenV K x H n ∧ Q (.int n) H) (tCons te tNil)) env (.int ns.length) := by
  rcases hs with e | e
  · subst e
    refine ex_len ha ?_
    unfold scrD lenD
    simp
  · subst e
    refine ex_len ha ?_
    unfold lenD
    simp
/-- xs.insert(j, e), xs the frame's one own list -/
theorem rx_ins {i : Nat} {j : Int} {d : PyData} {ti : TE} (h : env[i]? = some (.own ds)) (hi : EvX K ti env (.int j)) (he : EvX K te env d) (hj : 0 ≤ j ∧ j < 1000000) (hd : lfree d = true) (hz : ds.length < 100000) (one : noOwn (env.set i .no) = true) :
    RunX K (tDrop (tBM K "list" (fun x vs H Q => ∃ (l : Addr) (xs : List V) (i : Int) (y : V), x = .ref l ∧ vs = [.int i, y] ∧ H l = some (.lst xs) ∧ xs.length < sizeLine ∧ 0 ≤ i ∧ i < 2 ^ 63 ∧ Q .non (upd H l (.lst (xs.take i.toNat ++ [y] ++ xs.drop i.toNat)))) (tVar i) (tCons ti (tCons te tNil)))) env (.nx (env.set i (.own (ds.take j.toNat ++ [d] ++ ds.drop j.toNat)))) := fun Hb σ H D s g => by
  have s0 := s.widen
  obtain ⟨l, xs, hv, hx, hn, hl, r⟩ := own_slot s0 h
  refine ⟨.ref l, hv, .inl ⟨rfl, xs, .inl (.inl hl)⟩, hi Hb σ H s H (Ex.refl H) _ fun w H0 e0 rw => he Hb σ H s H0 e0 _ fun v H1 e rv => ?_⟩
  have s1 := (s.grow (e0.trans e)).widen
  obtain ⟨l', xs', hv', hx', hn', hl', r'⟩ := own_slot s1 h
  rw [hv] at hv'
  cases hv'
  rw [rw.int_inv]
  refine ⟨l, xs', j, v, rfl, rfl, hl', sz_lt (by rw [r'.length]; exact hz), hj.1, by omega, g _ _ ⟨_, s1.store hx hn' ?_ one (((r'.take j.toNat).append (.cons (rp_ground s1 rv (by rw [hd, Bool.or_true])) .nil)).append (r'.drop j.toNat))⟩⟩
  exact (List.getElem?_eq_some_iff.mp h).1
theorem StD.settle {Hb H : Hp} {σ : St} {i : Nat} (h : env[i]? = some (.own ds)) (one : noOwn (env.set i .no) = true) (s : StD K Hb H σ env) : StD K Hb H σ (env.set i (.dat (.list ds))) := by
  obtain ⟨H0, s0⟩ := s
  refine ⟨H, s0.base.trans s0.up, Ex.refl _, by rw [List.length_set]; exact s0.len, fun j sl hj => ?_⟩
  by_cases e : i = j
  · subst e
    have hl : i < env.length := (List.getElem?_eq_some_iff.mp h).1
    rw [List.getElem?_set_self hl] at hj
    cases hj
    obtain ⟨l, xs, hx, hn, h1, r⟩ := s0.at_ i _ h
    exact ⟨.ref l, hx, .lst h1 (r.mono s0.up)⟩
  · rw [List.getElem?_set_ne e] at hj
    have q := s0.at_ j sl hj
    cases sl with
    | no => trivial
    | dat d =>
      obtain ⟨x, q1, q2⟩ := q
      exact ⟨x, q1, q2.mono s0.up⟩
    | own ds =>
      exfalso
      unfold noOwn at one
      rw [List.all_eq_true] at one
      have := one (.own ds) (List.mem_of_getElem? (i := j) (by rw [List.getElem?_set_ne e]; exact hj))
      simp [Sl.isOwn] at this
/-- a value reckoned beside the frame's own list -/
theorem ex_settle {i : Nat} {d : PyData} (h : env[i]? = some (.own ds)) (one : noOwn (env.set i .no) = true) (k : EvX K te (env.set i (.dat (.list ds))) d) : EvX K te env d := fun Hb σ H s => k Hb σ H (s.settle h one)
theorem xf_settle {i : Nat} (h : env[i]? = some (.own ds)) (one : noOwn (env.set i .no) = true) (k : EvFX K te (env.set i (.dat (.list ds))) es) : EvFX K te env es := fun Hb σ H s => k Hb σ H (s.settle h one)
/-- a new list as data, beside the frame's own list -/
theorem rx_asgN {i : Nat} (h : EvFX K te env es) (f : lfreeAll es = true) : RunX K (tAsg te (gName i)) env (.nx (env.set i (.dat (.list es)))) := fun Hb σ H D s g =>
  h Hb σ H s H (Ex.refl H) _ fun p xs Hm H1 hp e1 e2 hm h1 r => by
    have sg := ((s.grow e1).grow e2).widen
    refine g _ H1 ⟨_, sg.set (s := .dat (.list es)) ⟨.ref p, rfl, .lst ?_ (rpAll_ground sg (r.mono e2) (by rw [f, Bool.or_true]))⟩⟩
    rw [cutH_out]
    · exact h1
    · intro q
      obtain ⟨H0, s0⟩ := s
      obtain ⟨_, ys, hy⟩ := s0.own_none q
      rw [hp] at hy
      cases hy
/-- an answer: none, or a tuple of such items -/
def RO (K : PySem.W.Frag) : Option (List Part) → Hp → V → Hp → Prop
  | none => fun _ v _ => v = .non
  | some ps => RT K ps
abbrev outR (K : PySem.W.Frag) (o : Option (List Part)) (e : SE) : Out := match o with
  | some ps => .rq (RT K ps)
  | none => .nx e
/-- found = ..; if found is not None: return found -/
theorem rx_foundR {i : Nat} {o : Option (List Part)} (h : EvRX K te env (RO K o)) (hi : i < env.length) :
    RunX K (tSeq (tAsg te (gName i)) (tIfS (tTest (tOp (fun x y H Q => y = .non ∧ Q (.bl (!decide (x = .non))) H) (tVar i) (tC .non))) (tRet (tVar i)) tNext)) env (outR K o (env.set i .no)) := fun Hb σ H D s g =>
  h Hb σ H s _ fun Hm v H' e1 e2 r => by
    have hs : (σ.set i (some v))[i]? = some (some v) := by
      obtain ⟨H0, s0⟩ := s
      rw [List.getElem?_set_self (by rw [s0.len]; exact hi)]
    cases o with
    | none =>
      have hv : v = .non := r
      subst hv
      refine ⟨.non, hs, rfl, false, rfl, g _ _ ?_⟩
      obtain ⟨H0, s0⟩ := s.grow (e1.trans e2)
      exact ⟨H0, s0.forget⟩
    | some ps =>
      obtain ⟨t, L, vs, rfl, ht, pk⟩ := r
      refine ⟨.ref t, hs, rfl, true, rfl, .ref t, hs, g Hb _ _ (Ex.refl _) ((s.bot.trans e1).trans e2) ⟨t, L, vs, rfl, ht, pk.base (s.bot.trans e1)⟩⟩
theorem fr_findR {α : Type} {g : TG} {tb : TS} (inj : α → PyData) (f : α → Option (List Part)) (env : SE) (items : List α)
    (h : ∀ a ∈ items, ∃ e1, TgX K g env (inj a) e1 ∧ RunX K tb e1 (outR K (f a) env)) : Fr K g tb (items.map inj) env (outR K (items.findSome? f) env) := by
  induction items with
  | nil => exact .done
  | cons a items ih =>
    obtain ⟨e1, h1, h2⟩ := h a (by simp)
    rw [List.findSome?_cons]
    cases k : f a with
    | some d =>
      rw [k] at h2
      exact .rq h1 h2
    | none =>
      rw [k] at h2
      exact .turn h1 h2 (ih fun b hb => h b (List.mem_cons_of_mem _ hb))
theorem rx_postR {e e' : SE} {o : Option (List Part)} (h : RunX K t env (outR K o e)) (k : ∀ Hb H σ, StD K Hb H σ e → StD K Hb H σ e') : RunX K t env (outR K o e') := by
  cases o with
  | none => exact fun Hb σ H D s g => h Hb σ H D s fun σ' H' s' => g σ' H' (k _ _ _ s')
  | some d => exact h
/-- a search, then what stands behind it -/
theorem rx_findR {e : SE} {o : Option (List Part)} (h : RunX K t env (outR K o e)) (h1 : ∀ ps, o = some ps → out = .rq (RT K ps)) (h2 : o = none → RunX K u e out) : RunX K (tSeq t u) env out := by
  cases o with
  | some d =>
    rw [h1 d rfl]
    exact rx_end h rfl
  | none => exact rx_seq h (h2 rfl)
/-- y = [..]; return (text, data, x, y): x and y the frame's own lists -/
theorem rx_two {i j : Nat} {x : Str} {t1 : TE} {d : PyData} (h : env[i]? = some (.own ds)) (f : lfreeAll ds = true) (hij : i ≠ j) (hj : j < env.length) (h2 : EvFX K te env es) (f2 : lfreeAll es = true) (h1 : EvX K t1 (env.set j .no) d) (f1 : lfree d = true) :
    RunX K (tSeq (tAsg te (gName j)) (tRet (tTup (tCons (tC (.str x)) (tCons t1 (tCons (tVar i) (tCons (tVar j) tNil))))))) env (.rq (RT K [.inl (.str x), .inl d, .inr ds, .inr es])) := fun Hb σ H D s g =>
  h2 Hb σ H s H (Ex.refl H) _ fun p xs Hm H1 hp e1 e2 hm hx rx => by
    obtain ⟨H0, s0⟩ := id s
    obtain ⟨l, ys, hv, hvj, hn, hl, ry⟩ := own_slot s0 h
    have hi' : (σ.set j (some (.ref p)))[i]? = some (some (.ref l)) := by rw [List.getElem?_set_ne (Ne.symm hij)]; exact hv
    have hj' : (σ.set j (some (.ref p)))[j]? = some (some (.ref p)) := by rw [List.getElem?_set_self (by rw [s0.len]; exact hj)]
    have st : StD K Hb H1 (σ.set j (some (.ref p))) (env.set j .no) := by
      obtain ⟨H0', s1⟩ := s.grow (e1.trans e2)
      exact ⟨H0', s1.forget⟩
    refine h1 Hb _ H1 st H1 (Ex.refl _) _ fun v H2 e3 rv => ?_
    refine ⟨.ref l, hi', .ref p, hj', sz_of (by simp), fun q hq => ?_⟩
    have e4 : Ex H (upd H2 q (.tup [.str x, v, .ref l, .ref p])) := ((e1.trans e2).trans e3).trans (Ex.new hq)
    have e5 : Ex H1 (upd H2 q (.tup [.str x, v, .ref l, .ref p])) := e3.trans (Ex.new hq)
    refine g Hb _ _ (Ex.refl _) (s.bot.trans e4) ⟨q, [l, p], _, rfl, upd_same, ?_⟩
    refine .dat (.str x) rfl (.dat (rv.mono (Ex.new hq)) f1 (.own (fresh_back s0.base hn) (e4 _ _ hl) ((ry.mono s0.up).mono e4) f ?_ (.own (fresh_back s.bot hp) (e5 _ _ hx) (rx.mono (e2.trans e5)) f2 (by simp) .nil)))
    intro m
    rw [List.mem_singleton.mp m, hp] at hl
    cases hl
end
end LD
namespace LD
open PySem PySem.Spec L2 Evl LSt
theorem rm_assoc {K : PySem.W.Frag} {env : SE} {t u w : TS} {i : Nat} {ps : List Part} {out : Out} (h : RunM K (tSeq t (tSeq u w)) env i ps out) : RunM K (tSeq (tSeq t u) w) env i ps out := h
theorem rx_assocL {K : PySem.W.Frag} {env : SE} {t u w : TS} {out : Out} (h : RunX K (tSeq t (tSeq u w)) env out) : RunX K (tSeq (tSeq t u) w) env out := h
end LD
namespace LD
open PySem PySem.Spec L2 Evl LSt
/-- t[lo:hi] of a tuple, not the whole of it -/
theorem ex_slT {K : PySem.W.Frag} {env : SE} {te : TE} {ds : List PyData} {tl th : TO} {lo hi : Option Int} (h : EvX K te env (.tuple ds)) (h1 : EvOX K tl env lo) (h2 : EvOX K th env hi) (hn : ¬ (HT.sIx ds.length 0 lo = 0 ∧ HT.sIx ds.length ds.length hi = ds.length)) : EvX K (tSl (rSlT K) te tl th) env (.tuple (cutD ds lo hi)) := fun Hb σ H s H1 e1 Q q =>
  h Hb σ H s H1 e1 _ fun v H2 e2 r => h1 Hb σ H s H2 (e1.trans e2) _ fun H3 e3 => h2 Hb σ H s H3 ((e1.trans e2).trans e3) _ fun H4 e4 => by
    obtain ⟨a, xs, rfl, hv, rx⟩ := r.tup_inv
    have hv4 := e4 _ _ (e3 _ _ hv)
    refine ⟨a, xs, rfl, .inl (.inl hv4), by rw [rx.length]; exact hn, fun p hp => q _ _ (((e2.trans e3).trans e4).trans (Ex.new hp)) (.tup upd_same ?_)⟩
    have r4 := (rx.mono (e3.trans e4)).mono (Ex.new (o := .tup (cutV xs lo hi)) hp)
    have hl := rx.length
    unfold cutD
    rw [← hl]
    exact (r4.drop _).take _
end LD
/-! A loop over a literal list of lists of ints, each the turn's own. -/
namespace LD
open PySem PySem.Spec L2 Evl LSt
inductive LitOk (H : Hp) : List Addr → List (List Int) → Prop
  | nil : LitOk H [] []
  | cons {l : Addr} {ls : List Addr} {ns : List Int} {lits : List (List Int)} : H l = some (.lst (ns.map V.int)) → LitOk H ls lits → LitOk H (l :: ls) (ns :: lits)
theorem LitOk.mono {H H' : Hp} (e : Ex H H') {ls : List Addr} {lits : List (List Int)} (h : LitOk H ls lits) : LitOk H' ls lits := by
  induction h with
  | nil => exact .nil
  | cons h _ ih => exact .cons (e _ _ h) ih
theorem LitOk.length {H : Hp} {ls : List Addr} {lits : List (List Int)} (h : LitOk H ls lits) : ls.length = lits.length := by
  induction h with
  | nil => rfl
  | cons _ _ ih => rw [List.length_cons, List.length_cons, ih]
theorem LitOk.get {H : Hp} {ls : List Addr} {lits : List (List Int)} (h : LitOk H ls lits) : ∀ {k : Nat} {l : Addr}, ls[k]? = some l → ∃ ns, lits[k]? = some ns ∧ H l = some (.lst (ns.map V.int)) := by
  induction h with
  | nil => intro k l h; simp at h
  | cons h _ ih =>
    intro k l hk
    cases k with
    | zero =>
      simp at hk
      subst hk
      exact ⟨_, rfl, h⟩
    | succ k =>
      obtain ⟨ns, h1, h2⟩ := ih (k := k) (by simpa using hk)
      exact ⟨ns, by simpa using h1, h2⟩
theorem LitOk.cut {H : Hp} {l : Addr} {ls : List Addr} {lits : List (List Int)} (h : LitOk H ls lits) (n : ∀ l' ∈ ls, l' ≠ l) : LitOk (cutH H fun b => b = l) ls lits := by
  induction h with
  | nil => exact .nil
  | cons h _ ih =>
    refine .cons ?_ (ih fun l' hl' => n l' (List.mem_cons_of_mem _ hl'))
    rw [cutH_out (L := fun b => b = l) (n _ List.mem_cons_self)]
    exact h
def EvLL (K : PySem.W.Frag) (ta : TA) (env : SE) (lits : List (List Int)) : Prop := ∀ Hb σ H, StD K Hb H σ env → ∀ H1, Ex H H1 → ∀ Q : List V → Hp → Prop, (∀ ls H2, Ex H1 H2 → ls.Nodup → (∀ l ∈ ls, H1 l = none) → LitOk H2 ls lits → Q (ls.map V.ref) H2) → ta σ H1 Q
section
variable {K : PySem.W.Frag} {env : SE} {te : TE} {tr ta : TA} {tb : TS} {lits : List (List Int)} {ns : List Int}
theorem el_nil : EvLL K tNil env [] := fun Hb σ H s H1 e1 Q q => q [] H1 (Ex.refl _) List.nodup_nil (fun l hl => by simp at hl) .nil
theorem el_cons (h : EvFX K te env (ns.map PyData.int)) (r : EvLL K tr env lits) : EvLL K (tCons te tr) env (ns :: lits) := fun Hb σ H s H1 e1 Q q =>
  h Hb σ H s H1 e1 _ fun p xs Hm H2 hp e2 e3 hm h2 rx => r Hb σ H s H2 ((e1.trans e2).trans e3) _ fun ls H3 e4 nd fr ok => by
    rw [rx.ints] at h2
    refine q (p :: ls) H3 ((e2.trans e3).trans e4) (List.nodup_cons.mpr ⟨fun m => ?_, nd⟩) (fun l hl => ?_) (.cons (e4 _ _ h2) ok)
    · have := fr p m
      rw [h2] at this
      cases this
    · rcases List.mem_cons.mp hl with e | m
      · rw [e]; exact hp
      · exact fresh_back (e2.trans e3) (fr l m)
/-- points stand without a list that holds ints -/
theorem rp_pts_cut {H : Hp} {v : V} {ps : List (Int × Int)} {l : Addr} {ns : List Int} (hl : H l = some (.lst (ns.map V.int))) (hn : ns ≠ []) (r : Rp K H v (ptsD ps)) : Rp K (cutH H fun b => b = l) v (ptsD ps) := by
  obtain ⟨a, xs, rfl, ha, rx⟩ := r.lst_inv
  have tup : ∀ a xs, H a = some (.tup xs) → cutH H (fun b => b = l) a = some (.tup xs) := fun b ys hb => by
    rw [cutH_out]
    · exact hb
    · intro e
      rw [e, hl] at hb
      cases hb
  refine .lst (a := a) (xs := xs) ?_ (rx.cut tup (lfree_pts ps))
  rw [cutH_out]
  · exact ha
  · intro e
    rw [e, hl] at ha
    cases ns with
    | nil => exact hn rfl
    | cons n ns =>
      have hx : xs = V.int n :: ns.map V.int := by
        injection ha with ha
        injection ha with ha
        exact ha.symm
      subst hx
      cases ps with
      | nil => cases rx
      | cons p ps =>
        cases rx with
        | cons r _ =>
          obtain ⟨b, hb, _⟩ := Rp.pt r
          cases hb
/-- a frame of points alone -/
def ptsOnly (env : SE) : Prop := ∀ s ∈ env, s = .no ∨ ∃ ps, s = .dat (ptsD ps)
theorem rx_forL {i : Nat} {f : List Int → Option (List Part)} (h : EvLL K ta env lits) (po : ptsOnly env) (hl : lits.length ≤ 1000) (hi : env[i]? = some .no) (hne : ∀ ns ∈ lits, ns ≠ []) (hb : ∀ ns ∈ lits, RunX K tb (env.set i (.own (ns.map PyData.int))) (outR K (f ns) env)) :
    RunX K (tFor (iList K (tLst ta)) (gName i) tb) env (outR K (lits.findSome? f) env) := fun Hb σ H D s gd =>
  h Hb σ H s H (Ex.refl H) _ fun ls H2 e2 nd fr ok => by
    have hlen := ok.length
    refine ⟨sz_of (by rw [List.length_map]; omega), fun a hal => ?_⟩
    refine ⟨a, rfl, ⟨ls.map V.ref, .inl (.inl upd_same)⟩, ?_⟩
    have e3 : Ex H2 (upd H2 a (.lst (ls.map V.ref))) := Ex.new hal
    have hbn : ∀ l ∈ ls, Hb l = none := fun l hl => fresh_back s.bot (fr l hl)
    refine for_list (xs := ls.map V.ref) (fun k σ' H' => StD K Hb H' σ' env ∧ H' a = some (.lst (ls.map V.ref)) ∧ LitOk H' (ls.drop k) (lits.drop k) ∧ (lits.drop k).findSome? f = lits.findSome? f) ⟨s.grow (e2.trans e3), upd_same, by rw [List.drop_zero, List.drop_zero]; exact ok.mono e3, by rw [List.drop_zero]⟩ ?_ ?_ ?_
    · rintro k σ' H' _ ⟨_, h1, _⟩
      exact .inl (.inl h1)
    · rintro k v σ' H' hk ⟨st, h1, okk, hf⟩
      rw [List.getElem?_map] at hk
      cases hlk : ls[k]? with
      | none => rw [hlk] at hk; cases hk
      | some l =>
        rw [hlk] at hk
        cases hk
        have hkl : k < ls.length := (List.getElem?_eq_some_iff.mp hlk).1
        have ek : ls.drop k = l :: ls.drop (k + 1) := by
          rw [List.drop_eq_getElem_cons hkl]
          congr 1
          exact (List.getElem?_eq_some_iff.mp hlk).2
        have hkt : k < lits.length := by omega
        have et : lits.drop k = lits[k] :: lits.drop (k + 1) := List.drop_eq_getElem_cons hkt
        rw [ek, et] at okk
        rw [et, List.findSome?_cons] at hf
        have hmem : lits[k] ∈ lits := List.getElem_mem hkt
        generalize lits[k] = ns at okk hf hmem
        cases okk with
        | cons hl' okr =>
          have lm : l ∈ ls := List.mem_of_getElem? hlk
          have lne : ∀ l' ∈ ls.drop (k + 1), l' ≠ l := fun l' hl2 e => by
            have nd2 : (ls.drop k).Nodup := List.Nodup.sublist (List.drop_sublist _ _) nd
            rw [ek] at nd2
            exact (List.nodup_cons.mp nd2).1 (e ▸ hl2)
          have hal' : a ≠ l := fun e => by
            rw [e, hl'] at h1
            cases ns with
            | nil => exact hne [] hmem rfl
            | cons n ns =>
              injection h1 with h1
              injection h1 with h1
              cases ls with
              | nil => simp at lm
              | cons z zs => injection h1 with h1 _; cases h1
          obtain ⟨H0, s0⟩ := id st
          have eB : Ex (cutH H' fun b => b = l) H' := cutH_ex
          have eHbB : Ex Hb (cutH H' fun b => b = l) := fun b o hbo => by
            rw [cutH_out]
            · exact st.bot _ _ hbo
            · intro e
              rw [e, hbn l lm] at hbo
              cases hbo
          have hil : i < env.length := (List.getElem?_eq_some_iff.mp hi).1
          have stB : StD K (cutH H' fun b => b = l) H' (σ'.set i (some (.ref l))) (env.set i (.own (ns.map PyData.int))) := by
            refine ⟨cutH H' fun b => b = l, Ex.refl _, eB, by rw [List.length_set, List.length_set]; exact s0.len, fun j sl hj => ?_⟩
            by_cases e : i = j
            · subst e
              rw [List.getElem?_set_self hil] at hj
              cases hj
              exact ⟨l, ns.map V.int, join_set_same (by rw [s0.len]; exact hil), cutH_in rfl, hl', RpAll.of_ints ns⟩
            · rw [List.getElem?_set_ne e] at hj
              rw [join_set_ne e]
              have q := s0.at_ j sl hj
              rcases po sl (List.mem_of_getElem? hj) with e2 | ⟨ps, e2⟩
              · subst e2; trivial
              · subst e2
                obtain ⟨x, q1, q2⟩ := q
                exact ⟨x, q1, rp_pts_cut hl' (hne ns hmem) (q2.mono s0.up)⟩
          have keepOk : ∀ {H'' : Hp}, Ex (cutH H' fun b => b = l) H'' → LitOk H'' (ls.drop (k + 1)) (lits.drop (k + 1)) := fun {H''} e => (okr.cut lne).mono e
          refine hb ns hmem (cutH H' fun b => b = l) (σ'.set i (some (.ref l))) H' _ stB ?_
          cases hfn : f ns with
          | none =>
            rw [hfn] at hf
            intro σ2 H3 s3
            refine ⟨s3.base eHbB, ?_, keepOk s3.bot, hf⟩
            refine s3.bot _ _ ?_
            rw [cutH_out (L := fun b => b = l) hal']
            exact h1
          | some ps =>
            rw [hfn] at hf
            rw [← hf] at gd
            intro Hm v H3 a1 a2 r
            exact gd Hm v H3 (eHbB.trans a1) a2 r
    · rintro σ' H' ⟨st, h1, okk, hf⟩
      rw [List.length_map, hlen, List.drop_length] at hf
      rw [← hf] at gd
      exact gd σ' H' st
/-- an answer of such items beside the frame's own lists -/
theorem rx_asgP {i : Nat} {ps : List Part} (h : EvRX K te env (RT K ps)) : RunX K (tAsg te (gName i)) env (.nx (env.set i (.dat (.tuple (ps.map Part.toD))))) := fun Hb σ H D s g =>
  h Hb σ H s _ fun Hm v H' e1 e2 r => by
    obtain ⟨t, L, vs, rfl, ht, pk⟩ := r
    have sg := (s.grow (e1.trans e2)).widen
    have noOwnT : ∀ b xs, H' b = some (.tup xs) → cutH H' (ownAt σ env) b = some (.tup xs) := fun b xs hb => by
      rw [cutH_out]
      · exact hb
      · intro q
        obtain ⟨_, ys, hy⟩ := sg.own_none q
        rw [hb] at hy
        cases hy
    have notOwn : ∀ l, Hm l = none → ¬ ownAt σ env l := fun l hl q => by
      obtain ⟨H0, s0⟩ := id s
      obtain ⟨_, ys, hy⟩ := s0.own_none q
      rw [e1 _ _ hy] at hl
      cases hl
    have all : ∀ {L : List Addr} {vs : List V} {ps : List Part}, PsOk K Hm H' L vs ps → RpAll K (cutH H' (ownAt σ env)) vs (ps.map Part.toD) := fun pk => by
      induction pk with
      | nil => exact .nil
      | dat r f _ ih => exact .cons (r.cut noOwnT f) ih
      | own h0 h1 r f _ _ ih => exact .cons (.lst (by rw [cutH_out (notOwn _ h0)]; exact h1) (r.cut noOwnT f)) ih
    exact g _ H' ⟨_, sg.set (s := .dat (.tuple (ps.map Part.toD))) ⟨.ref t, rfl, .tup (noOwnT _ _ ht) (all pk)⟩⟩
theorem ints_inj : ∀ (xs ys : List Int), xs.map V.int = ys.map V.int → xs = ys
  | [], [], _ => rfl
  | [], _ :: _, h => by cases h
  | _ :: _, [], h => by cases h
  | x :: xs, y :: ys, h => by
    injection h with h1 h2
    injection h1 with h1
    rw [h1, ints_inj xs ys h2]
/-- two of the frame's own lists that hold other ints -/
theorem ep_own2 {i j : Nat} {ms : List Int} {ps : List Part} (h1 : env[i]? = some (.own (ns.map PyData.int))) (h2 : env[j]? = some (.own (ms.map PyData.int))) (hne : ns ≠ ms) (r : EvPX K tr env false ps) : EvPX K (tCons (tVar i) (tCons (tVar j) tr)) env true (.inr (ns.map PyData.int) :: .inr (ms.map PyData.int) :: ps) := fun Hb σ H s H1 e1 Q q => by
  obtain ⟨H0, s0⟩ := id s
  obtain ⟨l, xs, hv, hx, hn, hl, rx⟩ := own_slot s0 h1
  obtain ⟨p, ys, hv2, hx2, hn2, hl2, ry⟩ := own_slot s0 h2
  have fr : ∀ zs : List Int, lfreeAll (zs.map PyData.int) = true := fun zs => by
    induction zs with
    | nil => rfl
    | cons z zs ih => exact ih
  have hlp : l ≠ p := fun e => by
    subst e
    rw [hl] at hl2
    have : xs = ys := by injection hl2 with hl2; injection hl2
    rw [rx.ints, ry.ints] at this
    exact hne (ints_inj _ _ this)
  refine ⟨.ref l, hv, .ref p, hv2, r Hb σ H s H1 e1 _ fun L vs H3 e4 k hL => q (l :: p :: L) _ H3 e4 (.own (fresh_back s0.base hn) (e4 _ _ (e1 _ _ hl)) ((rx.mono s0.up).mono (e1.trans e4)) (fr _) ?_ (.own (fresh_back s0.base hn2) (e4 _ _ (e1 _ _ hl2)) ((ry.mono s0.up).mono (e1.trans e4)) (fr _) ?_ k)) fun m hm => ?_⟩
  · intro m
    rcases List.mem_cons.mp m with e | m
    · exact hlp e
    · rcases hL l m with ⟨z, _⟩ | z
      · cases z
      · rw [e1 _ _ hl] at z; cases z
  · intro m
    rcases hL p m with ⟨z, _⟩ | z
    · cases z
    · rw [e1 _ _ hl2] at z; cases z
  · rcases List.mem_cons.mp hm with e | k1
    · subst e
      exact .inl ⟨rfl, i, _, h1, hx⟩
    · rcases List.mem_cons.mp k1 with e | k2
      · subst e
        exact .inl ⟨rfl, j, _, h2, hx2⟩
      · rcases hL m k2 with ⟨z, _⟩ | z
        · cases z
        · exact .inr z
/-- the frame's own lists as data -/
def settleE (env : SE) : SE := env.map fun s => match s with
  | .own ds => .dat (.list ds)
  | s => s
theorem StD.settleA {Hb H : Hp} {σ : St} (s : StD K Hb H σ env) : StD K Hb H σ (settleE env) := by
  obtain ⟨H0, s0⟩ := s
  refine ⟨H, s0.base.trans s0.up, Ex.refl _, by unfold settleE; rw [List.length_map]; exact s0.len, fun j sl hj => ?_⟩
  unfold settleE at hj
  rw [List.getElem?_map] at hj
  cases he : env[j]? with
  | none => rw [he] at hj; cases hj
  | some s1 =>
    rw [he] at hj
    cases hj
    have q := s0.at_ j s1 he
    cases s1 with
    | no => trivial
    | dat d =>
      obtain ⟨x, q1, q2⟩ := q
      exact ⟨x, q1, q2.mono s0.up⟩
    | own ds =>
      obtain ⟨l, xs, q1, _, q3, q4⟩ := q
      exact ⟨.ref l, q1, .lst q3 (q4.mono s0.up)⟩
theorem er_settleA {R : Hp → V → Hp → Prop} (k : EvRX K te (settleE env) R) : EvRX K te env R := fun Hb σ H s => k Hb σ H s.settleA
theorem xf_settleA {es : List PyData} (k : EvFX K te (settleE env) es) : EvFX K te env es := fun Hb σ H s => k Hb σ H s.settleA
end
end LD
namespace LD
open PySem PySem.Spec L2 Evl LSt
section
variable {K : PySem.W.Frag} {env : SE} {te : TE} {t u w : TS} {tt : TT} {out : Out} {ps : List Part} {d : PyData}
/-- lists that hold ints ahead -/
def IntLists (H : Hp) (L : Addr → Prop) : Prop := ∀ l, L l → ∃ (n : Int) (ns : List V), H l = some (.lst (.int n :: ns))
theorem tup_cut {H : Hp} {L : Addr → Prop} (hL : IntLists H L) : ∀ a xs, H a = some (.tup xs) → cutH H L a = some (.tup xs) := fun a xs ha => by
  rw [cutH_out]
  · exact ha
  · intro k
    obtain ⟨n, ns, e⟩ := hL a k
    rw [ha] at e
    cases e
theorem cut_pts {H : Hp} {v : V} {qs : List (Int × Int)} {L : Addr → Prop} (hL : IntLists H L) (r : Rp K H v (ptsD qs)) : Rp K (cutH H L) v (ptsD qs) := by
  obtain ⟨a, xs, rfl, ha, rx⟩ := r.lst_inv
  refine .lst (a := a) (xs := xs) ?_ (rx.cut (tup_cut hL) (lfree_pts qs))
  rw [cutH_out]
  · exact ha
  · intro k
    obtain ⟨n, ns, e⟩ := hL a k
    rw [ha] at e
    have hx : xs = V.int n :: ns := by injection e with e; injection e
    subst hx
    cases qs with
    | nil => cases rx
    | cons p qs =>
      cases rx with
      | cons r _ =>
        obtain ⟨b, hb, _⟩ := Rp.pt r
        cases hb
theorem cut_ptss {H : Hp} {v : V} {qss : List (List (Int × Int))} {L : Addr → Prop} (hL : IntLists H L) (r : Rp K H v (.list (qss.map ptsD))) : Rp K (cutH H L) v (.list (qss.map ptsD)) := by
  obtain ⟨a, xs, rfl, ha, rx⟩ := r.lst_inv
  have all : ∀ {xs : List V} {qss : List (List (Int × Int))}, RpAll K H xs (qss.map ptsD) → RpAll K (cutH H L) xs (qss.map ptsD) := by
    intro xs qss
    induction qss generalizing xs with
    | nil => intro h; cases h; exact .nil
    | cons qs qss ih =>
      intro h
      cases h with
      | cons r t => exact .cons (cut_pts hL r) (ih t)
  refine .lst (a := a) (xs := xs) ?_ (all rx)
  rw [cutH_out]
  · exact ha
  · intro k
    obtain ⟨n, ns, e⟩ := hL a k
    rw [ha] at e
    have hx : xs = V.int n :: ns := by injection e with e; injection e
    subst hx
    cases qss with
    | nil => cases rx
    | cons p qs =>
      cases rx with
      | cons r _ =>
        obtain ⟨b, ys, hb, _⟩ := Rp.lst_inv r
        cases hb
theorem PsOk.ints {Hb H : Hp} {L : List Addr} {vs : List V} {ps : List Part} (h : PsOk K Hb H L vs ps) (hi : ∀ ds, .inr ds ∈ ps → ∃ (n : Int) (ms : List PyData), ds = .int n :: ms) : IntLists H (fun b => b ∈ L) := by
  induction h with
  | nil => intro l hl; cases hl
  | dat r f _ ih => exact ih fun ds hd => hi ds (List.mem_cons_of_mem _ hd)
  | own h0 h1 r f n _ ih =>
    intro l hl
    rcases List.mem_cons.mp hl with e | m
    · subst e
      obtain ⟨n, ms, e⟩ := hi _ List.mem_cons_self
      subst e
      cases r with
      | cons r1 _ =>
        rw [r1.int_inv] at h1
        exact ⟨n, _, h1⟩
    · exact ih (fun ds hd => hi ds (List.mem_cons_of_mem _ hd)) l m
theorem PsOk.ground {Hb H : Hp} {L : List Addr} {vs : List V} {ps : List Part} (h : PsOk K Hb H L vs ps) : ∀ {M : List Addr}, (∀ l ∈ L, l ∈ M) → PsOk K (cutH H fun b => b ∈ M) H L vs ps := by
  induction h with
  | nil => intro _ _; exact .nil
  | dat r f _ ih => intro M hM; exact .dat r f (ih hM)
  | own h0 h1 r f n _ ih => intro M hM; exact .own (cutH_in (hM _ List.mem_cons_self)) h1 r f n (ih fun l hl => hM l (List.mem_cons_of_mem _ hl))
theorem PsOk.fresh {Hb H : Hp} {L : List Addr} {vs : List V} {ps : List Part} (h : PsOk K Hb H L vs ps) : ∀ l ∈ L, Hb l = none := by
  induction h with
  | nil => intro l hl; cases hl
  | dat r f _ ih => exact ih
  | own h0 h1 r f n _ ih =>
    intro l hl
    rcases List.mem_cons.mp hl with e | m
    · rw [e]; exact h0
    · exact ih l m
/-- a slot is stored while an answer's lists are the caller's own -/
theorem rm_asgX {i j : Nat} (no : noOwn env = true) (h : EvX K te (env.set i (.dat (.tuple (ps.map Part.toD)))) d) (hc : ∀ {H : Hp} {v : V} {L : Addr → Prop}, IntLists H L → Rp K H v d → Rp K (cutH H L) v d) (hi : ∀ ds, .inr ds ∈ ps → ∃ (n : Int) (ms : List PyData), ds = .int n :: ms) (hij : i ≠ j)
    (k : RunM K u (env.set j (.dat d)) i ps out) : RunM K (tSeq (tAsg te (gName j)) u) env i ps out := fun Hb σ H D s g =>
  h Hb σ H (s.dat no) H (Ex.refl H) _ fun v H2 e2 rv => by
    obtain ⟨Hp, t, L, vs, h1, h3, h4, h5, h6⟩ := s.grow e2
    have e : Ex Hp (cutH H2 fun b => b ∈ L) := fun b o hb => by
      rw [cutH_out]
      · exact h3 _ _ hb
      · intro m
        rw [h6.fresh b m] at hb
        cases hb
    refine k Hb (σ.set j (some v)) H2 D ⟨cutH H2 fun b => b ∈ L, t, L, vs, ?_, cutH_ex, ?_, h5, h6.ground fun l hl => hl⟩ g
    · obtain ⟨H0, s0⟩ := h1
      have s1 : SOk K Hb (cutH H2 fun b => b ∈ L) (cutH H2 fun b => b ∈ L) σ env := by
        refine ⟨(s0.base.trans s0.up).trans e, Ex.refl _, s0.len, fun m sl hm => ?_⟩
        have q := s0.at_ m sl hm
        cases sl with
        | no => trivial
        | dat d =>
          obtain ⟨x, q1, q2⟩ := q
          exact ⟨x, q1, q2.mono (s0.up.trans e)⟩
        | own ds =>
          exfalso
          unfold noOwn at no
          rw [List.all_eq_true] at no
          have := no _ (List.mem_of_getElem? hm)
          simp [Sl.isOwn] at this
      exact ⟨_, s1.set (s := .dat d) ⟨v, rfl, hc (h6.ints hi) rv⟩⟩
    · rw [List.getElem?_set_ne (Ne.symm hij)]
      exact h4
/-- sorted(xs) of ints -/
theorem xf_sortedI {env : SE} {te : TE} {ns rs : List Int} (h : EvX K te env (.list (ns.map .int))) (hn : ns.length < 64) (hr : ∀ m : List Int, m.Perm ns → m.Pairwise (· ≤ ·) → m = rs) : EvFX K (tCB (rSorted K) (tCons te tNil)) env (rs.map .int) :=
  xf_cb (ea_cons h ea_nil) fun vs H r Q q => by
    obtain ⟨v, rfl, rv⟩ := r.one
    obtain ⟨a, xs, rfl, ha, ra⟩ := rv.lst_inv
    rw [ra.ints] at ha
    refine ⟨a, ns, rfl, .inl (.inl ha), hn, fun ns' p hp hs hnone => ?_⟩
    rw [hr ns' hp hs]
    exact q p _ H _ hnone (Ex.refl _) (Ex.new hnone) hnone upd_same (RpAll.of_ints rs)
end
end LD
/-! Texts. -/
namespace LD
open PySem PySem.Spec L2 Evl LSt
section
variable {K : PySem.W.Frag} {env : SE} {te to ta tb' : TE} {tb : TS} {out : Out}
theorem RpAll.strs {H : Hp} : ∀ {vs : List V} {xs : List Str}, RpAll K H vs (xs.map PyData.str) → vs = xs.map V.str
  | _, [], .nil => rfl
  | _, n :: ns, .cons r t => by
    rw [r.str_inv, RpAll.strs t]
    rfl
theorem RpAll.of_strs {H : Hp} : ∀ (xs : List Str), RpAll K H (xs.map V.str) (xs.map PyData.str)
  | [] => .nil
  | n :: ns => .cons (.str n) (RpAll.of_strs ns)
theorem lfree_strs : ∀ xs : List Str, lfreeAll (xs.map PyData.str) = true
  | [] => rfl
  | _ :: xs => lfree_strs xs
theorem ex_join {a : Str} {ys : List Str} (h1 : EvX K to env (.str a)) (h2 : EvX K te env (.list (ys.map .str))) (hb : (ys.map (·.length)).sum + ys.length * a.length ≤ 16777216) :
    EvX K (tM1 (fun x xs H Q => ∃ a p, ∃ ys : List Str, x = .str a ∧ xs = [.ref p] ∧ (SqL K H p (ys.map V.str) ∨ SqT K H p (ys.map V.str)) ∧ (ys.map (·.length)).sum + ys.length * a.length ≤ 16777216 ∧ Q (.str (Txt.join a ys)) H) to te) env (.str (Txt.join a ys)) := fun Hb σ H s H1 e1 Q q =>
  h1 Hb σ H s H1 e1 _ fun v H2 e2 r => by
    rw [r.str_inv]
    refine ⟨⟨a, rfl⟩, h2 Hb σ H s H2 (e1.trans e2) _ fun w H3 e3 rw => ?_⟩
    obtain ⟨p, xs, rfl, hp, rx⟩ := rw.lst_inv
    rw [rx.strs] at hp
    exact ⟨a, p, ys, rfl, rfl, .inl (.inl (.inl hp)), hb, q _ H3 (e2.trans e3) (.str _)⟩
theorem xf_split {a b : Str} (h1 : EvX K to env (.str a)) (h2 : EvX K te env (.str b)) (hb : (b.length == 0) = false) (ha : a.length + 2 ≤ sizeLine) :
    EvFX K (tM1 (fun x xs H Q => ∃ a b, x = .str a ∧ xs = [.str b] ∧ (b.length == 0) = false ∧ a.length + 2 ≤ sizeLine ∧ rNewStrs (Txt.split a b) H Q) to te) env ((Txt.split a b).map .str) := fun Hb σ H s H1 e1 Q q =>
  h1 Hb σ H s H1 e1 _ fun v H2 e2 r => by
    rw [r.str_inv]
    refine ⟨⟨a, rfl⟩, h2 Hb σ H s H2 (e1.trans e2) _ fun w H3 e3 rw => ?_⟩
    rw [rw.str_inv]
    exact ⟨a, b, rfl, rfl, hb, ha, fun p hp => q p _ H3 _ (fresh_back (e2.trans e3) hp) (e2.trans e3) (Ex.new hp) hp upd_same (RpAll.of_strs _)⟩
def sI (i : Int) : Str := toString i
theorem ex_strI {i : Int} (h : EvX K te env (.int i)) (hb : i.natAbs.log2 < 1920) : EvX K (tCB (fun xs H Q => ∃ i : Int, xs = [.int i] ∧ i.natAbs.log2 < 1920 ∧ Q (.str (toString i)) H) (tCons te tNil)) env (.str (sI i)) :=
  ex_cb (ea_cons h ea_nil) fun vs H r Q q => by
    obtain ⟨v, rfl, rv⟩ := r.one
    rw [rv.int_inv]
    exact ⟨i, rfl, hb, q _ H (Ex.refl _) (.str _)⟩
theorem ex_intS {a : Str} {n : Int} (h : EvX K te env (.str a)) (hn : PySem.intText? a = some n) (hl : a.length ≤ 640) : EvX K (tCB (fun xs H Q => ∃ a n, xs = [.str a] ∧ PySem.intText? a = some n ∧ a.length ≤ 640 ∧ Q (.int n) H) (tCons te tNil)) env (.int n) :=
  ex_cb (ea_cons h ea_nil) fun vs H r Q q => by
    obtain ⟨v, rfl, rv⟩ := r.one
    rw [rv.str_inv]
    exact ⟨a, n, rfl, hn, hl, q _ H (Ex.refl _) (.int _)⟩
theorem ex_catS {a b : Str} (h1 : EvX K ta env (.str a)) (h2 : EvX K tb' env (.str b)) (hl : a.length + b.length ≤ sizeLine) : EvX K (tOp (fun x y H Q => ∃ i j, x = .str i ∧ y = .str j ∧ i.length + j.length ≤ sizeLine ∧ Q (.str (i ++ j)) H) ta tb') env (.str (a ++ b)) :=
  ex_two h1 h2 fun x y H rx ry Q q => by
    rw [rx.str_inv, ry.str_inv]
    exact ⟨a, b, rfl, rfl, hl, q _ H (Ex.refl _) (.str _)⟩
theorem ex_slS {z : Str} {tl th : TO} {lo hi : Option Int} (h : EvX K te env (.str z)) (h1 : EvOX K tl env lo) (h2 : EvOX K th env hi) (hz : z.length ≤ sizeLine) : EvX K (tSl rSlS te tl th) env (.str (cutS z lo hi)) := fun Hb σ H s H1 e1 Q q =>
  h Hb σ H s H1 e1 _ fun v H2 e2 r => h1 Hb σ H s H2 (e1.trans e2) _ fun H3 e3 => h2 Hb σ H s H3 ((e1.trans e2).trans e3) _ fun H4 e4 => by
    rw [r.str_inv]
    exact ⟨z, rfl, hz, q _ H4 ((e2.trans e3).trans e4) (.str _)⟩
theorem ex_ixStr {z : Str} {i : Int} {c : Nat} (h1 : EvX K ta env (.str z)) (h2 : EvX K tb' env (.int i)) (hz : z.length ≤ sizeLine) (h : atI z.cps.toList i = some c) : EvX K (tOp (rIx K) ta tb') env (.str ⟨#[c]⟩) :=
  ex_two h1 h2 fun x y H rx ry Q q => by
    rw [rx.str_inv, ry.int_inv]
    exact .inr (.inr ⟨z, i, c, rfl, rfl, hz, h, q _ H (Ex.refl _) (.str _)⟩)
theorem ex_notInS {c : Nat} {z : Str} (h1 : EvX K ta env (.str ⟨#[c]⟩)) (h2 : EvX K tb' env (.str z)) : EvX K (tOp (fun x y H Q => ∃ (c : Nat) (z : Str), x = .str ⟨#[c]⟩ ∧ y = .str z ∧ Q (.bl (!decide (c ∈ z.cps.toList))) H) ta tb') env (.bool (!decide (c ∈ z.cps.toList))) :=
  ex_two h1 h2 fun x y H rx ry Q q => by
    rw [rx.str_inv, ry.str_inv]
    exact ⟨c, z, rfl, rfl, q _ H (Ex.refl _) (.bl _)⟩
theorem ex_lenS {x : Str} (h : EvX K te env (.str x)) (hx : x.length ≤ 100000) : EvX K (tCB (fun xs H Q => ∃ x n, xs = [x] ∧ LenV K x H n ∧ Q (.int n) H) (tCons te tNil)) env (.int x.length) :=
  ex_len h (by show (if x.length ≤ 100000 then some x.length else none) = _; rw [if_pos hx])
/-- for .. in a text -/
theorem rx_forS {g : TG} {z : Str} (h : EvX K te env (.str z)) (f : Fr K g tb (z.cps.toList.map fun c => PyData.str ⟨#[c]⟩) env out) : RunX K (tFor (iStr te) g tb) env out := fun Hb σ H D s gd =>
  h Hb σ H s H (Ex.refl H) _ fun v H1 e r => by
    rw [r.str_inv]
    generalize hds : (z.cps.toList.map fun c => PyData.str ⟨#[c]⟩) = ds at f
    have hlen : ds.length = z.cps.size := by rw [← hds, List.length_map, Array.length_toList]
    refine ⟨z, rfl, fun i m σ' H' => m = z.cps.size - i ∧ i ≤ z.cps.size ∧ ∃ e, StD K Hb H' σ' e ∧ Fr K g tb (ds.drop i) e out, ⟨_, rfl, Nat.zero_le _, env, s.grow e, by rw [List.drop_zero]; exact f⟩, ?_⟩
    rintro i m σ' H' ⟨rfl, hi, e', st, fr⟩
    by_cases hlt : i < z.cps.size
    · refine .inr ⟨hlt, fun σ2 H2 => ∃ e, StD K Hb H2 σ2 e ∧ Fr K g tb (ds.drop (i + 1)) e out, fun σ2 H2 p => ⟨z.cps.size - (i + 1), by omega, rfl, hlt, p⟩, fun x H2 y => ?_⟩
      obtain ⟨rfl, c, hc, rfl⟩ := y
      have hd : ds[i]? = some (PyData.str ⟨#[c]⟩) := by
        rw [← hds, List.getElem?_map, Array.getElem?_toList, hc]
        rfl
      have hlt' := (List.getElem?_eq_some_iff.mp hd).1
      have ed : ds.drop i = PyData.str ⟨#[c]⟩ :: ds.drop (i + 1) := by
        rw [List.drop_eq_getElem_cons hlt']
        congr 1
        exact (List.getElem?_eq_some_iff.mp hd).2
      rw [ed] at fr
      obtain ⟨H0, s0⟩ := st
      exact fr.step (Pv := fun l σ2 H2 => ∃ e, StD K Hb H2 σ2 e ∧ Fr K g tb (ds.drop (i + 1)) e out) gd s0 (.str _) fun e2 f2 σ2 H2 s2 => ⟨e2, s2, f2⟩
    · refine .inl ⟨by show z.cps.size ≤ i; omega, ?_⟩
      rw [List.drop_eq_nil_of_le (by omega)] at fr
      cases fr
      exact gd σ' H' st
end
end LD
/-! Refusals: defs that surely raise, the suite that catches, what is asked of the caught one. -/
namespace LD
open PySem PySem.Spec PyProof.Rows L2 Evl LSt

/-! ### what surely raises C -/
section
variable {K : PySem.W.Frag} {W : WX} {C : Addr} {n : Nat} {env e1 : SE} {te : TE} {tt : TT} {t u w : TS} {ta : TA} {ds : List PyData}
/-- the wish: C may be let out over what stood -/
def Wish (W : WX) (C : Addr) (n : Nat) : Hp → Prop := fun H => ∀ σ : L2.St, σ.length = n → W (.ref C) none σ H
def EvE (K : PySem.W.Frag) (W : WX) (C : Addr) (n : Nat) (te : TE) (env : SE) : Prop := ∀ Hb σ H, StD K Hb H σ env → (∀ H', Ex Hb H' → Wish W C n H') → ∀ H1, Ex H H1 → ∀ Q, te σ H1 Q
abbrev RunE (K : PySem.W.Frag) (W : WX) (C : Addr) (n : Nat) (t : TS) (env : SE) : Prop := RunX K t env (.ex (Wish W C n))
theorem re_seq (h1 : RunX K t env (.nx e1)) (h2 : RunE K W C n u e1) : RunE K W C n (tSeq t u) env := rx_seq h1 h2
theorem re_end (h : RunE K W C n t env) : RunE K W C n (tSeq t u) env := rx_end h rfl
theorem re_if {b : Bool} (h : EvTX K tt env b) (h1 : b = true → RunE K W C n t env) (h2 : b = false → RunE K W C n u env) : RunE K W C n (tIfS tt t u) env := rx_if h h1 h2
theorem re_ifS {b : Bool} (h : EvTX K tt env b) (h1 : b = true → RunE K W C n (tSeq t w) env) (h2 : b = false → RunE K W C n (tSeq u w) env) : RunE K W C n (tSeq (tIfS tt t u) w) env := rx_ifS h h1 h2
theorem re_nextS (h : RunE K W C n w env) : RunE K W C n (tSeq tNext w) env := rx_nextS h
theorem re_drop (h : EvE K W C n te env) : RunE K W C n (tDrop te) env := fun Hb σ H D s g => h Hb σ H s g H (Ex.refl H) _
theorem re_ret (h : EvE K W C n te env) : RunE K W C n (tRet te) env := fun Hb σ H D s g => h Hb σ H s g H (Ex.refl H) _
theorem re_asg {g : TG} (h : EvE K W C n te env) : RunE K W C n (tAsg te g) env := fun Hb σ H D s gw => h Hb σ H s gw H (Ex.refl H) _
/-- raise C(..) -/
def tRaise (C : Addr) (W : WX) : TS := fun _ σ H => (fun (_ : L2.St) (H : Hp) (Q : XK) => Q (.ref C) none H) σ H fun cls d H' => W cls d σ H'
theorem re_raise (hn : env.length = n) : RunE K W C n (tRaise C W) env := fun Hb σ H D s g => g H s.bot σ (by obtain ⟨_, k⟩ := s; rw [k.len, hn])
/-- a def that raises C at the arguments that B tells -/
def spB (K : PySem.W.Frag) (C : Addr) (B : List PyData → Prop) : Sp := fun vs H _ E => ∃ ds, RpAll K H vs ds ∧ B ds ∧ ∀ H', Ex H H' → E (.ref C) none H'
theorem ee_call {B : List PyData → Prop} (h : EvAX K ta env ds) (hB : B ds) (hn : env.length = n) : EvE K W C n (tCallS (spB K C B) (L2.WE W) ta) env := fun Hb σ H s g H1 e1 Q =>
  h Hb σ H s H1 e1 _ fun vs H2 e2 rv => ⟨ds, rv, hB, fun H3 e3 => g H3 (((s.bot.trans e1).trans e2).trans e3) σ (by obtain ⟨_, k⟩ := s; rw [k.len, hn])⟩
/-- either -/
def spX (sp : Sp) (K : PySem.W.Frag) (C : Addr) (B : List PyData → Prop) : Sp := fun vs H Q E => sp vs H Q E ∨ spB K C B vs H Q E
theorem ee_callX {B : List PyData → Prop} {sp : Sp} (h : EvAX K ta env ds) (hB : B ds) (hn : env.length = n) : EvE K W C n (tCallS (spX sp K C B) (L2.WE W) ta) env := fun Hb σ H s g H1 e1 Q =>
  h Hb σ H s H1 e1 _ fun vs H2 e2 rv => .inr ⟨ds, rv, hB, fun H3 e3 => g H3 (((s.bot.trans e1).trans e2).trans e3) σ (by obtain ⟨_, k⟩ := s; rw [k.len, hn])⟩
theorem ex_callX {B : List PyData → Prop} {F : List PyData → PyData → Prop} {E : L2.St → XK} {d : PyData} (h : EvAX K ta env ds) (hF : F ds d) : EvX K (tCallS (spX (spD K F) K C B) E ta) env d := fun Hb σ H s H1 e1 Q q =>
  h Hb σ H s H1 e1 _ fun vs H2 e2 rv => .inl ⟨ds, d, rv, hF, fun v H3 e3 r => q v H3 (e2.trans e3) r⟩
theorem PS.nox {X : Cx} {st : Stmt} {t : TS} (h : PS X.nox st t) : PS X st t := ⟨fun pins s σ H D I hw =>
  wpAny_mono (h.run pins s σ H D (I.wish _) hw) (fun _ _ q => q.unwish) fun _ _ z => False.elim z⟩
end

/-! ### defs that raise -/
section
variable {P : Program} {w : World} {K : PySem.W.Frag} {mg : Str → Option Value} {base : Heap}
theorem ok_B {x qual : Str} {st : Stmt} {f C : Addr} {fd : FuncData} {N ps : List Str} {k : Nat} {B : List PyData → Prop} (Fn : Fun K x qual st f fd) (S : FnScope N ps (defScope st)) (len : ∀ ds, B ds → ds.length = ps.length)
    (hbody : ∀ (cdv : Value) (A : Around) (outer : List Env) (s : Shared) (H : Hp) (E : XK), Room k (A.deeper (envOfC qual (defScope st) s.heap.objs.size f cdv)) → ∀ ds, B ds →
      ∃ t, PSs (cxOf (L2N.CX P w) P w K mg base N qual (defScope st) f cdv A outer s H E) (defBody st) t ∧ RunE K (fun cls d _ H => E cls d H) C N.length t (env0 N.length ds)) : FnOk P w K mg base (L2N.CX P w) (k + 1) f fd ps (spB K C B) := by
  obtain ⟨oc, od, kV, doc, pm, an, cdv, ct, osl, rfl, lk, hcd⟩ := Fn.ex
  refine fn_of lk hcd S (fun vs H Q E h => ?_) fun A outer s H vs Q E hr h => ?_
  · obtain ⟨ds, r, hB, _⟩ := h
    rw [r.length, len ds hB]
  · obtain ⟨ds, r, hB, q⟩ := h
    obtain ⟨t, ht, hx⟩ := hbody cdv A outer s H E hr ds hB
    exact ⟨t, ht, hx H _ H _ (std_start r) fun H' e _ _ => q H' e⟩
/-- what raises nothing may stand where something may be raised -/
theorem FnOk.lift {f : Addr} {fd : FuncData} {ps : List Str} {k : Nat} {sp : Sp} {CX : CXT} (F : FnOk P w K mg base CX0 k f fd ps sp) : FnOk P w K mg base CX k f fd ps sp :=
  ⟨F.len, fun A outer s H args us vs Q E hr he hb hv hs => codeAny_mono (F.run A outer s H args us vs Q E hr he hb hv hs) fun r s' q => by
    cases r with
    | error e => exact False.elim q
    | ok fl => cases fl <;> exact q⟩
theorem FnOk.either {f C : Addr} {fd : FuncData} {ps : List Str} {k : Nat} {sp : Sp} {B : List PyData → Prop} (F : FnOk P w K mg base CX0 k f fd ps sp) (G : FnOk P w K mg base (L2N.CX P w) k f fd ps (spB K C B)) : FnOk P w K mg base (L2N.CX P w) k f fd ps (spX sp K C B) :=
  ⟨fun vs H Q E h => h.elim (F.len vs H Q E) (G.len vs H Q E), fun A outer s H args us vs Q E hr he hb hv hs =>
    hs.elim ((FnOk.lift F).run A outer s H args us vs Q E hr he hb hv) (G.run A outer s H args us vs Q E hr he hb hv)⟩
theorem FnOk.both {f : Addr} {fd : FuncData} {ps : List Str} {k : Nat} {sp sp' : Sp} {CX : CXT} (F : FnOk P w K mg base CX k f fd ps sp) (G : FnOk P w K mg base CX k f fd ps sp') : FnOk P w K mg base CX k f fd ps (fun vs H Q E => sp vs H Q E ∨ sp' vs H Q E) :=
  ⟨fun vs H Q E h => h.elim (F.len vs H Q E) (G.len vs H Q E), fun A outer s H args us vs Q E hr he hb hv hs =>
    hs.elim (F.run A outer s H args us vs Q E hr he hb hv) (G.run A outer s H args us vs Q E hr he hb hv)⟩
theorem FnOk.bothD {f : Addr} {fd : FuncData} {ps : List Str} {k : Nat} {F1 F2 : List PyData → PyData → Prop} (F : FnOk P w K mg base CX0 k f fd ps (spD K F1)) (G : FnOk P w K mg base CX0 k f fd ps (spD K F2)) :
    FnOk P w K mg base CX0 k f fd ps (spD K fun ds d => F1 ds d ∨ F2 ds d) :=
  (FnOk.both F G).imp fun vs H Q E ⟨ds, d, r, h, q⟩ => h.elim (fun h => .inl ⟨ds, d, r, h, q⟩) fun h => .inr ⟨ds, d, r, h, q⟩
theorem FnOk.bothB {f C : Addr} {fd : FuncData} {ps : List Str} {k : Nat} {CX : CXT} {B1 B2 : List PyData → Prop} (F : FnOk P w K mg base CX k f fd ps (spB K C B1)) (G : FnOk P w K mg base CX k f fd ps (spB K C B2)) :
    FnOk P w K mg base CX k f fd ps (spB K C fun ds => B1 ds ∨ B2 ds) :=
  (FnOk.both F G).imp fun vs H Q E ⟨ds, r, h, q⟩ => h.elim (fun h => .inl ⟨ds, r, h, q⟩) fun h => .inr ⟨ds, r, h, q⟩
end

/-! ### a def called within an except suite -/
abbrev SpP := Addr × Obj → List V → Hp → VK → Prop
structure FnP (P : Program) (w : World) (K : PySem.W.Frag) (mg : Str → Option Value) (base : Heap) (k : Nat) (f : Addr) (fd : FuncData) (ps : List Str) (sp : SpP) : Prop where
  len : ∀ p vs H Q, sp p vs H Q → vs.length = ps.length
  run : ∀ (p : Addr × Obj) (A : Around) (outer : List Env) (s : Shared) (H : Hp) (args : Args) (us : List Value) (vs : List V) (Q : VK), L2H.RoomH k A → L2H.PinOk outer H s p → Env0 P w K mg base A outer s H → BindsTo s fd args (ps.zip us) → Vals vs us → sp p vs H Q →
    codeAny (model P w) A (.call (.ref f) args) (CR CX0 outer P w H s Q E0) s
/-- its body -/
theorem fnP_of {P : Program} {w : World} {K : PySem.W.Frag} {mg : Str → Option Value} {base : Heap} {x qual : Str} {st : Stmt} {f : Addr} {fd : FuncData} {N ps : List Str} {k : Nat} {sp : SpP} (Fn : Fun K x qual st f fd) (S : FnScope N ps (defScope st))
    (len : ∀ p vs H Q, sp p vs H Q → vs.length = ps.length)
    (hbody : ∀ (cdv : Value) (p : Addr × Obj) (A : Around) (outer : List Env) (s : Shared) (H : Hp) (vs : List V) (Q : VK), L2H.RoomH k (A.deeper (envOfC qual (defScope st) s.heap.objs.size f cdv)) → sp p vs H Q →
      ∃ t, PSs (L2H.cxH CX0 P w K mg base N qual (defScope st) f cdv A outer s H E0 p).nox (defBody st) t ∧ t { nx := fun _ H' => Q .non H', rt := Q } (L2.start N vs) H) :
    FnP P w K mg base (k + 1) f fd ps sp := by
  obtain ⟨oc, od, kV, doc, pm, an, cdv, ct, osl, rfl, lk, hcd⟩ := Fn.ex
  refine ⟨len, ?_⟩
  intro p A outer s H args us vs Q hr hpin e0 hb r hsp
  have inH : K.In s.heap := e0.mod.kin.keeps fun b o q => (e0.bs b o q).1
  have lim : s.heap.NoLimit := e0.mod.nolimit.keeps fun b o q => (e0.bs b o q).1
  have par : ∀ y ∈ ps.zip us, (defScope st).names.lookup y.1 = some .local ∨ ((defScope st).names.lookup y.1 = some .cell ∧ ((cellsFrom (s.heap.objs.size + 1) (defScope st).names []).lookup y.1).isSome = true) := by
    rintro ⟨n, v⟩ hy
    exact (S.par n (List.of_mem_zip hy).1).imp id fun q => ⟨q, PySem.W.cellsFrom_some _ _ _ (.inl q)⟩
  obtain ⟨t, ht, hq⟩ := hbody cdv p A outer s H vs Q (hr.deeper _) hsp
  refine codeAny_call_function hr.depth (inH _ _ lk) rfl S.co S.gen rfl (PySem.W.codeRec_of inH hcd) (hb _ _ _ _ (wpAny_newFunctionEnv_cells S.kind par ?_))
  rintro env rfl s1 x
  have I := L2H.inv_startH (CX := CX0) (E := E0) (qual := qual) (f := f) (cd := cdv) S hpin e0 (len _ _ _ _ hsp) r x
  refine ⟨lim.keeps x.toInCall.keep, codeAny_func (wpAny_mono (ht.nox.run [] s1 _ H _ I hq) ?_ fun _ _ z => z)⟩
  intro fl s' hs
  cases fl with
  | ret u =>
    obtain ⟨v, σ', H', J, rv, q⟩ := hs
    exact ⟨v, H', J.os, J.bare, J.base, J.hok, rv, q⟩
  | next =>
    obtain ⟨σ', H', J, q⟩ := hs
    exact ⟨.non, H', J.os, J.bare, J.base, J.hok, rfl, q⟩
  | brk => exact hs.elim fun _ h => h.elim fun _ h => h.2.elim
  | cont => exact hs.elim fun _ h => h.elim fun _ h => h.2.elim
theorem pe_callP {X : Cx} {k : Nat} {f : Addr} {fd : FuncData} {ps : List Str} {sp : SpP} {x : Str} {q pos : Pos} {e : Expr} {es : List Expr} {ta : TA} {p : Addr × Obj} {R : List V → Hp → VK → Prop} (hR : ∀ vs H Q, R vs H Q → sp p vs H Q) (F : FnP X.prog X.w X.K X.mg X.base k f fd ps sp) (hr : L2H.RoomH k X.A) (hp : p ∈ X.pn)
    (hg : Gl X x) (hm : X.mg x = some (.ref f)) (hk : PySem.W.keepIn X.K (.ref f) = true) (hb : Binds X.K fd ps []) (ha : PA X (e :: es) ta)
    (hdb : (x == ("__debug__" : Str)) = false := by decide) (he : starEach (e :: es) X.env = (false, eval e X.env) :: starEach es X.env := by rfl) (hpl : (backTo pos (starEach es X.env)).any (·.1) = false := by rfl) :
    PE X (.Call (.Name x q) (e :: es) [] pos) (fun σ H Q => ta σ H fun vs H1 => R vs H1 Q) := by
  refine ⟨fun pins s σ H Q I h => wpAny_Call_Name_kw (ld_glob I hg hm ?_ hdb)⟩
  refine PySem.W.callWith_K (h₀ := X.base) I.ok.mod.kin hk (thn (ha.run pos pins s σ H _ I h) ?_) he hpl
  rintro us s1 ⟨vs, H1, I1, r, zR⟩
  have z := hR _ _ _ zR
  refine ⟨I1.kIn, ?_⟩
  have pin := I1.pin p (List.mem_append_left _ hp)
  have ok : L2H.PinOk X.stack H1 s1 p := ⟨pin.1, pin.2.1, fun hm => (List.mem_cons.mp (I1.stkSub p.1 hm)).elim pin.2.2.1 pin.2.2.2.1, pin.2.2.2.2⟩
  have b := hb s1 us I1.kIn (by rw [List.append_nil, ← r.length]; exact F.len _ _ _ _ z)
  rw [List.append_nil] at b
  refine wpAny_call (codeAny_mono (F.run p X.A X.stack s1 H1 ⟨us, []⟩ us vs Q hr ok I1.env0 b r z) fun res s' hq => ?_)
  match res, hq with
  | .ok (.ret u), hq => exact I1.after hq

/-! ### isinstance of the caught one -/
/-- isinstance(e, c), e pinned -/
theorem call_isP {X : Cx} {a D : Addr} {oe : Obj} (hp : (a, oe) ∈ X.pn) (T : ExcC X.K D) (hz : Zc (.ref D) none oe) (hf : ∃ vs, oe.data = .fields vs) : CallR X (.builtin "isinstance") (rIsE X.K D a) := by
  intro pins s σ H xs us Q I r h
  obtain ⟨c, cv, b, rfl, hcv, e, q⟩ := h
  obtain ⟨vs, hv⟩ := hf
  match us, r with
  | [_, ut], .cons rx (.cons rt .nil) =>
    cases rx
    rw [hcv _ rt]
    have J : PySem.W.InstAt s.heap a oe D none := by
      have got := (I.pin (a, oe) (List.mem_append_left _ hp)).1
      obtain ⟨oc, od, oda, osl⟩ := oe
      obtain ⟨h1, h2⟩ := hz
      simp only at h1 h2 hv
      subst h1 h2 hv
      exact ⟨got, rfl, rfl, trivial⟩
    exact PySem.W.kia_one (PySem.W.handS_kitx_exc T.hg T.hk T.hs T.hd T.ha T.hn T.ht T.hm) I.kIn J e (fun z => nomatch z) fun tk => ⟨.bl b, H, I.kept (t' := tk) fun _ _ z => z, rfl, q⟩

/-! ### xs.count(True) -/
def rCntB (K : PySem.W.Frag) : V → List V → Hp → VK → Prop := fun x xs H Q => ∃ (p : Addr) (bs : List Bool) (k : Bool), x = .ref p ∧ xs = [.bl k] ∧ SqL K H p (bs.map V.bl) ∧ Q (.int (bs.count k : Nat)) H
theorem bools_eq {k : Bool} : ∀ {us : List Value} {bs : List Bool}, Vals (bs.map V.bl) us → us = bs.map Value.bool
  | _, [], .nil => rfl
  | _, b :: bs, .cons r t => by
    rw [bools_eq (k := k) t, show _ = Value.bool b from r]
    rfl
theorem count_bools {k : Bool} : ∀ bs : List Bool, (bs.map Value.bool).countP (PyProof.Rows.isBoolOf k) = bs.count k
  | [] => rfl
  | b :: bs => by
    rw [List.map_cons, List.countP_cons, List.count_cons, count_bools bs]
    rfl
theorem mt_lcountB {X : Cx} : MtR X "list.count" (rCntB X.K) := by
  intro pins s σ H x xs v us Q I rx rxs h
  obtain ⟨p, bs, k, rfl, rfl, hs, q⟩ := h
  cases rx
  obtain ⟨u, rfl, ru⟩ := rxs.one
  rw [show u = Value.bool k from ru]
  obtain ⟨its, rv, ⟨⟨cls, dd, data, sl⟩, n, ho, hc, hdn, hd⟩, hlen⟩ := I.list hs
  simp only at hc hd
  subst hc hd
  obtain rfl := bools_eq (k := k) rv
  refine call_meets PySem.F.slot_list_count ⟨_, ho, rfl⟩ PySem.F.entry_list_count (PySem.F.args_list_count_2 _ _)
    (SeqAt.list_countAt p (bs.map Value.bool).toArray n dd sl (.bool k) (PyProof.Rows.isBoolOf k)) ⟨ho, fun y hy => ?_, ?_⟩
  · have hy' : y ∈ bs.map Value.bool := by simpa using hy
    obtain ⟨b, _, rfl⟩ := List.mem_map.mp hy'
    exact SeqAt.EqAt.bool_bool b k
  · refine ⟨.int (bs.count k : Nat), H, I.tok _, ⟨s.toks, ?_⟩, q⟩
    rw [count_bools]
theorem ex_countB {K : PySem.W.Frag} {env : SE} {to : TE} {bs : List Bool} {k : Bool} (h : EvX K to env (.list (bs.map .bool))) : EvX K (tBM K "list" (rCntB K) to (tCons (tC (.bl k)) tNil)) env (.int (bs.count k : Nat)) := fun Hb σ H s H1 e1 Q q =>
  h Hb σ H s H1 e1 _ fun v H2 e2 r => by
    obtain ⟨a, xs, rfl, ha, ra⟩ := r.lst_inv
    rw [ra.bools] at ha
    exact ⟨.inl ⟨rfl, _, .inl (.inl ha)⟩, a, bs, k, rfl, rfl, .inl (.inl ha), q _ H2 e2 (.int _)⟩

/-! ### the classes of refusals -/
abbrev veMro : List Value := [.type "ValueError", .type "Exception", .type "BaseException", .type "object"]
structure RCls (K : PySem.W.Frag) (C : Addr) : Prop where
  e : PySem.W.excIn K C veMro "ValueError.__new__" = true
  k : PySem.W.keepIn K (.ref C) = true
  b : PySem.W.subIn K (.ref C) (.type "BaseException") = some true
  t : PySem.W.typeIn K (.ref C) = some (.type "type")
  i : PySem.W.isClsIn K C = true
  s : PySem.W.subIn K (.ref C) (.ref C) = some true
  v : PySem.W.subIn K (.ref C) (.type "ValueError") = some true
  x : ExcC K C
section
variable {K : PySem.W.Frag} {C D : Addr}
theorem kit_self : PySem.W.kitOne K (.ref D) (.ref D) = some true := by
  unfold PySem.W.kitOne
  rw [if_pos (beq_self_eq_true _)]
theorem kit_no (T : RCls K C) (h : PySem.W.subIn K (.ref D) (.ref C) = some false) : PySem.W.kitOne K (.ref D) (.ref C) = some false := by
  have ne : ¬ (Value.ref D == Value.ref C) = true := fun q => by
    have q' : Value.ref D = Value.ref C := beq_iff_eq.mp q
    rw [q', T.s] at h
    cases h
  have ti : ((PySem.W.clsIn K C).isSome && PySem.W.typeIn K (.ref C) == some (.type "type")) = true := by
    rw [show (PySem.W.clsIn K C).isSome = true from T.i, T.t]
    rfl
  unfold PySem.W.kitOne PySem.W.kitCls
  rw [if_neg ne]
  simp only [ti, if_true]
  exact h
theorem kit_ve (T : RCls K D) : PySem.W.kitOne K (.ref D) (.type "ValueError") = some true := by
  have m : PySem.W.kitMeta "ValueError" = true := by decide +kernel
  unfold PySem.W.kitOne PySem.W.kitCls
  rw [if_neg (show ¬ (Value.ref D == Value.type "ValueError") = true from fun q => by cases beq_iff_eq.mp q)]
  simp only [m, if_true]
  exact T.v
theorem exm_own (T : RCls K C) (h : PySem.W.subIn K (.ref D) (.ref C) = some true) : PySem.W.exmOne K (.ref D) (.ref C) = some true := PySem.W.exm_ref T.b T.x.hd T.t h
theorem exm_no (T : RCls K C) (h : PySem.W.subIn K (.ref D) (.ref C) = some false) : PySem.W.exmOne K (.ref D) (.ref C) = some false := PySem.W.exm_ref T.b T.x.hd T.t h
end

/-! ### which refusal it was -/
section
variable {K : PySem.W.Frag} {C : Addr}
/-- what a def that is handed the caught one promises -/
def spKind (K : PySem.W.Frag) (C : Addr) (z : Str) : SpP := fun p vs H Q => vs = [.ref p.1] ∧ Zc (.ref C) none p.2 ∧ (∃ fs, p.2.data = .fields fs) ∧ ∀ H', Ex H H' → Q (.str z) H'
theorem is_run {a D : Addr} {σ : L2.St} {H : Hp} {Q : VK} {c : V} {cv : Value} {b : Bool} (h0 : σ[0]? = some (some (.ref a))) (hc : ∀ u, RelV c u → u = cv) (e : PySem.W.kitOne K (.ref D) cv = some b) (q : Q (.bl b) H) : tCB (rIsE K D a) (tCons (tVar 0) (tCons (tC c) tNil)) σ H Q :=
  ⟨.ref a, h0, c, cv, b, rfl, hc, e, q⟩
abbrev tIs (K : PySem.W.Frag) (D a : Addr) (c : V) : TE := tCB (rIsE K D a) (tCons (tVar 0) (tCons (tC c) tNil))
theorem kind_run {a D : Addr} {c1 c2 c3 c4 c5 : Addr} {b1 b2 b3 b4 b5 : Bool} {z z1 z2 z3 z4 z5 : Str} {j : Nat} {H : Hp} {D' : Ends}
    (h1 : PySem.W.kitOne K (.ref D) (.ref c1) = some b1) (h2 : PySem.W.kitOne K (.ref D) (.ref c2) = some b2) (h3 : PySem.W.kitOne K (.ref D) (.ref c3) = some b3) (h4 : PySem.W.kitOne K (.ref D) (.ref c4) = some b4) (h5 : PySem.W.kitOne K (.ref D) (.ref c5) = some b5)
    (hv : PySem.W.kitOne K (.ref D) (.type "ValueError") = some true) (hc : [b1, b2, b3, b4, b5].count true = 1) (hj : ([b1, b2, b3, b4, b5] : List Bool)[j]? = some true) (hn : (([b1, b2, b3, b4, b5] : List Bool).take j).all (fun b => !b) = true) (hz : ([z1, z2, z3, z4, z5] : List Str)[j]? = some z)
    (q : ∀ H', Ex H H' → D'.rt (.str z) H') :
    tSeq (tAsg (tLst (tCons (tIs K D a (.ref c1)) (tCons (tIs K D a (.ref c2)) (tCons (tIs K D a (.ref c3)) (tCons (tIs K D a (.ref c4)) tNil))))) (gName 1)) (tSeq (tDrop (tBM K "list" rAppend (tVar 1) (tCons (tIs K D a (.ref c5)) tNil)))
      (tSeq (tIfS (tOr (tNot (tB (tIs K D a (.ty "ValueError")))) (tTest (tOp (rNeD K) (tBM K "list" (rCntB K) (tVar 1) (tCons (tC (.bl true)) tNil)) (tC (.int 1))))) (tRet (tC (.str "other"))) tNext)
        (tRet (tOp (rIx K) (tLst (tCons (tC (.str z1)) (tCons (tC (.str z2)) (tCons (tC (.str z3)) (tCons (tC (.str z4)) (tCons (tC (.str z5)) tNil)))))) (tBM K "list" (rIndexD K) (tVar 1) (tCons (tC (.bl true)) tNil))))))
      D' [some (.ref a), none] H := by
  have rr : ∀ c : Addr, ∀ u, RelV (.ref c) u → u = .ref c := fun _ _ r => r
  refine is_run rfl (rr _) h1 (is_run rfl (rr _) h2 (is_run rfl (rr _) h3 (is_run rfl (rr _) h4 ⟨by rw [sizeLine_eq]; exact Nat.le_of_ble_eq_true rfl, fun p hp => ?_⟩)))
  refine ⟨.ref p, rfl, .inl ⟨rfl, _, .inl (.inl upd_same)⟩, is_run rfl (rr _) h5 ⟨p, _, _, rfl, rfl, upd_same, by rw [sizeLine_eq]; exact Nat.le_of_ble_eq_true rfl, ?_⟩⟩
  have up : Ex H (upd (upd H p (.lst [.bl b1, .bl b2, .bl b3, .bl b4])) p (.lst ([.bl b1, .bl b2, .bl b3, .bl b4] ++ [.bl b5]))) := fun b o e => by
    have ne : b ≠ p := fun y => by rw [y, hp] at e; cases e
    rw [upd_ne ne, upd_ne ne]
    exact e
  have s : StD K H (upd (upd H p (.lst [.bl b1, .bl b2, .bl b3, .bl b4])) p (.lst ([.bl b1, .bl b2, .bl b3, .bl b4] ++ [.bl b5]))) [some (.ref a), some (.ref p)] [.no, .own ([b1, b2, b3, b4, b5].map .bool)] := by
    refine ⟨H, Ex.refl _, up, rfl, fun i sl hi => ?_⟩
    match i, hi with
    | 0, hi => cases hi; trivial
    | 1, hi =>
      cases hi
      exact ⟨p, _, rfl, hp, upd_same, .cons (.bl _) (.cons (.bl _) (.cons (.bl _) (.cons (.bl _) (.cons (.bl _) .nil))))⟩
    | i + 2, hi => cases hi
  refine is_run rfl (fun u r => r) hv ⟨true, rfl, ?_⟩
  have cnt : EvTX K (tTest (tOp (rNeD K) (tBM K "list" (rCntB K) (tVar 1) (tCons (tC (.bl true)) tNil)) (tC (.int 1)))) [.no, .own ([b1, b2, b3, b4, b5].map .bool)] false :=
    xt_is (xt_test (ex_ne (ex_countB (ex_own rfl)) ex_int rfl rfl)) (by rw [hc]; rfl)
  refine cnt _ _ _ s _ (Ex.refl _) _ fun H3 e3 => ?_
  have ans : EvX K (tOp (rIx K) (tLst (tCons (tC (.str z1)) (tCons (tC (.str z2)) (tCons (tC (.str z3)) (tCons (tC (.str z4)) (tCons (tC (.str z5)) tNil)))))) (tBM K "list" (rIndexD K) (tVar 1) (tCons (tC (.bl true)) tNil))) [.no, .own ([b1, b2, b3, b4, b5].map .bool)] (.str z) := by
    refine ex_ixL (i := (j : Nat)) (ds := [.str z1, .str z2, .str z3, .str z4, .str z5]) (ex_new (xf_lst (ea_cons ex_str (ea_cons ex_str (ea_cons ex_str (ea_cons ex_str (ea_cons ex_str ea_nil))))) (Nat.le_of_ble_eq_true rfl))) (ex_index (j := j) (z := .bool true) (ex_own rfl) ex_bl rfl rfl ?_ rfl ?_) ?_
    · rw [List.getElem?_map, hj]
      rfl
    · intro m y hm hy
      rw [List.getElem?_map] at hy
      cases e : ([b1, b2, b3, b4, b5] : List Bool)[m]? with
      | none => rw [e] at hy; cases hy
      | some b =>
        rw [e] at hy
        cases hy
        have q := List.all_eq_true.mp hn b (List.mem_of_getElem? (i := m) (by rw [List.getElem?_take_of_lt hm]; exact e))
        cases b with
        | true => cases q
        | false => rfl
    · refine atI_nat ?_
      have e : ([PyData.str z1, .str z2, .str z3, .str z4, .str z5] : List PyData) = [z1, z2, z3, z4, z5].map .str := rfl
      rw [e, List.getElem?_map, hz]
      rfl
  exact ans _ _ _ (s.grow e3) _ (Ex.refl _) _ fun v H4 e4 r => by
    rw [r.str_inv]
    exact q H4 ((up.trans e3).trans e4)
end

/-! ### try: .. except X as e: return kind(e) -/
section
variable {X : Cx} {x m : Str} {cH : Addr} {i : Nat} {body suite : List Stmt} {b₀ : Stmt} {np pos pos' : Pos} {tb : WX → TS} {C : Addr} {ts : Addr → TS}
def onlyC (C : Addr) (ts : Addr → TS) : Addr → Value → Option Addr → TS := fun a cls d D σ H => cls = .ref C ∧ d = none ∧ ts a D σ H
def tTried (K : PySem.W.Frag) (cH : Addr) (i : Nat) (C : Addr) (tb : WX → TS) (ts : Addr → TS) : TS := fun D σ H => tb (wAs K (.ref cH) i (onlyC C ts) (fun _ _ _ _ => False) D) D σ H
theorem ps_tried (hs : X.stack = X.env :: X.outer) (hf : X.env.frame = some X.env.locals) (hN : X.N.Nodup) (hi : X.N[i]? = some m) (hln : X.env.kindOf m = some .local) (hg : Gl X x) (hm : X.mg x = some (.ref cH))
    (hb : ∀ (W : WX) (pn : List (Addr × Obj)) (xe : Value → Shared → Prop), L2N.Takes (X.tr pn xe) W → PassesOwn (model X.prog X.w) X.A X.env xe → PSs (X.tr pn xe) body (tb W))
    (hsu : ∀ (a : Addr) (oe : Obj) (pn : List (Addr × Obj)), Zc (.ref C) none oe → (∃ vs, oe.data = .fields vs) → PSs (X.suite a ((a, oe) :: pn)) (b₀ :: suite) (ts a)) (hdb : (x == ("__debug__" : Str)) = false := by decide) :
    PS X (.Try body [.ExceptHandler (some (.Name x np)) (some m) (b₀ :: suite) pos'] [] [] pos) (tTried X.K cH i C tb ts) := by
  refine L2N.ps_try_as (Wout := fun _ _ _ _ => False) (ts := onlyC C ts) hs hf hN hi hln ⟨hg, hdb, .inl hm⟩ (fun u s' z => ?_) hb fun a oe cls d pn hz hd => ?_
  · obtain ⟨_, _, _, _, _, _, _, _, _, _, _, _, _, _, _, _, z⟩ := z
    exact z.elim
  · refine ⟨fun pins s σ H D I h => ?_⟩
    obtain ⟨rfl, rfl, h⟩ := h
    exact (hsu a oe pn hz.zc hd).run pins s σ H D I h
end
theorem rx_tried {K : PySem.W.Frag} {cH C : Addr} {i : Nat} {tb : WX → TS} {ts : Addr → TS} {env : SE} {d : PyData} (hb : ∀ W, RunE K W C env.length (tb W) env) (hi : i < env.length) (he : PySem.W.exmOne K (.ref C) (.ref cH) = some true)
    (hts : ∀ (a : Addr) (D : Ends) (σ : L2.St) (H : Hp), σ[i]? = some (some (.ref a)) → (∀ v H', Ex H H' → Rp K H' v d → D.rt v H') → ts a D σ H) : RunX K (tTried K cH i C tb ts) env (.rt d) := fun Hb σ H D s g =>
  hb _ Hb σ H D s fun H' e σ' hl => ⟨true, he, fun _ a na => ⟨rfl, rfl, hts a _ _ H' (List.getElem?_set_self (by rw [hl]; exact hi)) fun v H2 e2 r => g v H2 (e.trans e2) r⟩, fun z => by cases z⟩
/-- the suite's call -/
def tKind (a : Addr) (z : Str) (te : TE) : TE := fun σ H Q => tCons te tNil σ H fun vs H1 => vs = [.ref a] ∧ ∀ H', Ex H1 H' → Q (.str z) H'
theorem pe_kind {X : Cx} {k : Nat} {f C a : Addr} {fd : FuncData} {ps : List Str} {x : Str} {q pos : Pos} {e : Expr} {te : TE} {oe : Obj} {z : Str} {pn : List (Addr × Obj)} (F : FnP X.prog X.w X.K X.mg X.base k f fd ps (spKind X.K C z)) (hr : L2H.RoomH k X.A)
    (hg : Gl X x) (hm : X.mg x = some (.ref f)) (hk : PySem.W.keepIn X.K (.ref f) = true) (hb : Binds X.K fd ps []) (hz : Zc (.ref C) none oe) (hd : ∃ vs, oe.data = .fields vs) (he : PE (X.suite a ((a, oe) :: pn)) e te)
    (hdb : (x == ("__debug__" : Str)) = false := by decide) (hst : starEach [e] X.env = [(false, eval e X.env)] := by rfl) :
    PE (X.suite a ((a, oe) :: pn)) (.Call (.Name x q) [e] [] pos) (tKind a z te) :=
  pe_callP (X := X.suite a ((a, oe) :: pn)) (p := (a, oe)) (R := fun vs H Q => vs = [.ref a] ∧ ∀ H', Ex H H' → Q (.str z) H') (fun vs H Q h => ⟨h.1, hz, hd, h.2⟩) F ⟨hr.dp, hr.un⟩ List.mem_cons_self hg hm hk hb (pa_cons he pa_nil (hs := hst)) hdb hst rfl
theorem rx_triedK {K : PySem.W.Frag} {cH C : Addr} {i : Nat} {tb : WX → TS} {env : SE} {z : Str} (hb : ∀ W, RunE K W C env.length (tb W) env) (hi : i < env.length) (he : PySem.W.exmOne K (.ref C) (.ref cH) = some true) :
    RunX K (tTried K cH i C tb (fun a => tRet (tKind a z (tVar i)))) env (.rt (.str z)) :=
  rx_tried hb hi he fun a D σ H h q => ⟨.ref a, h, rfl, fun H' e => q _ H' e (.str z)⟩
theorem un64H {k : Nat} {A : Around} (r : L2H.RoomH k A) : A.units + 64 < cLine := by have := r.un; omega
theorem un65H {k : Nat} {A : Around} (r : L2H.RoomH k A) : A.units + 65 < cLine := by have := r.un; omega
theorem op_eqK {X : Cx} {K : PySem.W.Frag} (hK : X.K = K) (hu : X.A.units + 64 < cLine) : OpR X (compareOp .Eq) (rEqD K) := by
  subst hK
  exact op_eqD hu
section
variable {K : PySem.W.Frag} {env : SE} {te ta tb : TE} {R : Hp → V → Hp → Prop} {d : PyData} {ds es : List PyData}
/-- any value -/
abbrev RAny : Hp → V → Hp → Prop := fun _ _ _ => True
theorem er_anyD (h : EvX K te env d) : EvRX K te env RAny := fun Hb σ H s Q q => h Hb σ H s H (Ex.refl H) Q fun v H2 e _ => q H v H2 (Ex.refl H) e trivial
theorem er_anyF (h : EvFX K te env ds) : EvRX K te env RAny := er_anyD (ex_new h)
theorem er_anyR (h : EvRX K te env R) : EvRX K te env RAny := fun Hb σ H s Q q => h Hb σ H s Q fun Hm v H' e1 e2 _ => q Hm v H' e1 e2 trivial
theorem rx_dropR (h : EvRX K te env R) : RunX K (tDrop te) env (.nx env) := fun Hb σ H D s g => h Hb σ H s _ fun Hm v H' e1 e2 _ => g σ H' (s.grow (e1.trans e2))
/-- xs * n -/
theorem xf_rep {k : Int} (ha : EvX K ta env (.list ds)) (hb : EvX K tb env (.int k)) (hk : 0 ≤ k ∧ k < 1000) (hl : ds.length * k.toNat ≤ 100000) : EvFX K (tOp rRep ta tb) env (List.replicate k.toNat ds).flatten := fun Hb σ H s H1 e1 Q q =>
  ha Hb σ H s H1 e1 _ fun v H2 e2 r => by
    obtain ⟨a, xs, rfl, h1, r1⟩ := r.lst_inv
    refine hb Hb σ H s H2 (e1.trans e2) _ fun w H3 e3 r2 => ?_
    rw [r2.int_inv]
    refine ⟨a, k, xs, rfl, rfl, e3 _ _ h1, by omega, by omega, ?_, fun p hp => ?_⟩
    · rw [r1.length, sizeLine_eq]
      omega
    · have rr : ∀ m : Nat, RpAll K H3 (List.replicate m xs).flatten (List.replicate m ds).flatten := fun m => by
        induction m with
        | zero => exact .nil
        | succ m ih =>
          rw [List.replicate_succ, List.replicate_succ, List.flatten_cons, List.flatten_cons]
          exact RpAll.append (r1.mono e3) ih
      exact q p _ H3 _ (fresh_back (e2.trans e3) hp) (e2.trans e3) (Ex.new hp) hp upd_same (rr _)
end
end LD
namespace HB
open PySem PySem.Spec L2 LSt LD
local macro_rules | `(tactic| wtm_at "side") => `(tactic| first
  | exact rfl
  | (left; omega)
  | (right; omega)
  | omega
  | (constructor <;> omega)
  | assumption)
local macro_rules | `(tactic| wtm_at "later") => `(tactic| first | wtm_at "side" | rotate_left)
local macro_rules | `(tactic| wtm_at "ev") => `(tactic| first
  | exact ex_var rfl
  | exact ex_int
  | exact ex_str
  | exact ex_bl
  | exact ex_non
  | exact ex_own rfl
  | (apply ex_I0; wtm_at "ev"; wtm_at "ev")
  | (apply ex_B0; wtm_at "ev"; wtm_at "ev")
  | (apply ex_I; wtm_at "ev"; wtm_at "ev"; wtm_at "later")
  | (apply ex_U; wtm_at "ev")
  | (apply ex_len; wtm_at "ev"; wtm_at "later")
  | (apply ex_abs; wtm_at "ev")
  | (apply ex_min2; wtm_at "ev"; wtm_at "ev")
  | (apply ex_max2; wtm_at "ev"; wtm_at "ev")
  | (apply ex_chainI; wtm_at "ev"; wtm_at "ev"; wtm_at "ev")
  | (apply ex_ixT; wtm_at "ev"; wtm_at "ev"; wtm_at "later")
  | (apply ex_ixL; wtm_at "ev"; wtm_at "ev"; wtm_at "later")
  | (apply ex_tup; wtm_at "ev"; exact Nat.le_of_ble_eq_true rfl)
  | (apply ea_cons; wtm_at "ev"; wtm_at "ev")
  | exact ea_nil)

/-! ### data and bounds -/
def Small (p : HP.Pt) : Prop := -1099511627776 ≤ p.1 ∧ p.1 ≤ 1099511627776 ∧ -1099511627776 ≤ p.2 ∧ p.2 ≤ 1099511627776
def Smalls (ps : List HP.Pt) : Prop := ps.length ≤ 1000 ∧ ∀ p ∈ ps, Small p
/-- a point of the plane's part -/
def Near (p : HP.Pt) : Prop := -1000 ≤ p.1 ∧ p.1 ≤ 1000 ∧ -1000 ≤ p.2 ∧ p.2 ≤ 1000
def Nears (ps : List HP.Pt) : Prop := ps.length < 64 ∧ ∀ p ∈ ps, Near p
theorem Near.small {p : HP.Pt} (h : Near p) : Small p := by unfold Near at h; unfold Small; omega
theorem Nears.smalls {ps : List HP.Pt} (h : Nears ps) : Smalls ps := ⟨by have := h.1; omega, fun p hp => (h.2 p hp).small⟩
theorem mul_bound {x y : Int} {a b : Nat} (hx : x.natAbs ≤ a) (hy : y.natAbs ≤ b) : (x * y).natAbs ≤ a * b := by
  rw [Int.natAbs_mul]
  exact Nat.mul_le_mul hx hy
theorem turn_bound {a b c : HP.Pt} (ha : Near a) (hb : Near b) (hc : Near c) : (HP.turn a b c).natAbs ≤ 8000000 := by
  unfold Near at *
  have h1 : ((b.1 - a.1) * (c.2 - a.2)).natAbs ≤ 2000 * 2000 := mul_bound (by omega) (by omega)
  have h2 : ((b.2 - a.2) * (c.1 - a.1)).natAbs ≤ 2000 * 2000 := mul_bound (by omega) (by omega)
  unfold HP.turn
  omega
/-- three ints -/
abbrev wD : HP.W → PyData := w3D
/-- a point and its part -/
def partD (x : HP.Pt × Int) : PyData := .tuple [ptD x.1, .int x.2]
theorem shaped_pt (p : HP.Pt) : SeqAt.shaped (ptD p) = true := rfl
theorem lay_pts : ∀ ps : List HP.Pt, PyData.canLayAll0 (ps.map ptD) = true
  | [] => rfl
  | p :: ps => by
    show (PyData.canLay0 (ptD p) && PyData.canLayAll0 (ps.map ptD)) = true
    rw [lay_pts ps]
    rfl
theorem depth_pts : ∀ ps : List HP.Pt, PyData.depthAll (ps.map ptD) ≤ 1
  | [] => by simp [PyData.depthAll]
  | p :: ps => by
    have h := depth_pts ps
    have h2 : (ptD p).depth = 1 := rfl
    simp only [List.map_cons, PyData.depthAll]
    omega
theorem shaped_pts (ps : List HP.Pt) : SeqAt.shaped (ptsD ps) = true := by
  have h := depth_pts ps
  have h2 : PyData.depth (ptsD ps) ≤ 64 := by
    unfold ptsD
    simp only [PyData.depth]
    omega
  show (PyData.canLay0 (ptsD ps) && decide (PyData.depth (ptsD ps) ≤ 64)) = true
  rw [Bool.and_eq_true]
  refine ⟨?_, decide_eq_true h2⟩
  unfold ptsD
  simp only [PyData.canLay0]
  exact lay_pts ps
theorem eqv_pt (p q : HP.Pt) : PyData.eqv (ptD p) (ptD q) = decide (p = q) := by
  obtain ⟨a, b⟩ := p
  obtain ⟨c, d⟩ := q
  have e : PyData.eqv (ptD (a, b)) (ptD (c, d)) = ((a == c) && ((b == d) && true)) := by simp only [ptD, PyData.eqv, PyData.eqvAll]
  rw [e]
  by_cases h1 : a = c
  · by_cases h2 : b = d
    · subst h1 h2; simp
    · simp [h2]
  · simp [h1]
theorem eqv_int (i j : Int) : PyData.eqv (.int i) (.int j) = decide (i = j) := by
  simp only [PyData.eqv]
  by_cases h : i = j <;> simp [h]
theorem eqv_pts : ∀ ps qs : List HP.Pt, PyData.eqvAll (ps.map ptD) (qs.map ptD) = decide (ps = qs)
  | [], [] => rfl
  | [], q :: qs => by simp [PyData.eqvAll]
  | p :: ps, [] => by simp [PyData.eqvAll]
  | p :: ps, q :: qs => by
    simp only [List.map_cons, PyData.eqvAll]
    rw [eqv_pt, eqv_pts ps qs]
    by_cases h1 : p = q
    · by_cases h2 : ps = qs <;> simp [h1, h2]
    · simp [h1]
theorem eqv_ptsD (ps qs : List HP.Pt) : PyData.eqv (ptsD ps) (ptsD qs) = decide (ps = qs) := by
  unfold ptsD
  simp only [PyData.eqv]
  exact eqv_pts ps qs
theorem cut_init {α : Type} (xs : List α) : cutD xs none (some (-1)) = xs.dropLast := by
  unfold cutD
  rw [HT.sIx_none, List.drop_zero, Nat.sub_zero, List.dropLast_eq_take]
  congr 1
  show (if (-1 : Int) < 0 then ((-1 : Int) + (xs.length : Int)).toNat else min (-1 : Int).toNat xs.length) = xs.length - 1
  rw [if_pos (by omega)]
  omega
/-- one line of the order of the points -/
theorem lexB_lt (p q : HP.Pt) : SrtO.lexB p q = decide (HP.lt p q) := by
  by_cases h : HP.lt p q
  · rw [decide_eq_true h]
    exact SrtO.lexB_iff.mpr h
  · rw [decide_eq_false h]
    exact SrtO.lexB_no.mpr h
theorem srt_of {m ps : List HP.Pt} (nd : m.Nodup) (hm : ∀ x, x ∈ m ↔ x ∈ ps) (hp : m.Pairwise fun p q => SrtO.lexB q p = false) : m = HP.srt ps := by
  refine HP.sorted_unique ?_ (HP.srt_sorted ps) fun x => (hm x).trans HP.mem_srt.symm
  refine List.Pairwise.imp (fun {p q} h => ?_) (List.Pairwise.and nd hp)
  obtain ⟨h1, h2⟩ := h
  rw [lexB_lt] at h2
  rcases HP.lt_tot p q with h | h | h
  · exact h
  · exact absurd h h1
  · exact absurd h (of_decide_eq_false h2)
theorem at_nat {α : Type} {xs : List α} {i : Int} {x : α} (h0 : 0 ≤ i) (h : xs[i.toNat]? = some x) : atI xs i = some x := by
  have : i = (i.toNat : Int) := by omega
  rw [this]
  exact atI_nat h
/-- xs.index(x), x a point of the list -/
theorem ex_indexP {K : PySem.W.Frag} {env : SE} {ta te : TE} {ps : List HP.Pt} {q : HP.Pt} (h1 : EvX K ta env (ptsD ps)) (h2 : EvX K te env (ptD q)) (hq : q ∈ ps) : EvX K (tBM K "list" (rIndexD K) ta (tCons te tNil)) env (.int (ps.idxOf q : Nat)) := by
  have hl := List.idxOf_lt_length_iff.mpr hq
  refine ex_index (j := ps.idxOf q) (z := ptD q) h1 h2 (shaped_pts ps) (shaped_pt q) ?_ ?_ fun m z' hm hz => ?_
  · rw [List.getElem?_map, List.getElem?_eq_getElem hl, List.getElem_idxOf hl]
    rfl
  · rw [eqv_pt]
    exact decide_eq_true rfl
  · rw [List.getElem?_map] at hz
    have hml : m < ps.length := by omega
    rw [List.getElem?_eq_getElem hml] at hz
    cases hz
    rw [eqv_pt]
    refine decide_eq_false fun e => ?_
    have := List.not_of_lt_findIdx (p := (· == q)) (xs := ps) (by simpa [List.idxOf] using hm)
    simp [e] at this
theorem code_le3 {u v : HP.W} (hu : (0 ≤ u.1 ∧ u.1 < bigB) ∧ (0 ≤ u.2.1 ∧ u.2.1 < bigB) ∧ (0 ≤ u.2.2 ∧ u.2.2 < bigB)) (hv : (0 ≤ v.1 ∧ v.1 < bigB) ∧ (0 ≤ v.2.1 ∧ v.2.1 < bigB) ∧ (0 ≤ v.2.2 ∧ v.2.2 < bigB))
    (h : TS.code bigB [u.1, u.2.1, u.2.2] ≤ TS.code bigB [v.1, v.2.1, v.2.2]) : HP.le3 u v = true := by
  have e : ∀ x : HP.W, TS.code bigB [x.1, x.2.1, x.2.2] = x.1 * 1208925819614629174706176 + (x.2.1 * 1099511627776 + x.2.2) := fun x => by
    show x.1 * bigB ^ 2 + (x.2.1 * bigB ^ 1 + (x.2.2 * bigB ^ 0 + 0)) = _
    unfold bigB
    omega
  rw [e, e] at h
  unfold bigB at hu hv
  unfold HP.le3
  rw [decide_eq_true_eq]
  omega
/-- a loop that searches, the answer a new list -/
theorem fr_findF {K : PySem.W.Frag} {α : Type} {g : TG} {tb : TS} (inj : α → PyData) (f : α → Option (List PyData)) (env : SE) (items : List α)
    (h : ∀ a ∈ items, ∃ e1, TgX K g env (inj a) e1 ∧ (∀ ds, f a = some ds → RunX K tb e1 (.rf ds)) ∧ (f a = none → RunX K tb e1 (.nx env))) :
    Fr K g tb (items.map inj) env (match items.findSome? f with | some ds => .rf ds | none => .nx env) := by
  induction items with
  | nil => exact .done
  | cons a items ih =>
    obtain ⟨e1, h1, h2, h3⟩ := h a (by simp)
    cases k : f a with
    | some d =>
      rw [List.findSome?_cons, k]
      exact .rf h1 (h2 d k)
    | none =>
      rw [List.findSome?_cons, k]
      exact .turn h1 (h3 k) (ih fun b hb => h b (List.mem_cons_of_mem _ hb))
theorem rx_findF {K : PySem.W.Frag} {env e : SE} {t u : TS} {out : Out} {α : Type} {f : α → Option (List PyData)} {items : List α} (h : RunX K t env (match items.findSome? f with | some d => .rf d | none => .nx e)) (h1 : ∀ d, items.findSome? f = some d → out = .rf d) (h2 : items.findSome? f = none → RunX K u e out) : RunX K (tSeq t u) env out := by
  cases k : items.findSome? f with
  | some d =>
    rw [k] at h
    rw [h1 d k]
    exact rx_end h rfl
  | none =>
    rw [k] at h
    exact rx_seq h (h2 k)
def outO : Option (List PyData) → Out
  | none => .rt .none
  | some es => .rf es
theorem un65 {k : Nat} {A : Around} (r : Room k A) : A.units + 65 < cLine := by have := r.un; omega
theorem find_map {α β γ : Type} (f : α → Option β) (g : β → γ) : ∀ l : List α, (l.findSome? fun a => (f a).map g) = (l.findSome? f).map g
  | [] => rfl
  | a :: l => by
    rw [List.findSome?_cons, List.findSome?_cons, find_map f g l]
    cases f a <;> rfl
/-- a body of statements, and what stands behind it -/
theorem rx_assoc1 {K : PySem.W.Frag} {env e : SE} {t w : TS} {out : Out} (h : RunX K t env (.nx e)) (h2 : RunX K w e out) : RunX K (tSeq t w) env out := rx_seq h h2
theorem atI_pts {rim : List HP.Pt} {i : Int} (h0 : 0 ≤ i) (h : i < rim.length) : atI (rim.map ptD) i = some (ptD (HP.atN rim i.toNat)) := by
  refine at_nat h0 ?_
  have hi : i.toNat < rim.length := by omega
  rw [List.getElem?_map, List.getElem?_eq_getElem hi]
  unfold HP.atN
  rw [List.getD_eq_getElem?_getD, List.getElem?_eq_getElem hi]
  rfl
/-- what a search ends with -/
abbrev outF (o : Option PyData) (e : SE) : Out := match o with
  | some d => .rt d
  | none => .nx e
theorem fr_findM {K : PySem.W.Frag} {α : Type} {g : TG} {tb : TS} (inj : α → PyData) (f : α → Option PyData) (env : SE) (items : List α)
    (h : ∀ a ∈ items, ∃ e1, TgX K g env (inj a) e1 ∧ RunX K tb e1 (outF (f a) env)) : Fr K g tb (items.map inj) env (outF (items.findSome? f) env) :=
  fr_find inj f env items fun a ha => by
    obtain ⟨e1, h1, h2⟩ := h a ha
    exact ⟨e1, h1, fun d hd => by rw [hd] at h2; exact h2, fun hn => by rw [hn] at h2; exact h2⟩
theorem rx_postM {K : PySem.W.Frag} {env e e' : SE} {t : TS} {o : Option PyData} (h : RunX K t env (outF o e)) (k : Wk e e') : RunX K t env (outF o e') := by
  cases o with
  | none => exact rx_post h k
  | some d => exact h
theorem nodup_len : ∀ {l m : List HP.Pt}, l.Nodup → (∀ x ∈ l, x ∈ m) → l.length ≤ m.length
  | [], _, _, _ => Nat.zero_le _
  | a :: l, m, h, k => by
    obtain ⟨h1, h2⟩ := List.nodup_cons.mp h
    have ha : a ∈ m := k a (by simp)
    have := nodup_len (m := m.erase a) h2 fun x hx => (List.mem_erase_of_ne (fun e : x = a => h1 (by rw [← e]; exact hx))).mpr (k x (List.mem_cons_of_mem _ hx))
    rw [List.length_erase_of_mem ha] at this
    have := List.length_pos_of_mem ha
    simp only [List.length_cons]
    omega
theorem rim_len (ps : List HP.Pt) : (HP.cornersOf ps).length ≤ ps.length := by
  have R := HP.rim_ok ps
  exact nodup_len R.nodup R.sub
theorem fold_snoc' {α β : Type} (f : α → β) : ∀ (l : List α) (s : List β), l.foldl (fun s a => s ++ [f a]) s = s ++ l.map f
  | [], s => by simp
  | a :: l, s => by
    rw [List.foldl_cons, fold_snoc' f l]
    simp

/-! ### the text -/
def topS (i : Nat) : Stmt := PySem.Challenge.pw_hullpart_k11_no_point.main.body.getD i (.Pass ⟨0, 0, 0, 0⟩)
abbrev s_ask_point : Stmt := topS 10
abbrev N_ask_point : List Str := ["point", "place"]
theorem sc_ask_point : FnScope N_ask_point ["point"] (defScope s_ask_point) := ⟨rfl, rfl, rfl, by decide +kernel, rfl, by decide +kernel, by decide +kernel⟩
abbrev s_ask_points : Stmt := topS 11
abbrev N_ask_points : List Str := ["points", "point"]
theorem sc_ask_points : FnScope N_ask_points ["points"] (defScope s_ask_points) := ⟨rfl, rfl, rfl, by decide +kernel, rfl, by decide +kernel, by decide +kernel⟩
abbrev s_common : Stmt := topS 12
abbrev N_common : List Str := ["one", "other", "rest"]
theorem sc_common : FnScope N_common ["one", "other"] (defScope s_common) := ⟨rfl, rfl, rfl, by decide +kernel, rfl, by decide +kernel, by decide +kernel⟩
abbrev s_ask_spot : Stmt := topS 13
abbrev N_ask_spot : List Str := ["spot"]
theorem sc_ask_spot : FnScope N_ask_spot ["spot"] (defScope s_ask_spot) := ⟨rfl, rfl, rfl, by decide +kernel, rfl, by decide +kernel, by decide +kernel⟩
abbrev s_spot_of : Stmt := topS 14
abbrev N_spot_of : List Str := ["first", "second", "below", "both"]
theorem sc_spot_of : FnScope N_spot_of ["first", "second", "below"] (defScope s_spot_of) := ⟨rfl, rfl, rfl, by decide +kernel, rfl, by decide +kernel, by decide +kernel⟩
abbrev s_weight : Stmt := topS 15
abbrev N_weight : List Str := ["number", "above", "below", "both"]
theorem sc_weight : FnScope N_weight ["number", "above", "below"] (defScope s_weight) := ⟨rfl, rfl, rfl, by decide +kernel, rfl, by decide +kernel, by decide +kernel⟩
abbrev s_turn : Stmt := topS 16
abbrev N_turn : List Str := ["one", "other", "third"]
theorem sc_turn : FnScope N_turn ["one", "other", "third"] (defScope s_turn) := ⟨rfl, rfl, rfl, by decide +kernel, rfl, by decide +kernel, by decide +kernel⟩
abbrev s_line_through : Stmt := topS 17
abbrev N_line_through : List Str := ["one", "other", "first", "second"]
theorem sc_line_through : FnScope N_line_through ["one", "other"] (defScope s_line_through) := ⟨rfl, rfl, rfl, by decide +kernel, rfl, by decide +kernel, by decide +kernel⟩
abbrev s_half_round : Stmt := topS 19
abbrev N_half_round : List Str := ["rows", "found", "point"]
theorem sc_half_round : FnScope N_half_round ["rows"] (defScope s_half_round) := ⟨rfl, rfl, rfl, by decide +kernel, rfl, by decide +kernel, by decide +kernel⟩
abbrev s_corners_of : Stmt := topS 20
abbrev N_corners_of : List Str := ["points", "rows"]
theorem sc_corners_of : FnScope N_corners_of ["points"] (defScope s_corners_of) := ⟨rfl, rfl, rfl, by decide +kernel, rfl, by decide +kernel, by decide +kernel⟩
abbrev s_corners : Stmt := topS 21
abbrev N_corners : List Str := ["points"]
theorem sc_corners : FnScope N_corners ["points"] (defScope s_corners) := ⟨rfl, rfl, rfl, by decide +kernel, rfl, by decide +kernel, by decide +kernel⟩
abbrev s_on_segment : Stmt := topS 22
abbrev N_on_segment : List Str := ["points", "one", "other", "point", "k", "whole", "part"]
theorem sc_on_segment : FnScope N_on_segment ["points", "one", "other", "point"] (defScope s_on_segment) := ⟨rfl, rfl, rfl, by decide +kernel, rfl, by decide +kernel, by decide +kernel⟩
abbrev s_weighed : Stmt := topS 23
abbrev N_weighed : List Str := ["points", "parts", "whole", "found", "point", "above"]
theorem sc_weighed : FnScope N_weighed ["points", "parts", "whole"] (defScope s_weighed) := ⟨rfl, rfl, rfl, by decide +kernel, rfl, by decide +kernel, by decide +kernel⟩
abbrev s_in_three : Stmt := topS 24
abbrev N_in_three : List Str := ["points", "one", "other", "third", "point", "parts", "part"]
theorem sc_in_three : FnScope N_in_three ["points", "one", "other", "third", "point"] (defScope s_in_three) := ⟨rfl, rfl, rfl, by decide +kernel, rfl, by decide +kernel, by decide +kernel⟩
abbrev s_within : Stmt := topS 25
abbrev N_within : List Str := ["points", "point", "rim", "k", "found"]
theorem sc_within : FnScope N_within ["points", "point"] (defScope s_within) := ⟨rfl, rfl, rfl, by decide +kernel, rfl, by decide +kernel, by decide +kernel⟩
abbrev s_along : Stmt := topS 26
abbrev N_along : List Str := ["one", "other", "point", "first", "second", "near"]
theorem sc_along : FnScope N_along ["one", "other", "point"] (defScope s_along) := ⟨rfl, rfl, rfl, by decide +kernel, rfl, by decide +kernel, by decide +kernel⟩
abbrev s_shut_out : Stmt := topS 27
abbrev N_shut_out : List Str := ["points", "point", "rim", "first", "second", "k", "one", "other"]
theorem sc_shut_out : FnScope N_shut_out ["points", "point"] (defScope s_shut_out) := ⟨rfl, rfl, rfl, by decide +kernel, rfl, by decide +kernel, by decide +kernel⟩
abbrev s_placed : Stmt := topS 28
abbrev N_placed : List Str := ["points", "point", "found"]
theorem sc_placed : FnScope N_placed ["points", "point"] (defScope s_placed) := ⟨rfl, rfl, rfl, by decide +kernel, rfl, by decide +kernel, by decide +kernel⟩
abbrev s_sides : Stmt := topS 30
abbrev N_sides : List Str := ["ones", "others", "first", "second", "least", "most", "point"]
theorem sc_sides : FnScope N_sides ["ones", "others", "first", "second"] (defScope s_sides) := ⟨rfl, rfl, rfl, by decide +kernel, rfl, by decide +kernel, by decide +kernel⟩
abbrev s_ways_of : Stmt := topS 31
abbrev N_ways_of : List Str := ["points", "found", "one", "other", "first", "second"]
theorem sc_ways_of : FnScope N_ways_of ["points"] (defScope s_ways_of) := ⟨rfl, rfl, rfl, by decide +kernel, rfl, by decide +kernel, by decide +kernel⟩
abbrev s_parting_line : Stmt := topS 32
abbrev N_parting_line : List Str := ["ones", "others", "first", "second", "found"]
theorem sc_parting_line : FnScope N_parting_line ["ones", "others"] (defScope s_parting_line) := ⟨rfl, rfl, rfl, by decide +kernel, rfl, by decide +kernel, by decide +kernel⟩
abbrev s_crossing : Stmt := topS 33
abbrev N_crossing : List Str := ["ones", "others", "a", "b", "c", "d", "found"]
theorem sc_crossing : FnScope N_crossing ["ones", "others"] (defScope s_crossing) := ⟨rfl, rfl, rfl, by decide +kernel, rfl, by decide +kernel, by decide +kernel⟩
abbrev s_crossed : Stmt := topS 34
abbrev N_crossed : List Str := ["ones", "others", "a", "b", "c", "d", "p", "q", "r", "s", "below", "first", "second", "mine", "theirs"]
theorem sc_crossed : FnScope N_crossed ["ones", "others", "a", "b", "c", "d"] (defScope s_crossed) := ⟨rfl, rfl, rfl, by decide +kernel, rfl, by decide +kernel, by decide +kernel⟩
abbrev s_meeting : Stmt := topS 35
abbrev N_meeting : List Str := ["ones", "others", "k", "found"]
theorem sc_meeting : FnScope N_meeting ["ones", "others"] (defScope s_meeting) := ⟨rfl, rfl, rfl, by decide +kernel, rfl, by decide +kernel, by decide +kernel⟩
abbrev s_parted : Stmt := topS 36
abbrev N_parted : List Str := ["ones", "others", "line"]
theorem sc_parted : FnScope N_parted ["ones", "others"] (defScope s_parted) := ⟨rfl, rfl, rfl, by decide +kernel, rfl, by decide +kernel, by decide +kernel⟩
abbrev s_four_parted : Stmt := topS 37
abbrev N_four_parted : List Str := ["points", "some", "rest", "found", "k"]
theorem sc_four_parted : FnScope N_four_parted ["points"] (defScope s_four_parted) := ⟨rfl, rfl, rfl, by decide +kernel, rfl, by decide +kernel, by decide +kernel⟩
abbrev s_seen_from : Stmt := topS 39
abbrev N_seen_from : List Str := ["points", "spot", "point"]
theorem sc_seen_from : FnScope N_seen_from ["points", "spot"] (defScope s_seen_from) := ⟨rfl, rfl, rfl, by decide +kernel, rfl, by decide +kernel, by decide +kernel⟩
abbrev s_counted : Stmt := topS 40
abbrev N_counted : List Str := ["ways", "first", "second", "way"]
theorem sc_counted : FnScope N_counted ["ways", "first", "second"] (defScope s_counted) := ⟨rfl, rfl, rfl, by decide +kernel, rfl, by decide +kernel, by decide +kernel⟩
abbrev s_leanings : Stmt := topS 41
abbrev N_leanings : List Str := ["ways", "great", "way", "found", "first", "second", "side", "lean", "one"]
theorem sc_leanings : FnScope N_leanings ["ways"] (defScope s_leanings) := ⟨rfl, rfl, rfl, by decide +kernel, rfl, by decide +kernel, by decide +kernel⟩
abbrev s_depth : Stmt := topS 42
abbrev N_depth : List Str := ["points", "spot", "ways", "best", "first", "second", "many", "line"]
theorem sc_depth : FnScope N_depth ["points", "spot"] (defScope s_depth) := ⟨rfl, rfl, rfl, by decide +kernel, rfl, by decide +kernel, by decide +kernel⟩
abbrev s_middle : Stmt := topS 43
abbrev N_middle : List Str := ["points"]
theorem sc_middle : FnScope N_middle ["points"] (defScope s_middle) := ⟨rfl, rfl, rfl, by decide +kernel, rfl, by decide +kernel, by decide +kernel⟩
abbrev s_shown : Stmt := topS 45
abbrev N_shown : List Str := ["points", "point"]
theorem sc_shown : FnScope N_shown ["points"] (defScope s_shown) := ⟨rfl, rfl, rfl, by decide +kernel, rfl, by decide +kernel, by decide +kernel⟩
abbrev s__law_cell_at : Stmt := topS 47
abbrev N__law_cell_at : List Str := ["script", "k"]
theorem sc__law_cell_at : FnScope N__law_cell_at ["script", "k"] (defScope s__law_cell_at) := ⟨rfl, rfl, rfl, by decide +kernel, rfl, by decide +kernel, by decide +kernel⟩
abbrev s__law_next : Stmt := topS 48
abbrev N__law_next : List Str := ["seed"]
theorem sc__law_next : FnScope N__law_next ["seed"] (defScope s__law_next) := ⟨rfl, rfl, rfl, by decide +kernel, rfl, by decide +kernel, by decide +kernel⟩
abbrev s__law_points : Stmt := topS 49
abbrev N__law_points : List Str := ["script", "at", "most", "many", "span", "points", "k", "seed", "wide", "across", "point"]
theorem sc__law_points : FnScope N__law_points ["script", "at", "most"] (defScope s__law_points) := ⟨rfl, rfl, rfl, by decide +kernel, rfl, by decide +kernel, by decide +kernel⟩
abbrev s__law_bad : Stmt := topS 50
abbrev N__law_bad : List Str := ["points", "cell", "far", "place", "point", "at"]
theorem sc__law_bad : FnScope N__law_bad ["points", "cell"] (defScope s__law_bad) := ⟨rfl, rfl, rfl, by decide +kernel, rfl, by decide +kernel, by decide +kernel⟩
abbrev s__law_kind : Stmt := topS 51
abbrev N__law_kind : List Str := ["e", "kinds"]
theorem sc__law_kind : FnScope N__law_kind ["e"] (defScope s__law_kind) := ⟨rfl, rfl, rfl, by decide +kernel, rfl, by decide +kernel, by decide +kernel⟩
abbrev s__law_asked : Stmt := topS 52
abbrev N__law_asked : List Str := ["which", "points"]
theorem sc__law_asked : FnScope N__law_asked ["which", "points"] (defScope s__law_asked) := ⟨rfl, rfl, rfl, by decide +kernel, rfl, by decide +kernel, by decide +kernel⟩
abbrev s__law_tried : Stmt := topS 53
abbrev N__law_tried : List Str := ["which", "points", "e"]
theorem sc__law_tried : FnScope N__law_tried ["which", "points"] (defScope s__law_tried) := ⟨rfl, rfl, rfl, by decide +kernel, rfl, by decide +kernel, by decide +kernel⟩
abbrev s_law : Stmt := topS 54
abbrev N_law : List Str := ["script", "points", "cell", "bad", "which", "edge"]
theorem sc_law : FnScope N_law ["script"] (defScope s_law) := ⟨rfl, rfl, rfl, by decide +kernel, rfl, by decide +kernel, by decide +kernel⟩
/-- where the defs stand -/
structure Ad where
  a_ask_point : Addr
  d_ask_point : FuncData
  a_ask_points : Addr
  d_ask_points : FuncData
  a_common : Addr
  d_common : FuncData
  a_ask_spot : Addr
  d_ask_spot : FuncData
  a_spot_of : Addr
  d_spot_of : FuncData
  a_weight : Addr
  d_weight : FuncData
  a_turn : Addr
  d_turn : FuncData
  a_line_through : Addr
  d_line_through : FuncData
  a_half_round : Addr
  d_half_round : FuncData
  a_corners_of : Addr
  d_corners_of : FuncData
  a_corners : Addr
  d_corners : FuncData
  a_on_segment : Addr
  d_on_segment : FuncData
  a_weighed : Addr
  d_weighed : FuncData
  a_in_three : Addr
  d_in_three : FuncData
  a_within : Addr
  d_within : FuncData
  a_along : Addr
  d_along : FuncData
  a_shut_out : Addr
  d_shut_out : FuncData
  a_placed : Addr
  d_placed : FuncData
  a_sides : Addr
  d_sides : FuncData
  a_ways_of : Addr
  d_ways_of : FuncData
  a_parting_line : Addr
  d_parting_line : FuncData
  a_crossing : Addr
  d_crossing : FuncData
  a_crossed : Addr
  d_crossed : FuncData
  a_meeting : Addr
  d_meeting : FuncData
  a_parted : Addr
  d_parted : FuncData
  a_four_parted : Addr
  d_four_parted : FuncData
  a_seen_from : Addr
  d_seen_from : FuncData
  a_counted : Addr
  d_counted : FuncData
  a_leanings : Addr
  d_leanings : FuncData
  a_depth : Addr
  d_depth : FuncData
  a_middle : Addr
  d_middle : FuncData
  a_shown : Addr
  d_shown : FuncData
  a__law_cell_at : Addr
  d__law_cell_at : FuncData
  a__law_next : Addr
  d__law_next : FuncData
  a__law_points : Addr
  d__law_points : FuncData
  a__law_bad : Addr
  d__law_bad : FuncData
  a__law_kind : Addr
  d__law_kind : FuncData
  a__law_asked : Addr
  d__law_asked : FuncData
  a__law_tried : Addr
  d__law_tried : FuncData
  a_law : Addr
  d_law : FuncData
  t_MOST : Tok
  t_FAR : Tok
  c_HullError : Addr
  c_NoPoint : Addr
  c_NoSpot : Addr
  c_NoFour : Addr
  c_NoMiddle : Addr
  c_NoNote : Addr
/-- what the top leaves -/
structure Txt (K : PySem.W.Frag) (mg : Str → Option Value) (ad : Ad) : Prop where
  F_ask_point : Fun K "ask_point" "ask_point" s_ask_point ad.a_ask_point ad.d_ask_point
  g_ask_point : mg "ask_point" = some (.ref ad.a_ask_point)
  b_ask_point : Binds K ad.d_ask_point ["point"] []
  F_ask_points : Fun K "ask_points" "ask_points" s_ask_points ad.a_ask_points ad.d_ask_points
  g_ask_points : mg "ask_points" = some (.ref ad.a_ask_points)
  b_ask_points : Binds K ad.d_ask_points ["points"] []
  F_common : Fun K "common" "common" s_common ad.a_common ad.d_common
  g_common : mg "common" = some (.ref ad.a_common)
  b_common : Binds K ad.d_common ["one", "other"] []
  F_ask_spot : Fun K "ask_spot" "ask_spot" s_ask_spot ad.a_ask_spot ad.d_ask_spot
  g_ask_spot : mg "ask_spot" = some (.ref ad.a_ask_spot)
  b_ask_spot : Binds K ad.d_ask_spot ["spot"] []
  F_spot_of : Fun K "spot_of" "spot_of" s_spot_of ad.a_spot_of ad.d_spot_of
  g_spot_of : mg "spot_of" = some (.ref ad.a_spot_of)
  b_spot_of : Binds K ad.d_spot_of ["first", "second", "below"] []
  F_weight : Fun K "weight" "weight" s_weight ad.a_weight ad.d_weight
  g_weight : mg "weight" = some (.ref ad.a_weight)
  b_weight : Binds K ad.d_weight ["number", "above", "below"] []
  F_turn : Fun K "turn" "turn" s_turn ad.a_turn ad.d_turn
  g_turn : mg "turn" = some (.ref ad.a_turn)
  b_turn : Binds K ad.d_turn ["one", "other", "third"] []
  F_line_through : Fun K "line_through" "line_through" s_line_through ad.a_line_through ad.d_line_through
  g_line_through : mg "line_through" = some (.ref ad.a_line_through)
  b_line_through : Binds K ad.d_line_through ["one", "other"] []
  F_half_round : Fun K "half_round" "half_round" s_half_round ad.a_half_round ad.d_half_round
  g_half_round : mg "half_round" = some (.ref ad.a_half_round)
  b_half_round : Binds K ad.d_half_round ["rows"] []
  F_corners_of : Fun K "corners_of" "corners_of" s_corners_of ad.a_corners_of ad.d_corners_of
  g_corners_of : mg "corners_of" = some (.ref ad.a_corners_of)
  b_corners_of : Binds K ad.d_corners_of ["points"] []
  F_corners : Fun K "corners" "corners" s_corners ad.a_corners ad.d_corners
  g_corners : mg "corners" = some (.ref ad.a_corners)
  b_corners : Binds K ad.d_corners ["points"] []
  F_on_segment : Fun K "on_segment" "on_segment" s_on_segment ad.a_on_segment ad.d_on_segment
  g_on_segment : mg "on_segment" = some (.ref ad.a_on_segment)
  b_on_segment : Binds K ad.d_on_segment ["points", "one", "other", "point"] []
  F_weighed : Fun K "weighed" "weighed" s_weighed ad.a_weighed ad.d_weighed
  g_weighed : mg "weighed" = some (.ref ad.a_weighed)
  b_weighed : Binds K ad.d_weighed ["points", "parts", "whole"] []
  F_in_three : Fun K "in_three" "in_three" s_in_three ad.a_in_three ad.d_in_three
  g_in_three : mg "in_three" = some (.ref ad.a_in_three)
  b_in_three : Binds K ad.d_in_three ["points", "one", "other", "third", "point"] []
  F_within : Fun K "within" "within" s_within ad.a_within ad.d_within
  g_within : mg "within" = some (.ref ad.a_within)
  b_within : Binds K ad.d_within ["points", "point"] []
  F_along : Fun K "along" "along" s_along ad.a_along ad.d_along
  g_along : mg "along" = some (.ref ad.a_along)
  b_along : Binds K ad.d_along ["one", "other", "point"] []
  F_shut_out : Fun K "shut_out" "shut_out" s_shut_out ad.a_shut_out ad.d_shut_out
  g_shut_out : mg "shut_out" = some (.ref ad.a_shut_out)
  b_shut_out : Binds K ad.d_shut_out ["points", "point"] []
  F_placed : Fun K "placed" "placed" s_placed ad.a_placed ad.d_placed
  g_placed : mg "placed" = some (.ref ad.a_placed)
  b_placed : Binds K ad.d_placed ["points", "point"] []
  F_sides : Fun K "sides" "sides" s_sides ad.a_sides ad.d_sides
  g_sides : mg "sides" = some (.ref ad.a_sides)
  b_sides : Binds K ad.d_sides ["ones", "others", "first", "second"] []
  F_ways_of : Fun K "ways_of" "ways_of" s_ways_of ad.a_ways_of ad.d_ways_of
  g_ways_of : mg "ways_of" = some (.ref ad.a_ways_of)
  b_ways_of : Binds K ad.d_ways_of ["points"] []
  F_parting_line : Fun K "parting_line" "parting_line" s_parting_line ad.a_parting_line ad.d_parting_line
  g_parting_line : mg "parting_line" = some (.ref ad.a_parting_line)
  b_parting_line : Binds K ad.d_parting_line ["ones", "others"] []
  F_crossing : Fun K "crossing" "crossing" s_crossing ad.a_crossing ad.d_crossing
  g_crossing : mg "crossing" = some (.ref ad.a_crossing)
  b_crossing : Binds K ad.d_crossing ["ones", "others"] []
  F_crossed : Fun K "crossed" "crossed" s_crossed ad.a_crossed ad.d_crossed
  g_crossed : mg "crossed" = some (.ref ad.a_crossed)
  b_crossed : Binds K ad.d_crossed ["ones", "others", "a", "b", "c", "d"] []
  F_meeting : Fun K "meeting" "meeting" s_meeting ad.a_meeting ad.d_meeting
  g_meeting : mg "meeting" = some (.ref ad.a_meeting)
  b_meeting : Binds K ad.d_meeting ["ones", "others"] []
  F_parted : Fun K "parted" "parted" s_parted ad.a_parted ad.d_parted
  g_parted : mg "parted" = some (.ref ad.a_parted)
  b_parted : Binds K ad.d_parted ["ones", "others"] []
  F_four_parted : Fun K "four_parted" "four_parted" s_four_parted ad.a_four_parted ad.d_four_parted
  g_four_parted : mg "four_parted" = some (.ref ad.a_four_parted)
  b_four_parted : Binds K ad.d_four_parted ["points"] []
  F_seen_from : Fun K "seen_from" "seen_from" s_seen_from ad.a_seen_from ad.d_seen_from
  g_seen_from : mg "seen_from" = some (.ref ad.a_seen_from)
  b_seen_from : Binds K ad.d_seen_from ["points", "spot"] []
  F_counted : Fun K "counted" "counted" s_counted ad.a_counted ad.d_counted
  g_counted : mg "counted" = some (.ref ad.a_counted)
  b_counted : Binds K ad.d_counted ["ways", "first", "second"] []
  F_leanings : Fun K "leanings" "leanings" s_leanings ad.a_leanings ad.d_leanings
  g_leanings : mg "leanings" = some (.ref ad.a_leanings)
  b_leanings : Binds K ad.d_leanings ["ways"] []
  F_depth : Fun K "depth" "depth" s_depth ad.a_depth ad.d_depth
  g_depth : mg "depth" = some (.ref ad.a_depth)
  b_depth : Binds K ad.d_depth ["points", "spot"] []
  F_middle : Fun K "middle" "middle" s_middle ad.a_middle ad.d_middle
  g_middle : mg "middle" = some (.ref ad.a_middle)
  b_middle : Binds K ad.d_middle ["points"] []
  F_shown : Fun K "shown" "shown" s_shown ad.a_shown ad.d_shown
  g_shown : mg "shown" = some (.ref ad.a_shown)
  b_shown : Binds K ad.d_shown ["points"] []
  F__law_cell_at : Fun K "_law_cell_at" "_law_cell_at" s__law_cell_at ad.a__law_cell_at ad.d__law_cell_at
  g__law_cell_at : mg "_law_cell_at" = some (.ref ad.a__law_cell_at)
  b__law_cell_at : Binds K ad.d__law_cell_at ["script", "k"] []
  F__law_next : Fun K "_law_next" "_law_next" s__law_next ad.a__law_next ad.d__law_next
  g__law_next : mg "_law_next" = some (.ref ad.a__law_next)
  b__law_next : Binds K ad.d__law_next ["seed"] []
  F__law_points : Fun K "_law_points" "_law_points" s__law_points ad.a__law_points ad.d__law_points
  g__law_points : mg "_law_points" = some (.ref ad.a__law_points)
  b__law_points : Binds K ad.d__law_points ["script", "at", "most"] []
  F__law_bad : Fun K "_law_bad" "_law_bad" s__law_bad ad.a__law_bad ad.d__law_bad
  g__law_bad : mg "_law_bad" = some (.ref ad.a__law_bad)
  b__law_bad : Binds K ad.d__law_bad ["points", "cell"] []
  F__law_kind : Fun K "_law_kind" "_law_kind" s__law_kind ad.a__law_kind ad.d__law_kind
  g__law_kind : mg "_law_kind" = some (.ref ad.a__law_kind)
  b__law_kind : Binds K ad.d__law_kind ["e"] []
  F__law_asked : Fun K "_law_asked" "_law_asked" s__law_asked ad.a__law_asked ad.d__law_asked
  g__law_asked : mg "_law_asked" = some (.ref ad.a__law_asked)
  b__law_asked : Binds K ad.d__law_asked ["which", "points"] []
  F__law_tried : Fun K "_law_tried" "_law_tried" s__law_tried ad.a__law_tried ad.d__law_tried
  g__law_tried : mg "_law_tried" = some (.ref ad.a__law_tried)
  b__law_tried : Binds K ad.d__law_tried ["which", "points"] []
  F_law : Fun K "law" "law" s_law ad.a_law ad.d_law
  g_law : mg "law" = some (.ref ad.a_law)
  b_law : Binds K ad.d_law ["script"] []
  c_MOST : mg "MOST" = some (.int 12 ad.t_MOST)
  c_FAR : mg "FAR" = some (.int 1000 ad.t_FAR)
  n_len : mg "len" = none
  n_abs : mg "abs" = none
  n_sorted : mg "sorted" = none
  n_set : mg "set" = none
  n_list : mg "list" = none
  n_reversed : mg "reversed" = none
  n_min : mg "min" = none
  n_range : mg "range" = none
  n_max : mg "max" = none
  n_str : mg "str" = none
  n_isinstance : mg "isinstance" = none
  n_ValueError : mg "ValueError" = none
  g_HullError : mg "HullError" = some (.ref ad.c_HullError)
  R_HullError : RCls K ad.c_HullError
  g_NoPoint : mg "NoPoint" = some (.ref ad.c_NoPoint)
  R_NoPoint : RCls K ad.c_NoPoint
  g_NoSpot : mg "NoSpot" = some (.ref ad.c_NoSpot)
  R_NoSpot : RCls K ad.c_NoSpot
  g_NoFour : mg "NoFour" = some (.ref ad.c_NoFour)
  R_NoFour : RCls K ad.c_NoFour
  g_NoMiddle : mg "NoMiddle" = some (.ref ad.c_NoMiddle)
  R_NoMiddle : RCls K ad.c_NoMiddle
  g_NoNote : mg "NoNote" = some (.ref ad.c_NoNote)
  R_NoNote : RCls K ad.c_NoNote
  s_NoPoint_HullError : PySem.W.subIn K (.ref ad.c_NoPoint) (.ref ad.c_HullError) = some true
  s_NoPoint_NoSpot : PySem.W.subIn K (.ref ad.c_NoPoint) (.ref ad.c_NoSpot) = some false
  s_NoPoint_NoFour : PySem.W.subIn K (.ref ad.c_NoPoint) (.ref ad.c_NoFour) = some false
  s_NoPoint_NoMiddle : PySem.W.subIn K (.ref ad.c_NoPoint) (.ref ad.c_NoMiddle) = some false
  s_NoPoint_NoNote : PySem.W.subIn K (.ref ad.c_NoPoint) (.ref ad.c_NoNote) = some false

def F_ask_point : List PyData → Prop := fun ds => ∃ p : HP.Pt, ds = [ptD p] ∧ Near p
theorem ok_ask_point {P : Program} {w : World} {K : PySem.W.Frag} {mg : Str → Option Value} {base : Heap} {ad : Ad} (T : Txt K mg ad) : FnOk P w K mg base CX0 1 ad.a_ask_point ad.d_ask_point ["point"] (spD K fun ds d => F_ask_point ds ∧ d = .none) := by
  refine ok_N (k := 0) T.F_ask_point sc_ask_point (by rintro _ ⟨_, rfl, _⟩; rfl) (fun cdv A outer s H E hr ds hF => ?_)
  refine ⟨_, (pss_one (ps_for PassesOwn.never rfl (pi_tup (pv 0)) (pg_name (i := 1) sc_ask_point.nd rfl (Or.inl rfl)) (pss_one (ps_if (pt_not (pt_chain op_le op_le (pe_un un_neg (pe_glob (v := .int 1000) (by rfl) T.c_FAR ⟨_, rfl⟩)) (pv 1) (pe_glob (v := .int 1000) (by rfl) T.c_FAR ⟨_, rfl⟩))) (pss_one ps_never) pss_nil)))), ?_⟩
  obtain ⟨p, rfl, h⟩ := hF
  refine ⟨[.dat (ptD p), .no], ?_⟩
  refine rx_forT (ex_var rfl) rfl ?_
  have one : ∀ i : Int, -1000 ≤ i → i ≤ 1000 → (!(decide (-1000 ≤ i) && decide (i ≤ 1000))) = false := fun i h1 h2 => by simp [h1, h2]
  unfold Near at h
  refine fr_all (α := Int) .int [.dat (ptD p), .no] [p.1, p.2] fun i hi => ⟨_, tg_name' (e' := [.dat (ptD p), .dat (.int i)]) rfl, ?_⟩
  refine rx_post (e := [.dat (ptD p), .dat (.int i)]) ?_ (.keep (.drop .nil))
  refine rx_if (xt_is (xt_not (xt_test (by wtm_at "ev"))) (one i ?_ ?_)) (fun e => by cases e) (fun _ => rx_next)
  · simp only [List.mem_cons, List.not_mem_nil, or_false] at hi
    rcases hi with e | e <;> subst e <;> omega
  · simp only [List.mem_cons, List.not_mem_nil, or_false] at hi
    rcases hi with e | e <;> subst e <;> omega

def F_ask_points : List PyData → Prop := fun ds => ∃ ps : List HP.Pt, ds = [ptsD ps] ∧ ps.length ≤ 12 ∧ ∀ p ∈ ps, Near p
theorem ok_ask_points {P : Program} {w : World} {K : PySem.W.Frag} {mg : Str → Option Value} {base : Heap} {ad : Ad} (T : Txt K mg ad) : FnOk P w K mg base CX0 2 ad.a_ask_points ad.d_ask_points ["points"] (spD K fun ds d => F_ask_points ds ∧ d = .none) := by
  have G_ask_point := ok_ask_point (P := P) (w := w) (base := base) T
  refine ok_N (k := 1) T.F_ask_points sc_ask_points (by rintro _ ⟨_, rfl, _⟩; rfl) (fun cdv A outer s H E hr ds hF => ?_)
  refine ⟨_, (pss_cons (ps_if (pt_cmpR op_gt (pe_callB call_len (by rfl) T.n_len PySem.boot_len (pa_cons (pv 0) pa_nil)) (pe_glob (v := .int 12) (by rfl) T.c_MOST ⟨_, rfl⟩) (nomark _)) (pss_one ps_never) pss_nil)
      (pss_one (ps_for PassesOwn.never rfl (pi_list (pv 0)) (pg_name (i := 1) sc_ask_points.nd rfl (Or.inl rfl)) (pss_one (ps_expr (pe_call G_ask_point (hr.mono (by decide)) (by rfl) T.g_ask_point T.F_ask_point.kp T.b_ask_point .nil pass0 (pa_cons (pv 1) pa_nil))))))), ?_⟩
  obtain ⟨ps, rfl, hl, h⟩ := hF
  refine ⟨[.dat (ptsD ps), .no], ?_⟩
  refine rx_ifS (b := false) (xt_is (xt_test (by wtm_at "ev")) ?_) (fun e => by cases e) fun _ => rx_nextS ?_
  · simp only [List.length_map]
    exact decide_eq_false (by omega)
  refine rx_forV rfl ?_
  refine fr_all ptD [.dat (ptsD ps), .no] ps fun p hp => ⟨_, tg_name' (e' := [.dat (ptsD ps), .dat (ptD p)]) rfl, ?_⟩
  refine rx_post (e := [.dat (ptsD ps), .dat (ptD p)]) ?_ (.keep (.drop .nil))
  exact rx_drop (ex_call (ea_cons (ex_var rfl) ea_nil) ⟨⟨p, rfl, h p hp⟩, rfl⟩)

def F_common : List PyData → PyData → Prop := fun ds d => ∃ a b : Int, ds = [.int a, .int b] ∧ d = .int (Int.gcd a b : Nat)
theorem ok_common {P : Program} {w : World} {K : PySem.W.Frag} {mg : Str → Option Value} {base : Heap} {ad : Ad} (T : Txt K mg ad) : FnOk P w K mg base CX0 1 ad.a_common ad.d_common ["one", "other"] (spD K F_common) := by
  refine ok_D (k := 0) T.F_common sc_common (by rintro _ _ ⟨_, _, rfl, _⟩; rfl) (fun cdv A outer s H E hr ds res hF => ?_)
  refine ⟨_, (pss_cons (ps_set (i := 0) sc_common.nd rfl (Or.inl rfl) (pe_callB call_abs (by rfl) T.n_abs (by decide +kernel) (pa_cons (pv 0) pa_nil)))
      (pss_cons (ps_set (i := 1) sc_common.nd rfl (Or.inl rfl) (pe_callB call_abs (by rfl) T.n_abs (by decide +kernel) (pa_cons (pv 1) pa_nil)))
      (pss_cons (ps_while PassesOwn.never (pt_cmpR op_gt (pv 1) pe_int (nomark _)) (pss_cons (ps_set (i := 2) sc_common.nd rfl (Or.inl rfl) (pe_op op_mod (pv 0) (pv 1)))
      (pss_cons (ps_set (i := 0) sc_common.nd rfl (Or.inl rfl) (pv 1))
      (pss_one (ps_set (i := 1) sc_common.nd rfl (Or.inl rfl) (pv 2))))))
      (pss_one (ps_ret (pv 0)))))), ?_⟩
  obtain ⟨a, b, rfl, rfl⟩ := hF
  have ab : ∀ i : Int, (if i < 0 then -i else i) = ((i.natAbs : Nat) : Int) := fun i => by split <;> omega
  refine rx_seq (e1 := [.dat (.int (a.natAbs : Nat)), .dat (.int b), .no]) (rx_post (rx_asg (ex_abs (ex_var rfl)) rfl) ?_) ?_
  · rw [← ab a]; exact Wk.refl _
  refine rx_seq (e1 := [.dat (.int (a.natAbs : Nat)), .dat (.int (b.natAbs : Nat)), .no]) (rx_post (rx_asg (ex_abs (ex_var rfl)) rfl) ?_) ?_
  · rw [← ab b]; exact Wk.refl _
  refine rx_seq (e1 := [.dat (.int (Int.gcd a b : Nat)), .no, .no]) ?_ (rx_ret (ex_var rfl))
  refine rx_whileP (α := Nat × Nat) (fun z => [.dat (.int (z.1 : Nat)), .dat (.int (z.2 : Nat)), .no]) (fun z => Nat.gcd z.1 z.2 = Int.gcd a b) (fun z => decide ((0 : Int) < (z.2 : Nat))) (fun z => (z.2, z.1 % z.2)) (fun z => z.2) (a.natAbs, b.natAbs) rfl ?_ ?_ ?_
  · intro z _
    exact xt_test (by wtm_at "ev")
  · intro z hz hc
    have hp : 0 < z.2 := by simpa using hc
    refine ⟨?_, ?_, Nat.mod_lt _ hp⟩
    · refine rx_seq (rx_asg (ex_I (ex_var rfl) (ex_var rfl) (by omega)) rfl) (rx_seq (rx_asg (ex_var rfl) rfl) (rx_post (rx_asg (ex_var rfl) rfl) ?_))
      exact .keep (.keep (.drop .nil))
    · rw [← hz, Nat.gcd_comm z.1 z.2]
      exact (Nat.gcd_rec z.2 z.1).symm ▸ (by rw [Nat.gcd_comm])
  · intro z hz hc
    have h0 : z.2 = 0 := by simpa using hc
    rw [h0, Nat.gcd_zero_right] at hz
    show Wk [.dat (.int (z.1 : Nat)), _, _] _
    rw [hz]
    exact .keep (.drop (.drop .nil))

def SpotB (u : HP.W) : Prop := u.1.natAbs ≤ 1125899906842624 ∧ u.2.1.natAbs ≤ 1125899906842624 ∧ u.2.2.natAbs ≤ 1125899906842624
def waysFrom (ps : List HP.Pt) (u : HP.W) : List HP.Pt := ps.map fun p => (p.1 * u.2.2 - u.1, p.2 * u.2.2 - u.2.1)
def Wbig (ws : List HP.Pt) : Prop := ws.length ≤ 1000 ∧ ∀ w ∈ ws, w.1.natAbs ≤ 2305843009213693952 ∧ w.2.natAbs ≤ 2305843009213693952
theorem waysFrom_big {ps : List HP.Pt} {u : HP.W} (h : Nears ps) (hu : SpotB u) : Wbig (waysFrom ps u) := by
  unfold SpotB at hu
  refine ⟨by unfold waysFrom; rw [List.length_map]; have := h.1; omega, fun w hw => ?_⟩
  obtain ⟨p, hp, rfl⟩ := List.mem_map.mp hw
  have hn := h.2 p hp
  unfold Near at hn
  have h1 : (p.1 * u.2.2).natAbs ≤ 1000 * 1125899906842624 := mul_bound (by omega) hu.2.2
  have h2 : (p.2 * u.2.2).natAbs ≤ 1000 * 1125899906842624 := mul_bound (by omega) hu.2.2
  simp only
  omega
abbrev lawWays := waysFrom
theorem lawWays_big {ps : List HP.Pt} {u : HP.W} (h : Nears ps) (hu : SpotB u) : Wbig (lawWays ps u) := waysFrom_big h hu
def F_ask_spot : List PyData → Prop := fun ds => ∃ u : HP.W, ds = [wD u] ∧ HP.SpotOk u
theorem ok_ask_spot {P : Program} {w : World} {K : PySem.W.Frag} {mg : Str → Option Value} {base : Heap} {ad : Ad} (T : Txt K mg ad) : FnOk P w K mg base CX0 2 ad.a_ask_spot ad.d_ask_spot ["spot"] (spD K fun ds d => F_ask_spot ds ∧ d = .none) := by
  have G_common := ok_common (P := P) (w := w) (base := base) T
  refine ok_N (k := 1) T.F_ask_spot sc_ask_spot (by rintro _ ⟨_, rfl, _⟩; rfl) (fun cdv A outer s H E hr ds hF => ?_)
  refine ⟨_, (pss_one (ps_if (PW.pt (pw_or (pt_cmpR op_lt (pe_ix ix_seq (pv 0) pe_int (fun _ _ => rfl)) pe_int (nomark _)) (pw_or1 (pt_cmpR (op_neD hr.units) (pe_call G_common (hr.mono (by decide)) (by rfl) T.g_common T.F_common.kp T.b_common .nil pass0 (pa_cons (pe_call G_common (hr.mono (by decide)) (by rfl) T.g_common T.F_common.kp T.b_common .nil pass0 (pa_cons (pe_ix ix_seq (pv 0) pe_int (fun _ _ => rfl)) (pa_cons (pe_ix ix_seq (pv 0) pe_int (fun _ _ => rfl)) pa_nil))) (pa_cons (pe_ix ix_seq (pv 0) pe_int (fun _ _ => rfl)) pa_nil))) pe_int (nomark _))))) (pss_one ps_never) pss_nil)), ?_⟩
  obtain ⟨u, rfl, h1, h2⟩ := hF
  have ux : ∀ (e : SE), e[0]? = some (.dat (wD u)) → EvX K (tOp (rIx K) (tVar 0) (tC (.int 0))) e (.int u.1) ∧ EvX K (tOp (rIx K) (tVar 0) (tC (.int 1))) e (.int u.2.1) ∧ EvX K (tOp (rIx K) (tVar 0) (tC (.int 2))) e (.int u.2.2) := fun e h => ⟨ex_ixT (ds := [.int u.1, .int u.2.1, .int u.2.2]) (ex_var h) ex_int rfl, ex_ixT (ds := [.int u.1, .int u.2.1, .int u.2.2]) (ex_var h) ex_int rfl, ex_ixT (ds := [.int u.1, .int u.2.1, .int u.2.2]) (ex_var h) ex_int rfl⟩
  refine ⟨[.dat (wD u)], ?_⟩
  refine rx_if (b := false) (xt_is (xt_or (a := decide (u.2.2 < 1)) (b := false) (xt_test (ex_B0 (g := fun i j => decide (i < j)) (ux _ rfl).2.2 ex_int)) fun _ => xt_is (xt_test (ex_ne (ex_call (ea_cons (ex_call (ea_cons (ux _ rfl).1 (ea_cons (ux _ rfl).2.1 ea_nil)) ⟨_, _, rfl, rfl⟩) (ea_cons (ux _ rfl).2.2 ea_nil)) ⟨_, _, rfl, rfl⟩) ex_int rfl rfl)) ?_) (by rw [decide_eq_false (by omega)]; rfl)) (fun e => by cases e) (fun _ => rx_next)
  rw [eqv_int, h2]
  rfl

def F_spot_of : List PyData → PyData → Prop := fun ds d => ∃ f s b : Int, ds = [.int f, .int s, .int b] ∧ b ≠ 0 ∧ b.natAbs < 1073741824 ∧ d = wD (HP.spotOf f s b)
theorem spotGcd_ok {f s b : Int} (h : b ≠ 0) (hb : b.natAbs < 1073741824) : HP.spotGcd f s b ≠ 0 ∧ (HP.spotGcd f s b).natAbs < 1073741824 := by
  have h1 : 0 < Int.gcd (Int.gcd f s : Int) b := Int.gcd_pos_of_ne_zero_right _ h
  have h2 : Int.gcd (Int.gcd f s : Int) b ≤ b.natAbs := Int.gcd_le_natAbs_right _ h
  unfold HP.spotGcd
  split <;> omega
theorem ok_spot_of {P : Program} {w : World} {K : PySem.W.Frag} {mg : Str → Option Value} {base : Heap} {ad : Ad} (T : Txt K mg ad) : FnOk P w K mg base CX0 2 ad.a_spot_of ad.d_spot_of ["first", "second", "below"] (spD K F_spot_of) := by
  have G_common := ok_common (P := P) (w := w) (base := base) T
  refine ok_D (k := 1) T.F_spot_of sc_spot_of (by rintro _ _ ⟨_, _, _, rfl, _⟩; rfl) (fun cdv A outer s H E hr ds res hF => ?_)
  refine ⟨_, (pss_cons (ps_set (i := 3) sc_spot_of.nd rfl (Or.inl rfl) (pe_call G_common (hr.mono (by decide)) (by rfl) T.g_common T.F_common.kp T.b_common .nil pass0 (pa_cons (pe_call G_common (hr.mono (by decide)) (by rfl) T.g_common T.F_common.kp T.b_common .nil pass0 (pa_cons (pv 0) (pa_cons (pv 1) pa_nil))) (pa_cons (pv 2) pa_nil))))
      (pss_cons (ps_if (pt_cmpR op_lt (pv 2) pe_int (nomark _)) (pss_one (ps_set (i := 3) sc_spot_of.nd rfl (Or.inl rfl) (pe_op op_sub pe_int (pv 3)))) pss_nil)
      (pss_one (ps_ret (pe_tup (pa_cons (pe_op op_fdivN (pv 0) (pv 3)) (pa_cons (pe_op op_fdivN (pv 1) (pv 3)) (pa_cons (pe_op op_fdivN (pv 2) (pv 3)) pa_nil)))))))), ?_⟩
  obtain ⟨f, s, b, rfl, h0, hb, rfl⟩ := hF
  obtain ⟨g0, g1⟩ := spotGcd_ok (f := f) (s := s) h0 hb
  refine rx_seq (e1 := [.dat (.int f), .dat (.int s), .dat (.int b), .dat (.int (Int.gcd (Int.gcd f s : Int) b : Nat))]) (rx_asg (ex_call (ea_cons (ex_call (ea_cons (ex_var rfl) (ea_cons (ex_var rfl) ea_nil)) ⟨f, s, rfl, rfl⟩) (ea_cons (ex_var rfl) ea_nil)) ⟨_, b, rfl, rfl⟩) rfl) ?_
  refine rx_seq (e1 := [.dat (.int f), .dat (.int s), .dat (.int b), .dat (.int (HP.spotGcd f s b))]) ?_ ?_
  · refine rx_if (b := decide (b < 0)) (xt_test (by wtm_at "ev")) (fun e => ?_) (fun e => ?_)
    · unfold HP.spotGcd
      rw [if_pos (of_decide_eq_true e)]
      exact rx_asg (by wtm_at "ev") rfl
    · unfold HP.spotGcd
      rw [if_neg (of_decide_eq_false e)]
      exact rx_next
  · exact rx_ret (ex_tup (ea_cons (ex_I (g := fun i j => i.fdiv j) (ex_var rfl) (ex_var rfl) ⟨g0, g1⟩) (ea_cons (ex_I (g := fun i j => i.fdiv j) (ex_var rfl) (ex_var rfl) ⟨g0, g1⟩) (ea_cons (ex_I (g := fun i j => i.fdiv j) (ex_var rfl) (ex_var rfl) ⟨g0, g1⟩) ea_nil))) (Nat.le_of_ble_eq_true rfl))

def F_weight : List PyData → PyData → Prop := fun ds d => ∃ n a b : Int, ds = [.int n, .int a, .int b] ∧ b ≠ 0 ∧ b.natAbs < 1073741824 ∧ d = wD (HP.weightW n a b)
theorem signGcd_ok {a b : Int} (h : b ≠ 0) (hb : b.natAbs < 1073741824) : HP.signGcd a b ≠ 0 ∧ (HP.signGcd a b).natAbs < 1073741824 := by
  have h1 : 0 < Int.gcd a b := Int.gcd_pos_of_ne_zero_right a h
  have h2 : Int.gcd a b ≤ b.natAbs := Int.gcd_le_natAbs_right a h
  unfold HP.signGcd
  split <;> omega
theorem ok_weight {P : Program} {w : World} {K : PySem.W.Frag} {mg : Str → Option Value} {base : Heap} {ad : Ad} (T : Txt K mg ad) : FnOk P w K mg base CX0 2 ad.a_weight ad.d_weight ["number", "above", "below"] (spD K F_weight) := by
  have G_common := ok_common (P := P) (w := w) (base := base) T
  refine ok_D (k := 1) T.F_weight sc_weight (by rintro _ _ ⟨_, _, _, rfl, _⟩; rfl) (fun cdv A outer s H E hr ds res hF => ?_)
  refine ⟨_, (pss_cons (ps_set (i := 3) sc_weight.nd rfl (Or.inl rfl) (pe_call G_common (hr.mono (by decide)) (by rfl) T.g_common T.F_common.kp T.b_common .nil pass0 (pa_cons (pv 1) (pa_cons (pv 2) pa_nil))))
      (pss_cons (ps_if (pt_cmpR op_lt (pv 2) pe_int (nomark _)) (pss_one (ps_set (i := 3) sc_weight.nd rfl (Or.inl rfl) (pe_op op_sub pe_int (pv 3)))) pss_nil)
      (pss_one (ps_ret (pe_tup (pa_cons (pv 0) (pa_cons (pe_op op_fdivN (pv 1) (pv 3)) (pa_cons (pe_op op_fdivN (pv 2) (pv 3)) pa_nil)))))))), ?_⟩
  obtain ⟨n, a, b, rfl, h0, hb, rfl⟩ := hF
  obtain ⟨g0, g1⟩ := signGcd_ok (a := a) h0 hb
  refine rx_seq (e1 := [.dat (.int n), .dat (.int a), .dat (.int b), .dat (.int (Int.gcd a b : Nat))]) (rx_asg (ex_call (ea_cons (ex_var rfl) (ea_cons (ex_var rfl) ea_nil)) ⟨a, b, rfl, rfl⟩) rfl) ?_
  refine rx_seq (e1 := [.dat (.int n), .dat (.int a), .dat (.int b), .dat (.int (HP.signGcd a b))]) ?_ ?_
  · refine rx_if (b := decide (b < 0)) (xt_test (by wtm_at "ev")) (fun e => ?_) (fun e => ?_)
    · have hn : b < 0 := of_decide_eq_true e
      refine rx_post (rx_asg (by wtm_at "ev") rfl) ?_
      unfold HP.signGcd
      rw [if_pos hn, ← Int.zero_sub]
      exact Wk.refl _
    · have hn : ¬ b < 0 := of_decide_eq_false e
      refine rx_post rx_next ?_
      unfold HP.signGcd
      rw [if_neg hn]
      exact Wk.refl _
  · refine rx_ret (ex_tup (ea_cons (ex_var rfl) (ea_cons (ex_I (g := fun i j => i.fdiv j) (ex_var rfl) (ex_var rfl) ⟨g0, g1⟩) (ea_cons (ex_I (g := fun i j => i.fdiv j) (ex_var rfl) (ex_var rfl) ⟨g0, g1⟩) ea_nil))) (Nat.le_of_ble_eq_true rfl))

def F_turn : List PyData → PyData → Prop := fun ds d => ∃ a b c : HP.Pt, ds = [ptD a, ptD b, ptD c] ∧ Small a ∧ Small b ∧ Small c ∧ d = .int (HP.turn a b c)
theorem ok_turn {P : Program} {w : World} {K : PySem.W.Frag} {mg : Str → Option Value} {base : Heap} {ad : Ad} (T : Txt K mg ad) : FnOk P w K mg base CX0 1 ad.a_turn ad.d_turn ["one", "other", "third"] (spD K F_turn) := by
  refine ok_D (k := 0) T.F_turn sc_turn (by rintro _ _ ⟨_, _, _, rfl, _⟩; rfl) (fun cdv A outer s H E hr ds res hF => ?_)
  refine ⟨_, (pss_one (ps_ret (pe_op op_sub (pe_op op_mul (pe_op op_sub (pe_ix ix_seq (pv 1) pe_int (fun _ _ => rfl)) (pe_ix ix_seq (pv 0) pe_int (fun _ _ => rfl))) (pe_op op_sub (pe_ix ix_seq (pv 2) pe_int (fun _ _ => rfl)) (pe_ix ix_seq (pv 0) pe_int (fun _ _ => rfl)))) (pe_op op_mul (pe_op op_sub (pe_ix ix_seq (pv 1) pe_int (fun _ _ => rfl)) (pe_ix ix_seq (pv 0) pe_int (fun _ _ => rfl))) (pe_op op_sub (pe_ix ix_seq (pv 2) pe_int (fun _ _ => rfl)) (pe_ix ix_seq (pv 0) pe_int (fun _ _ => rfl))))))), ?_⟩
  obtain ⟨a, b, c, rfl, ha, hb, hc, rfl⟩ := hF
  unfold Small at ha hb hc
  apply rx_ret
  apply ex_is
  · wtm_at "ev"
  · rfl

def F_line_through : List PyData → PyData → Prop := fun ds d => ∃ a b : HP.Pt, ds = [ptD a, ptD b] ∧ Near a ∧ Near b ∧ d = wD (HP.lineThrough a b)
theorem ok_line_through {P : Program} {w : World} {K : PySem.W.Frag} {mg : Str → Option Value} {base : Heap} {ad : Ad} (T : Txt K mg ad) : FnOk P w K mg base CX0 1 ad.a_line_through ad.d_line_through ["one", "other"] (spD K F_line_through) := by
  refine ok_D (k := 0) T.F_line_through sc_line_through (by rintro _ _ ⟨_, _, rfl, _⟩; rfl) (fun cdv A outer s H E hr ds res hF => ?_)
  refine ⟨_, (pss_cons (ps_set (i := 2) sc_line_through.nd rfl (Or.inl rfl) (pe_op op_sub (pe_ix ix_seq (pv 0) pe_int (fun _ _ => rfl)) (pe_ix ix_seq (pv 1) pe_int (fun _ _ => rfl))))
      (pss_cons (ps_set (i := 3) sc_line_through.nd rfl (Or.inl rfl) (pe_op op_sub (pe_ix ix_seq (pv 1) pe_int (fun _ _ => rfl)) (pe_ix ix_seq (pv 0) pe_int (fun _ _ => rfl))))
      (pss_one (ps_ret (pe_tup (pa_cons (pv 2) (pa_cons (pv 3) (pa_cons (pe_op op_sub (pe_op op_sub pe_int (pe_op op_mul (pv 2) (pe_ix ix_seq (pv 0) pe_int (fun _ _ => rfl)))) (pe_op op_mul (pv 3) (pe_ix ix_seq (pv 0) pe_int (fun _ _ => rfl)))) pa_nil)))))))), ?_⟩
  obtain ⟨a, b, rfl, ha, hb, rfl⟩ := hF
  unfold Near at ha hb
  refine rx_seq (rx_asg (by wtm_at "ev") rfl) (rx_seq (rx_asg (by wtm_at "ev") rfl) (rx_ret (ex_is (by wtm_at "ev") rfl)))

def F_half_round : List PyData → List PyData → Prop := fun ds es => ∃ rows : List HP.Pt, ds = [ptsD rows] ∧ Smalls rows ∧ es = (HP.halfRound rows).map ptD
theorem popW_sub {p x : HP.Pt} : ∀ {S : List HP.Pt}, x ∈ HP.popW S p → x ∈ S
  | [], h => by simp [HP.popW] at h
  | [a], h => by simpa [HP.popW] using h
  | c :: b :: r, h => by
    unfold HP.popW at h
    split at h
    · exact List.mem_cons_of_mem _ (popW_sub h)
    · exact h
theorem popW_len {p : HP.Pt} : ∀ {S : List HP.Pt}, (HP.popW S p).length ≤ S.length
  | [] => by simp [HP.popW]
  | [a] => by simp [HP.popW]
  | c :: b :: r => by
    unfold HP.popW
    split
    · have := popW_len (p := p) (S := b :: r)
      simp only [List.length_cons] at *
      omega
    · exact Nat.le_refl _
theorem hrS_sub : ∀ (pre : List HP.Pt) (S : List HP.Pt), (∀ x ∈ pre.foldl (fun s p => p :: HP.popW s p) S, x ∈ pre ∨ x ∈ S) ∧ (pre.foldl (fun s p => p :: HP.popW s p) S).length ≤ pre.length + S.length
  | [], S => ⟨fun x hx => .inr hx, by simp⟩
  | p :: pre, S => by
    obtain ⟨h1, h2⟩ := hrS_sub pre (p :: HP.popW S p)
    refine ⟨fun x hx => ?_, ?_⟩
    · rcases h1 x hx with h | h
      · exact .inl (List.mem_cons_of_mem _ h)
      · rcases List.mem_cons.mp h with e | h
        · exact .inl (by rw [e]; simp)
        · exact .inr (popW_sub h)
    · have := popW_len (p := p) (S := S)
      simp only [List.foldl_cons, List.length_cons] at *
      omega
theorem ok_half_round {P : Program} {w : World} {K : PySem.W.Frag} {mg : Str → Option Value} {base : Heap} {ad : Ad} (T : Txt K mg ad) : FnOk P w K mg base CX0 2 ad.a_half_round ad.d_half_round ["rows"] (spF K F_half_round) := by
  have G_turn := ok_turn (P := P) (w := w) (base := base) T
  refine ok_F (k := 1) T.F_half_round sc_half_round (by rintro _ _ ⟨_, rfl, _⟩; rfl) (fun cdv A outer s H E hr ds res hF => ?_)
  refine ⟨_, (pss_cons (ps_set (i := 1) sc_half_round.nd rfl (Or.inl rfl) (pe_lst pa_nil))
      (pss_cons (ps_for PassesOwn.never rfl (pi_list (pv 0)) (pg_name (i := 2) sc_half_round.nd rfl (Or.inl rfl)) (pss_cons (ps_while PassesOwn.never (PW.pt (pw_and (pt_cmpR op_gt (pe_callB call_len (by rfl) T.n_len PySem.boot_len (pa_cons (pv 1) pa_nil)) pe_int (nomark _)) (pw_and1 (pt_cmpR op_le (pe_call G_turn (hr.mono (by decide)) (by rfl) T.g_turn T.F_turn.kp T.b_turn .nil pass0 (pa_cons (pe_ix ix_seq (pv 1) (pe_un un_neg pe_int) (fun _ _ => rfl)) (pa_cons (pe_ix ix_seq (pv 1) (pe_un un_neg pe_int) (fun _ _ => rfl)) (pa_cons (pv 2) pa_nil)))) pe_int (nomark _))))) (pss_one (ps_expr (pe_bm0 PySem.F.plainAttrs_list PySem.F.slot_list_pop PySem.F.type_list_pop mt_pop (pv 1)))))
      (pss_one (ps_expr (pe_bm PySem.F.plainAttrs_list PySem.F.slot_list_append PySem.F.type_list_append mt_append (pv 1) (pa_cons (pv 2) pa_nil))))))
      (pss_one (ps_ret (pv 1))))), ?_⟩
  obtain ⟨rows, rfl, ⟨hlen, hsm⟩, rfl⟩ := hF
  refine rx_seq (e1 := [.dat (ptsD rows), .own [], .no]) (rx_asgF (xf_lst ea_nil (Nat.zero_le _)) rfl) ?_
  refine rx_seq (e1 := [.dat (ptsD rows), .own ((HP.hrS rows).reverse.map ptD), .no]) (rx_forV rfl ?_) (rx_retO rfl)
  refine fr_fold ptD (fun S : List HP.Pt => [.dat (ptsD rows), .own (S.reverse.map ptD), .no]) (fun s p => p :: HP.popW s p) [] rows fun pre post p hp => ?_
  obtain ⟨q1, q2⟩ := hrS_sub pre []
  generalize hS : pre.foldl (fun s p => p :: HP.popW s p) [] = S at q1 q2
  have hlp : pre.length < 1000 := by
    rw [hp, List.length_append, List.length_cons] at hlen
    omega
  have hSs : ∀ x ∈ S, Small x := fun x hx => by
    rcases q1 x hx with h | h
    · exact hsm x (by rw [hp]; simp [h])
    · simp at h
  have hps : Small p := hsm p (by rw [hp]; simp)
  refine ⟨_, tg_name' (e' := [.dat (ptsD rows), .own (S.reverse.map ptD), .dat (ptD p)]) rfl, ?_⟩
  refine rx_seq (e1 := [.dat (ptsD rows), .own ((HP.popW S p).reverse.map ptD), .dat (ptD p)]) (rx_while (n := S.length) ?_) ?_
  · clear hS q1 q2
    induction S with
    | nil =>
      refine .stop (xt_is (xt_and (b := false) (xt_test (by wtm_at "ev")) fun h => ?_) ?_)
      · simp at h
      · rfl
    | cons c S ih =>
      cases S with
      | nil =>
        refine .stop (xt_is (xt_and (b := false) (xt_test (by wtm_at "ev")) fun h => ?_) ?_)
        · simp at h
        · rfl
      | cons b r =>
        have eown : ((c :: b :: r).reverse.map ptD) = r.reverse.map ptD ++ [ptD b, ptD c] := by simp
        have hcs : Small c := hSs c (by simp)
        have hbs : Small b := hSs b (by simp)
        rw [eown]
        have test : EvTX K (tAnd (tTest (tOp (rI0 fun i j => V.bl (decide (j < i))) (tCB (fun xs H Q => ∃ x n, xs = [x] ∧ LenV K x H n ∧ Q (.int n) H) (tCons (tVar 1) tNil)) (tC (.int 1))))
            (tTest (tOp (rI0 fun i j => V.bl (decide (i ≤ j))) (tCall (spD K F_turn) [] E0 (tCons (tOp (rIx K) (tVar 1) (tUn (rU fun i => V.int (-i)) (tC (.int 2)))) (tCons (tOp (rIx K) (tVar 1) (tUn (rU fun i => V.int (-i)) (tC (.int 1)))) (tCons (tVar 2) tNil)))) (tC (.int 0)))))
            [.dat (ptsD rows), .own (r.reverse.map ptD ++ [ptD b, ptD c]), .dat (ptD p)] (decide (HP.turn b c p ≤ 0)) := by
          refine xt_is (xt_and (b := decide (HP.turn b c p ≤ 0)) (xt_test (by wtm_at "ev")) fun _ => xt_test ?_) ?_
          · refine ex_B0 (g := fun i j => decide (i ≤ j)) (ex_call (ea_cons (ex_ixL (ex_own rfl) (ex_U ex_int) ?_) (ea_cons (ex_ixL (ex_own rfl) (ex_U ex_int) ?_) (ea_cons (ex_var rfl) ea_nil))) ⟨b, c, p, rfl, hbs, hcs, hps, rfl⟩) ex_int
            · exact atI_two2 _ _ _
            · exact atI_two1 _ _ _
          · rw [decide_eq_true (by rw [List.length_append]; simp only [List.length_cons, List.length_nil]; omega), Bool.true_and]
        by_cases ht : HP.turn b c p ≤ 0
        · rw [decide_eq_true ht] at test
          refine .turn (e1 := [.dat (ptsD rows), .own (r.reverse.map ptD ++ [ptD b]), .dat (ptD p)]) test ?_ ?_
          · exact rx_pop (ds := r.reverse.map ptD ++ [ptD b]) (d := ptD c) (by show some (Sl.own _) = some (Sl.own _); simp) rfl
          · have := ih (fun x hx => hSs x (List.mem_cons_of_mem _ hx))
            rw [show HP.popW (c :: b :: r) p = HP.popW (b :: r) p by rw [HP.popW, if_pos ht]]
            rw [List.reverse_cons, List.map_append] at this
            exact this
        · rw [decide_eq_false ht] at test
          rw [show HP.popW (c :: b :: r) p = c :: b :: r by rw [HP.popW, if_neg ht], eown]
          exact .stop test
  · refine rx_post (rx_app rfl (ex_var rfl) rfl ?_ rfl) ?_
    · rw [List.length_map, List.length_reverse]
      have := popW_len (p := p) (S := S)
      simp only [List.length_nil] at q2
      omega
    · show Wk [_, .own _, _] _
      rw [List.reverse_cons, List.map_append]
      exact .keep (.keep (.drop .nil))

def F_corners_of : List PyData → List PyData → Prop := fun ds es => ∃ ps : List HP.Pt, ds = [ptsD ps] ∧ Nears ps ∧ es = (HP.cornersOf ps).map ptD
theorem srt_nears {ps : List HP.Pt} (h : Nears ps) : Smalls (HP.srt ps) := by
  have hl : ∀ l : List HP.Pt, (HP.srt l).length ≤ l.length := by
    have hi : ∀ (p : HP.Pt) (l : List HP.Pt), (HP.insP p l).length ≤ l.length + 1 := by
      intro p l
      induction l with
      | nil => simp [HP.insP]
      | cons q l ih =>
        unfold HP.insP
        split
        · simp
        · split
          · simp
          · simp only [List.length_cons]; omega
    intro l
    induction l with
    | nil => simp [HP.srt]
    | cons p l ih =>
      have := hi p (HP.srt l)
      simp only [HP.srt, List.length_cons]
      omega
  exact ⟨by have := hl ps; have := h.1; omega, fun p hp => (h.2 p (HP.mem_srt.mp hp)).small⟩
theorem ok_corners_of {P : Program} {w : World} {K : PySem.W.Frag} {mg : Str → Option Value} {base : Heap} {ad : Ad} (T : Txt K mg ad) : FnOk P w K mg base CX0 3 ad.a_corners_of ad.d_corners_of ["points"] (spF K F_corners_of) := by
  have G_half_round := ok_half_round (P := P) (w := w) (base := base) T
  refine ok_F (k := 2) T.F_corners_of sc_corners_of (by rintro _ _ ⟨_, rfl, _⟩; rfl) (fun cdv A outer s H E hr ds res hF => ?_)
  refine ⟨_, (pss_cons (ps_set (i := 1) sc_corners_of.nd rfl (Or.inl rfl) (pe_callB (cr_sortedSet rfl) (by rfl) T.n_sorted (by decide +kernel) (pa_cons (pe_callTy (cr_setOfT rfl hr.units) (by rfl) T.n_set (by decide +kernel) (pa_cons (pv 0) pa_nil)) pa_nil)))
      (pss_cons (ps_if (pt_cmpR op_lt (pe_callB call_len (by rfl) T.n_len PySem.boot_len (pa_cons (pv 1) pa_nil)) pe_int (nomark _)) (pss_one (ps_ret (pv 1))) pss_nil)
      (pss_one (ps_ret (pe_op op_cat (pe_slice sl_list (pe_call G_half_round (hr.mono (by decide)) (by rfl) T.g_half_round T.F_half_round.kp T.b_half_round .nil pass0 (pa_cons (pv 1) pa_nil)) po_none (po_some (pe_un un_neg pe_int))) (pe_slice sl_list (pe_call G_half_round (hr.mono (by decide)) (by rfl) T.g_half_round T.F_half_round.kp T.b_half_round .nil pass0 (pa_cons (pe_lstRev rfl (by rfl) T.n_list (by rfl) T.n_reversed (pv 1)) pa_nil)) po_none (po_some (pe_un un_neg pe_int)))))))), ?_⟩
  obtain ⟨ps, rfl, h, rfl⟩ := hF
  have hs := srt_nears h
  have hs' : Smalls (HP.srt ps).reverse := ⟨by rw [List.length_reverse]; exact hs.1, fun p hp => hs.2 p (by simpa using hp)⟩
  refine rx_seq (e1 := [.dat (ptsD ps), .own ((HP.srt ps).map ptD)]) (rx_asgF (xf_sortedSet (ex_var rfl) h.1 fun m h1 h2 h3 => srt_of h1 h2 h3) rfl) ?_
  unfold HP.cornersOf
  refine rx_ifS (b := decide (((HP.srt ps).length : Int) < 3)) (xt_is (xt_test (by wtm_at "ev")) ?_) (fun e => ?_) (fun e => ?_)
  · simp only [List.length_map]
  · have hc : (HP.srt ps).length < 3 := by have := of_decide_eq_true e; omega
    rw [if_pos hc]
    exact rx_end (rx_retO rfl) rfl
  · have hc : ¬ (HP.srt ps).length < 3 := by have := of_decide_eq_false e; omega
    rw [if_neg hc]
    refine rx_nextS (rx_retF (xf_is (xf_cat (ex_new (xf_sl (ex_new (xf_call (ea_cons (ex_own rfl) ea_nil) ⟨HP.srt ps, rfl, hs, rfl⟩)) eo_no (eo_at (ex_U ex_int)))) (ex_new (xf_sl (ex_new (xf_call (ea_cons (ex_new (xf_rev (ex_own rfl))) ea_nil) ⟨(HP.srt ps).reverse, ?_, hs', rfl⟩)) eo_no (eo_at (ex_U ex_int)))) ?_) ?_))
    · rw [← List.map_reverse]; rfl
    · have e1 : ∀ rows : List HP.Pt, (HP.halfRound rows).length ≤ rows.length := fun rows => by
        unfold HP.halfRound HP.hrS
        rw [List.length_reverse]
        have := (hrS_sub rows []).2
        simpa using this
      have h1 := e1 (HP.srt ps)
      have h2 := e1 (HP.srt ps).reverse
      have h3 := hs.1
      rw [List.length_reverse] at h2
      show (cutD _ none (some (-1))).length + (cutD _ none (some (-1))).length ≤ _
      rw [cut_init, cut_init, List.length_dropLast, List.length_dropLast, List.length_map, List.length_map]
      omega
    · show cutD _ none (some (-1)) ++ cutD _ none (some (-1)) = _
      rw [cut_init, cut_init, List.map_append, List.map_dropLast, List.map_dropLast]

def F_corners : List PyData → List PyData → Prop := fun ds es => ∃ ps : List HP.Pt, ds = [ptsD ps] ∧ ps.length ≤ 12 ∧ (∀ q ∈ ps, Near q) ∧ es = (HP.cornersOf ps).map ptD
theorem ok_corners {P : Program} {w : World} {K : PySem.W.Frag} {mg : Str → Option Value} {base : Heap} {ad : Ad} (T : Txt K mg ad) : FnOk P w K mg base CX0 4 ad.a_corners ad.d_corners ["points"] (spF K F_corners) := by
  have G_ask_points := ok_ask_points (P := P) (w := w) (base := base) T
  have G_corners_of := ok_corners_of (P := P) (w := w) (base := base) T
  refine ok_F (k := 3) T.F_corners sc_corners (by rintro _ _ ⟨_, rfl, _⟩; rfl) (fun cdv A outer s H E hr ds res hF => ?_)
  refine ⟨_, (pss_cons (ps_expr (pe_call G_ask_points (hr.mono (by decide)) (by rfl) T.g_ask_points T.F_ask_points.kp T.b_ask_points .nil pass0 (pa_cons (pv 0) pa_nil)))
      (pss_one (ps_ret (pe_call G_corners_of (hr.mono (by decide)) (by rfl) T.g_corners_of T.F_corners_of.kp T.b_corners_of .nil pass0 (pa_cons (pv 0) pa_nil))))), ?_⟩
  obtain ⟨ps, rfl, hl, hn, rfl⟩ := hF
  exact rx_seq (rx_drop (ex_call (ea_cons (ex_var rfl) ea_nil) ⟨⟨ps, rfl, hl, hn⟩, rfl⟩)) (rx_retF (xf_call (ea_cons (ex_var rfl) ea_nil) ⟨ps, rfl, ⟨by omega, hn⟩, rfl⟩))

def F_weighed : List PyData → List PyData → Prop := fun ds es => ∃ (ps : List HP.Pt) (parts : List (HP.Pt × Int)) (whole : Int), ds = [ptsD ps, .list (parts.map partD), .int whole] ∧ Nears ps ∧ parts.length ≤ 3 ∧ (∀ x ∈ parts, x.1 ∈ ps ∧ x.2 ≤ whole) ∧ 0 < whole ∧ whole < 1073741824 ∧ es = (HP.weighed ps parts whole).map wD
theorem weightW_bd {n : Nat} {a b : Int} (hn : n < 64) (ha : 0 < a) (hab : a ≤ b) (hb : b < 1073741824) : (0 ≤ (HP.weightW n a b).1 ∧ (HP.weightW n a b).1 < bigB) ∧ (0 ≤ (HP.weightW n a b).2.1 ∧ (HP.weightW n a b).2.1 < bigB) ∧ (0 ≤ (HP.weightW n a b).2.2 ∧ (HP.weightW n a b).2.2 < bigB) := by
  unfold HP.weightW HP.signGcd bigB
  rw [if_neg (by omega)]
  rw [Int.fdiv_eq_ediv_of_nonneg _ (by omega), Int.fdiv_eq_ediv_of_nonneg _ (by omega)]
  have h1 := Int.ediv_nonneg (a := a) (b := (Int.gcd a b : Int)) (by omega) (by omega)
  have h2 := Int.ediv_nonneg (a := b) (b := (Int.gcd a b : Int)) (by omega) (by omega)
  have h3 := Int.ediv_le_self (a := a) (Int.gcd a b : Int) (by omega)
  have h4 := Int.ediv_le_self (a := b) (Int.gcd a b : Int) (by omega)
  simp only
  omega
theorem ok_weighed {P : Program} {w : World} {K : PySem.W.Frag} {mg : Str → Option Value} {base : Heap} {ad : Ad} (T : Txt K mg ad) : FnOk P w K mg base CX0 3 ad.a_weighed ad.d_weighed ["points", "parts", "whole"] (spF K F_weighed) := by
  have G_weight := ok_weight (P := P) (w := w) (base := base) T
  refine ok_F (k := 2) T.F_weighed sc_weighed (by rintro _ _ ⟨_, _, _, rfl, _⟩; rfl) (fun cdv A outer s H E hr ds res hF => ?_)
  refine ⟨_, (pss_cons (ps_setLcA (i := 3) (own := [("point", 4), ("above", 5)]) rfl sc_weighed.nd rfl rfl (sw_true rfl rfl rfl (by decide +kernel)) (pi_list (pv 1)) (blkOk_by (own := [("point", 4), ("above", 5)]) (N := N_weighed) (sc := defScope s_weighed) (by decide +kernel)) (fun _ _ _ _ _ => (pg_tup rfl (pgs_cons (pg_name (i := 4) sc_weighed.nd rfl (Or.inl rfl) (hf := Or.inr rfl)) (pgs_cons (pg_name (i := 5) sc_weighed.nd rfl (Or.inl rfl) (hf := Or.inr rfl)) pgs_nil)))) (fun _ _ _ _ _ => (pts_one (pt_cmpR op_gt (pv 5) pe_int (nomark _)))) (fun _ _ _ _ _ => (pe_call G_weight (hr.mono (by decide)) (by rfl) T.g_weight T.F_weight.kp T.b_weight .nil pass0 (pa_cons (pe_bm PySem.F.plainAttrs_list PySem.F.slot_list_index PySem.F.type_list_index (mt_indexD (by exact un65 hr)) (pv 0) (pa_cons (pv 4) pa_nil)) (pa_cons (pv 5) (pa_cons (pv 2) pa_nil))))))
      (pss_one (ps_ret (pe_callB (cr_sortT (d := 3) (B := bigB) (by decide)) (by rfl) T.n_sorted (by decide +kernel) (pa_cons (pv 3) pa_nil))))), ?_⟩
  obtain ⟨ps, parts, whole, rfl, hps, hlen, hparts, hw0, hwB, rfl⟩ := hF
  have fmem : ∀ x ∈ parts.filter fun x => decide (0 < x.2), x.1 ∈ ps ∧ 0 < x.2 ∧ x.2 ≤ whole := fun x hx => by
    obtain ⟨h1, h2⟩ := List.mem_filter.mp hx
    exact ⟨(hparts x h1).1, by simpa using h2, (hparts x h1).2⟩
  have hbd : ∀ u ∈ (parts.filter fun x => decide (0 < x.2)).map (fun x => HP.weightW (ps.idxOf x.1 : Nat) x.2 whole), (0 ≤ u.1 ∧ u.1 < bigB) ∧ (0 ≤ u.2.1 ∧ u.2.1 < bigB) ∧ (0 ≤ u.2.2 ∧ u.2.2 < bigB) := fun u hu => by
    obtain ⟨x, hx, rfl⟩ := List.mem_map.mp hu
    obtain ⟨h1, h2, h3⟩ := fmem x hx
    have := List.idxOf_lt_length_iff.mpr h1
    have := hps.1
    exact weightW_bd (by omega) h2 h3 hwB
  refine rx_seq (e1 := [.dat (ptsD ps), .dat (.list (parts.map partD)), .dat (.int whole), .own (((parts.filter fun x => decide (0 < x.2)).map fun x => HP.weightW (ps.idxOf x.1 : Nat) x.2 whole).map wD), .no, .no]) (rx_asgF (xf_is (xf_lc parts partD (fun x => decide (0 < x.2)) (fun x => wD (HP.weightW (ps.idxOf x.1 : Nat) x.2 whole)) (fun x => [.dat (ptsD ps), .dat (.list (parts.map partD)), .dat (.int whole), .no, .dat (ptD x.1), .dat (.int x.2)]) (ex_var rfl) rfl (by omega) (fun x _ => cg_pair (by decide) (by decide) rfl) (fun x _ => xt_test (by wtm_at "ev")) (fun x hx hf => ?_) (fun _ _ _ => rfl)) ?_) rfl) ?_
  · have hx0 : 0 < x.2 := of_decide_eq_true hf
    refine ex_call (ea_cons (ex_indexP (ex_var rfl) (ex_var rfl) (hparts x hx).1) (ea_cons (ex_var rfl) (ea_cons (ex_var rfl) ea_nil))) ⟨_, _, _, rfl, by omega, by omega, rfl⟩
  · unfold lcRes
    rw [List.map_map]
    rfl
  · refine rx_retF (xf_sortedW (ex_own rfl) ?_ hbd fun m hp hs => ?_)
    · rw [List.length_map]
      have := List.length_filter_le (fun x : HP.Pt × Int => decide (0 < x.2)) parts
      omega
    · refine HP.isort_unique HP.le3_tot HP.le3_trans HP.le3_anti hp (List.Pairwise.imp_of_mem (fun {u v} hu hv h => ?_) hs)
      exact code_le3 (hbd u (hp.mem_iff.mp hu)) (hbd v (hp.mem_iff.mp hv)) h

def F_on_segment : List PyData → Option (List PyData) → Prop := fun ds o => ∃ (ps : List HP.Pt) (one other p : HP.Pt), ds = [ptsD ps, ptD one, ptD other, ptD p] ∧ Nears ps ∧ one ∈ ps ∧ other ∈ ps ∧ one ≠ other ∧ Near p ∧ o = (HP.onSegment ps one other p).map fun ws => ws.map wD
theorem ok_on_segment {P : Program} {w : World} {K : PySem.W.Frag} {mg : Str → Option Value} {base : Heap} {ad : Ad} (T : Txt K mg ad) : FnOk P w K mg base CX0 4 ad.a_on_segment ad.d_on_segment ["points", "one", "other", "point"] (spO K F_on_segment) := by
  have G_turn := ok_turn (P := P) (w := w) (base := base) T
  have G_weighed := ok_weighed (P := P) (w := w) (base := base) T
  refine ok_O (k := 3) T.F_on_segment sc_on_segment (by rintro _ _ ⟨_, _, _, _, rfl, _⟩; rfl) (fun cdv A outer s H E hr ds res hF => ?_)
  refine ⟨_, (pss_cons (ps_if (pt_cmpR (op_neD hr.units) (pe_call G_turn (hr.mono (by decide)) (by rfl) T.g_turn T.F_turn.kp T.b_turn .nil pass0 (pa_cons (pv 1) (pa_cons (pv 2) (pa_cons (pv 3) pa_nil)))) pe_int (nomark _)) (pss_one (ps_ret pe_non)) pss_nil)
      (pss_cons (ps_set (i := 4) sc_on_segment.nd rfl (Or.inl rfl) pe_int)
      (pss_cons (ps_if (pt_cmpR (op_eqD hr.units) (pe_ix ix_seq (pv 1) pe_int (fun _ _ => rfl)) (pe_ix ix_seq (pv 2) pe_int (fun _ _ => rfl)) (nomark _)) (pss_one (ps_set (i := 4) sc_on_segment.nd rfl (Or.inl rfl) pe_int)) pss_nil)
      (pss_cons (ps_set (i := 5) sc_on_segment.nd rfl (Or.inl rfl) (pe_op op_sub (pe_ix ix_seq (pv 2) (pv 4) (fun _ _ => rfl)) (pe_ix ix_seq (pv 1) (pv 4) (fun _ _ => rfl))))
      (pss_cons (ps_set (i := 6) sc_on_segment.nd rfl (Or.inl rfl) (pe_op op_sub (pe_ix ix_seq (pv 3) (pv 4) (fun _ _ => rfl)) (pe_ix ix_seq (pv 1) (pv 4) (fun _ _ => rfl))))
      (pss_cons (ps_if (pt_cmpR op_lt (pv 5) pe_int (nomark _)) (pss_cons (ps_set (i := 5) sc_on_segment.nd rfl (Or.inl rfl) (pe_op op_sub pe_int (pv 5)))
      (pss_one (ps_set (i := 6) sc_on_segment.nd rfl (Or.inl rfl) (pe_op op_sub pe_int (pv 6))))) pss_nil)
      (pss_cons (ps_if (PW.pt (pw_or (pt_cmpR op_lt (pv 6) pe_int (nomark _)) (pw_or1 (pt_cmpR op_gt (pv 6) (pv 5) (nomark _))))) (pss_one (ps_ret pe_non)) pss_nil)
      (pss_one (ps_ret (pe_call G_weighed (hr.mono (by decide)) (by rfl) T.g_weighed T.F_weighed.kp T.b_weighed .nil pass0 (pa_cons (pv 0) (pa_cons (pe_lst (pa_cons (pe_tup (pa_cons (pv 1) (pa_cons (pe_op op_sub (pv 5) (pv 6)) pa_nil))) (pa_cons (pe_tup (pa_cons (pv 2) (pa_cons (pv 6) pa_nil))) pa_nil))) (pa_cons (pv 5) pa_nil))))))))))))), ?_⟩
  obtain ⟨ps, one, other, p, rfl, hps, h1, h2, hne, hp, rfl⟩ := hF
  have n1 := hps.2 one h1
  have n2 := hps.2 other h2
  have ix : ∀ q : HP.Pt, atI [PyData.int q.1, PyData.int q.2] (if one.1 = other.1 then 1 else 0) = some (.int (if one.1 = other.1 then q.2 else q.1)) := fun q => by split <;> rfl
  unfold HP.onSegment
  refine rx_ifS (b := decide (HP.turn one other p ≠ 0)) (xt_is (xt_test (ex_ne (ex_call (ea_cons (ex_var rfl) (ea_cons (ex_var rfl) (ea_cons (ex_var rfl) ea_nil))) ⟨one, other, p, rfl, n1.small, n2.small, hp.small, rfl⟩) ex_int rfl rfl)) ?_) (fun e => ?_) (fun e => rx_nextS ?_)
  · rw [eqv_int]
    by_cases k : HP.turn one other p = 0 <;> simp [k]
  · rw [if_pos (of_decide_eq_true e)]
    exact rx_end (rx_ret ex_non) rfl
  rw [if_neg (of_decide_eq_false e)]
  refine rx_seq (rx_asg ex_int rfl) ?_
  refine rx_seq (e1 := [.dat (ptsD ps), .dat (ptD one), .dat (ptD other), .dat (ptD p), .dat (.int (if one.1 = other.1 then 1 else 0)), .no, .no]) ?_ ?_
  · refine rx_if (b := decide (one.1 = other.1)) (xt_is (xt_test (ex_eq (ex_ixT (ex_var rfl) ex_int rfl) (ex_ixT (ex_var rfl) ex_int rfl) rfl rfl)) (eqv_int _ _)) (fun e => ?_) (fun e => ?_)
    · rw [if_pos (of_decide_eq_true e)]
      exact rx_asg ex_int rfl
    · rw [if_neg (of_decide_eq_false e)]
      exact rx_next
  refine rx_seq (e1 := [.dat (ptsD ps), .dat (ptD one), .dat (ptD other), .dat (ptD p), .dat (.int (if one.1 = other.1 then 1 else 0)), .dat (.int (HP.segWhole one other)), .no]) (rx_asg (ex_is (ex_I0 (ex_ixT (ex_var rfl) (ex_var rfl) (ix other)) (ex_ixT (ex_var rfl) (ex_var rfl) (ix one))) ?_) rfl) ?_
  · unfold HP.segWhole
    split <;> rfl
  refine rx_seq (e1 := [.dat (ptsD ps), .dat (ptD one), .dat (ptD other), .dat (ptD p), .dat (.int (if one.1 = other.1 then 1 else 0)), .dat (.int (HP.segWhole one other)), .dat (.int (HP.segPart one other p))]) (rx_asg (ex_is (ex_I0 (ex_ixT (ex_var rfl) (ex_var rfl) (ix p)) (ex_ixT (ex_var rfl) (ex_var rfl) (ix one))) ?_) rfl) ?_
  · unfold HP.segPart
    split <;> rfl
  refine rx_seq (e1 := [.dat (ptsD ps), .dat (ptD one), .dat (ptD other), .dat (ptD p), .dat (.int (if one.1 = other.1 then 1 else 0)), .dat (.int (HP.segW one other)), .dat (.int (HP.segQ one other p))]) ?_ ?_
  · refine rx_if (b := decide (HP.segWhole one other < 0)) (xt_test (by wtm_at "ev")) (fun e => ?_) (fun e => ?_)
    · unfold HP.segW HP.segQ
      rw [if_pos (of_decide_eq_true e), if_pos (of_decide_eq_true e)]
      exact rx_seq (rx_asg (by wtm_at "ev") rfl) (rx_asg (by wtm_at "ev") rfl)
    · unfold HP.segW HP.segQ
      rw [if_neg (of_decide_eq_false e), if_neg (of_decide_eq_false e)]
      exact rx_next
  refine rx_ifS (b := decide (HP.segQ one other p < 0 ∨ HP.segQ one other p > HP.segW one other)) (xt_is (xt_or (b := decide (HP.segW one other < HP.segQ one other p)) (xt_test (by wtm_at "ev")) fun _ => xt_test (by wtm_at "ev")) ?_) (fun e => ?_) (fun e => rx_nextS ?_)
  · by_cases k1 : HP.segQ one other p < 0 <;> by_cases k2 : HP.segW one other < HP.segQ one other p <;> simp [k1, k2]
  · rw [if_pos (of_decide_eq_true e)]
    exact rx_end (rx_ret ex_non) rfl
  have hn := of_decide_eq_false e
  rw [if_neg hn]
  have hw := HP.seg_pos hne
  have hwB : HP.segW one other < 1073741824 := by
    unfold Near at n1 n2
    unfold HP.segW HP.segWhole
    split <;> split <;> omega
  refine rx_retF (xf_call (ea_cons (ex_var rfl) (ea_cons (ex_new (xf_lst (ea_cons (ex_tup (ea_cons (ex_var rfl) (ea_cons (by wtm_at "ev") ea_nil)) (Nat.le_of_ble_eq_true rfl)) (ea_cons (ex_tup (ea_cons (ex_var rfl) (ea_cons (by wtm_at "ev") ea_nil)) (Nat.le_of_ble_eq_true rfl)) ea_nil)) (Nat.le_of_ble_eq_true rfl))) (ea_cons (ex_var rfl) ea_nil))) ⟨ps, [(one, HP.segW one other - HP.segQ one other p), (other, HP.segQ one other p)], HP.segW one other, rfl, hps, (by simp), ?_, hw, hwB, rfl⟩)
  intro x hx
  simp only [List.mem_cons, List.not_mem_nil, or_false] at hx
  rcases hx with e | e <;> subst e
  · exact ⟨h1, by simp only; omega⟩
  · exact ⟨h2, by simp only; omega⟩

def F_in_three : List PyData → Option (List PyData) → Prop := fun ds o => ∃ (ps : List HP.Pt) (a b c p : HP.Pt), ds = [ptsD ps, ptD a, ptD b, ptD c, ptD p] ∧ Nears ps ∧ a ∈ ps ∧ b ∈ ps ∧ c ∈ ps ∧ 0 < HP.turn a b c ∧ Near p ∧ o = (HP.inThree ps a b c p).map fun ws => ws.map wD
theorem ok_in_three {P : Program} {w : World} {K : PySem.W.Frag} {mg : Str → Option Value} {base : Heap} {ad : Ad} (T : Txt K mg ad) : FnOk P w K mg base CX0 4 ad.a_in_three ad.d_in_three ["points", "one", "other", "third", "point"] (spO K F_in_three) := by
  have G_turn := ok_turn (P := P) (w := w) (base := base) T
  have G_weighed := ok_weighed (P := P) (w := w) (base := base) T
  refine ok_O (k := 3) T.F_in_three sc_in_three (by rintro _ _ ⟨_, _, _, _, _, rfl, _⟩; rfl) (fun cdv A outer s H E hr ds res hF => ?_)
  refine ⟨_, (pss_cons (ps_set (i := 5) sc_in_three.nd rfl (Or.inl rfl) (pe_lst (pa_cons (pe_tup (pa_cons (pv 1) (pa_cons (pe_call G_turn (hr.mono (by decide)) (by rfl) T.g_turn T.F_turn.kp T.b_turn .nil pass0 (pa_cons (pv 2) (pa_cons (pv 3) (pa_cons (pv 4) pa_nil)))) pa_nil))) (pa_cons (pe_tup (pa_cons (pv 2) (pa_cons (pe_call G_turn (hr.mono (by decide)) (by rfl) T.g_turn T.F_turn.kp T.b_turn .nil pass0 (pa_cons (pv 3) (pa_cons (pv 1) (pa_cons (pv 4) pa_nil)))) pa_nil))) (pa_cons (pe_tup (pa_cons (pv 3) (pa_cons (pe_call G_turn (hr.mono (by decide)) (by rfl) T.g_turn T.F_turn.kp T.b_turn .nil pass0 (pa_cons (pv 1) (pa_cons (pv 2) (pa_cons (pv 4) pa_nil)))) pa_nil))) pa_nil)))))
      (pss_cons (ps_if (pt_cmpR op_lt (pe_callB (cr_min rfl) (by rfl) T.n_min (by decide +kernel) (pa_cons (pe_lcA (own := [("part", 6)]) rfl sc_in_three.nd (pi_list (pv 5)) (blkOk_by (own := [("part", 6)]) (N := N_in_three) (sc := defScope s_in_three) (by decide +kernel)) (fun _ _ _ _ _ => (pg_name (i := 6) sc_in_three.nd rfl (Or.inl rfl) (hf := Or.inr rfl))) (fun _ _ _ _ _ => pts_nil) (fun _ _ _ _ _ => (pe_ix ix_seq (pv 6) pe_int (fun _ _ => rfl)))) pa_nil)) pe_int (nomark _)) (pss_one (ps_ret pe_non)) pss_nil)
      (pss_one (ps_ret (pe_call G_weighed (hr.mono (by decide)) (by rfl) T.g_weighed T.F_weighed.kp T.b_weighed .nil pass0 (pa_cons (pv 0) (pa_cons (pv 5) (pa_cons (pe_call G_turn (hr.mono (by decide)) (by rfl) T.g_turn T.F_turn.kp T.b_turn .nil pass0 (pa_cons (pv 1) (pa_cons (pv 2) (pa_cons (pv 3) pa_nil)))) pa_nil)))))))), ?_⟩
  obtain ⟨ps, a, b, c, p, rfl, hps, ha, hb, hc, ht, hp, rfl⟩ := hF
  have na := hps.2 a ha
  have nb := hps.2 b hb
  have nc := hps.2 c hc
  unfold HP.inThree
  refine rx_seq (e1 := [.dat (ptsD ps), .dat (ptD a), .dat (ptD b), .dat (ptD c), .dat (ptD p), .dat (.list ([(a, HP.turn b c p), (b, HP.turn c a p), (c, HP.turn a b p)].map partD)), .no]) (rx_asg (ex_new (xf_lst (ea_cons (ex_tup (ea_cons (ex_var rfl) (ea_cons (ex_call (ea_cons (ex_var rfl) (ea_cons (ex_var rfl) (ea_cons (ex_var rfl) ea_nil))) ⟨b, c, p, rfl, nb.small, nc.small, hp.small, rfl⟩) ea_nil)) (Nat.le_of_ble_eq_true rfl))
    (ea_cons (ex_tup (ea_cons (ex_var rfl) (ea_cons (ex_call (ea_cons (ex_var rfl) (ea_cons (ex_var rfl) (ea_cons (ex_var rfl) ea_nil))) ⟨c, a, p, rfl, nc.small, na.small, hp.small, rfl⟩) ea_nil)) (Nat.le_of_ble_eq_true rfl))
    (ea_cons (ex_tup (ea_cons (ex_var rfl) (ea_cons (ex_call (ea_cons (ex_var rfl) (ea_cons (ex_var rfl) (ea_cons (ex_var rfl) ea_nil))) ⟨a, b, p, rfl, na.small, nb.small, hp.small, rfl⟩) ea_nil)) (Nat.le_of_ble_eq_true rfl)) ea_nil))) (Nat.le_of_ble_eq_true rfl))) rfl) ?_
  refine rx_ifS (b := decide (HP.turn b c p < 0 ∨ HP.turn c a p < 0 ∨ HP.turn a b p < 0)) (xt_is (xt_test (ex_B0 (g := fun i j => decide (i < j)) (ex_minL (ns := [HP.turn b c p, HP.turn c a p, HP.turn a b p]) (m := HP.min3 (HP.turn b c p) (HP.turn c a p) (HP.turn a b p)) (ex_new (xf_is (xf_lc [(a, HP.turn b c p), (b, HP.turn c a p), (c, HP.turn a b p)] partD (fun _ => true) (fun x => .int x.2) (fun x => [.dat (ptsD ps), .dat (ptD a), .dat (ptD b), .dat (ptD c), .dat (ptD p), .dat (.list ([(a, HP.turn b c p), (b, HP.turn c a p), (c, HP.turn a b p)].map partD)), .dat (partD x)]) (ex_var rfl) rfl (by simp) (fun x _ => cg_name (by decide) rfl) (fun x _ => xt_true) (fun x hx hf => ex_ixT (ex_var rfl) ex_int rfl) (fun _ _ _ => rfl)) rfl)) (by simp) ?_) ex_int)) ?_) (fun e => ?_) (fun e => rx_nextS ?_)
  · intro x hx hl
    simp only [List.mem_cons, List.not_mem_nil, or_false, forall_eq_or_imp, forall_eq] at hx hl
    unfold HP.min3
    omega
  · unfold HP.min3
    by_cases k1 : HP.turn b c p < 0
    · rw [decide_eq_true (by omega), decide_eq_true (by omega)]
    · by_cases k2 : HP.turn c a p < 0
      · rw [decide_eq_true (by omega), decide_eq_true (by omega)]
      · by_cases k3 : HP.turn a b p < 0
        · rw [decide_eq_true (by omega), decide_eq_true (by omega)]
        · rw [decide_eq_false (by omega), decide_eq_false (by omega)]
  · rw [if_pos (of_decide_eq_true e)]
    exact rx_end (rx_ret ex_non) rfl
  have hn := of_decide_eq_false e
  rw [if_neg hn]
  have es : HP.turn b c p + HP.turn c a p + HP.turn a b p = HP.turn a b c := by unfold HP.turn; grind
  have hB := turn_bound na nb nc
  refine rx_retF (xf_call (ea_cons (ex_var rfl) (ea_cons (ex_var rfl) (ea_cons (ex_call (ea_cons (ex_var rfl) (ea_cons (ex_var rfl) (ea_cons (ex_var rfl) ea_nil))) ⟨a, b, c, rfl, na.small, nb.small, nc.small, rfl⟩) ea_nil))) ⟨ps, _, HP.turn a b c, rfl, hps, (by simp), ?_, ht, by omega, rfl⟩)
  intro x hx
  simp only [List.mem_cons, List.not_mem_nil, or_false] at hx
  rcases hx with e | e | e <;> subst e
  · exact ⟨ha, by simp only; omega⟩
  · exact ⟨hb, by simp only; omega⟩
  · exact ⟨hc, by simp only; omega⟩

def F_within : List PyData → Option (List PyData) → Prop := fun ds o => ∃ (ps : List HP.Pt) (p : HP.Pt), ds = [ptsD ps, ptD p] ∧ Nears ps ∧ Near p ∧ o = (HP.within ps p).map fun ws => ws.map wD
theorem fan_range (ps : List HP.Pt) (z p : HP.Pt) : ∀ (r : List HP.Pt) (a b : HP.Pt), HP.fanFind ps z p (a :: b :: r) = (List.range (r.length + 1)).findSome? fun i => HP.inThree ps z (HP.atN (a :: b :: r) i) (HP.atN (a :: b :: r) (i + 1)) p
  | [], a, b => by
    show (match HP.inThree ps z a b p with | some w => some w | none => HP.fanFind ps z p [b]) = _
    rw [show List.range ([] : List HP.Pt).length.succ = [0] from rfl]
    simp only [List.findSome?_cons, List.findSome?_nil, HP.atN]
    simp only [List.getD_cons_zero, List.getD_cons_succ]
    cases HP.inThree ps z a b p <;> rfl
  | c :: r, a, b => by
    show (match HP.inThree ps z a b p with | some w => some w | none => HP.fanFind ps z p (b :: c :: r)) = _
    rw [fan_range ps z p r b c, List.length_cons, List.range_succ_eq_map (n := r.length + 1), List.findSome?_cons, List.findSome?_map]
    have e : HP.inThree ps z (HP.atN (a :: b :: c :: r) 0) (HP.atN (a :: b :: c :: r) (0 + 1)) p = HP.inThree ps z a b p := by
      simp only [HP.atN, List.getD_cons_zero, List.getD_cons_succ]
    rw [e]
    cases HP.inThree ps z a b p with
    | some w => rfl
    | none =>
      simp only
      congr 1
theorem ok_within {P : Program} {w : World} {K : PySem.W.Frag} {mg : Str → Option Value} {base : Heap} {ad : Ad} (T : Txt K mg ad) : FnOk P w K mg base CX0 5 ad.a_within ad.d_within ["points", "point"] (spO K F_within) := by
  have G_corners_of := ok_corners_of (P := P) (w := w) (base := base) T
  have G_on_segment := ok_on_segment (P := P) (w := w) (base := base) T
  have G_in_three := ok_in_three (P := P) (w := w) (base := base) T
  refine ok_O (k := 4) T.F_within sc_within (by rintro _ _ ⟨_, _, rfl, _⟩; rfl) (fun cdv A outer s H E hr ds res hF => ?_)
  refine ⟨_, (pss_cons (ps_set (i := 2) sc_within.nd rfl (Or.inl rfl) (pe_call G_corners_of (hr.mono (by decide)) (by rfl) T.g_corners_of T.F_corners_of.kp T.b_corners_of .nil pass0 (pa_cons (pv 0) pa_nil)))
      (pss_cons (ps_if (PW.pt (pw_and (pt_cmpR (op_eqD hr.units) (pe_callB call_len (by rfl) T.n_len PySem.boot_len (pa_cons (pv 2) pa_nil)) pe_int (nomark _)) (pw_and1 (pt_cmpR (op_eqD hr.units) (pe_ix ix_seq (pv 2) pe_int (fun _ _ => rfl)) (pv 1) (nomark _))))) (pss_one (ps_ret (pe_lst (pa_cons (pe_tup (pa_cons (pe_bm PySem.F.plainAttrs_list PySem.F.slot_list_index PySem.F.type_list_index (mt_indexD (by exact un65 hr)) (pv 0) (pa_cons (pv 1) pa_nil)) (pa_cons pe_int (pa_cons pe_int pa_nil)))) pa_nil)))) pss_nil)
      (pss_cons (ps_if (pt_cmpR (op_eqD hr.units) (pe_callB call_len (by rfl) T.n_len PySem.boot_len (pa_cons (pv 2) pa_nil)) pe_int (nomark _)) (pss_one (ps_ret (pe_call G_on_segment (hr.mono (by decide)) (by rfl) T.g_on_segment T.F_on_segment.kp T.b_on_segment .nil pass0 (pa_cons (pv 0) (pa_cons (pe_ix ix_seq (pv 2) pe_int (fun _ _ => rfl)) (pa_cons (pe_ix ix_seq (pv 2) pe_int (fun _ _ => rfl)) (pa_cons (pv 1) pa_nil))))))) pss_nil)
      (pss_cons (ps_for PassesOwn.never rfl (pi_range2 (by rfl) T.n_range (pa_cons pe_int (pa_cons (pe_op op_sub (pe_callB call_len (by rfl) T.n_len PySem.boot_len (pa_cons (pv 2) pa_nil)) pe_int) pa_nil))) (pg_name (i := 3) sc_within.nd rfl (Or.inl rfl)) (pss_cons (ps_set (i := 4) sc_within.nd rfl (Or.inl rfl) (pe_call G_in_three (hr.mono (by decide)) (by rfl) T.g_in_three T.F_in_three.kp T.b_in_three .nil pass0 (pa_cons (pv 0) (pa_cons (pe_ix ix_seq (pv 2) pe_int (fun _ _ => rfl)) (pa_cons (pe_ix ix_seq (pv 2) (pv 3) (fun _ _ => rfl)) (pa_cons (pe_ix ix_seq (pv 2) (pe_op op_add (pv 3) pe_int) (fun _ _ => rfl)) (pa_cons (pv 1) pa_nil)))))))
      (pss_one (ps_if (pt_cmpR op_notN (pv 4) pe_non (nomark _)) (pss_one (ps_ret (pv 4))) pss_nil))))
      (pss_one (ps_ret pe_non)))))), ?_⟩
  obtain ⟨ps, p, rfl, hps, hp, rfl⟩ := hF
  have R := HP.rim_ok ps
  have hlen := rim_len ps
  have hl64 := hps.1
  refine rx_seq (e1 := [.dat (ptsD ps), .dat (ptD p), .dat (ptsD (HP.cornersOf ps)), .no, .no]) (rx_asg (ex_new (xf_call (ea_cons (ex_var rfl) ea_nil) ⟨ps, rfl, hps, rfl⟩)) rfl) ?_
  unfold HP.within
  generalize hrim : HP.cornersOf ps = rim at R hlen ⊢
  refine rx_ifS (b := decide (rim = [p])) (xt_is (xt_and (a := decide ((rim.length : Int) = 1)) (b := decide (HP.atN rim 0 = p)) (xt_is (xt_test (ex_eq (ex_len (ex_var rfl) rfl) ex_int rfl rfl)) ?_) fun h => xt_is (xt_test (ex_eq (ex_ixL (ex_var rfl) ex_int (atI_pts (by omega) ?_)) (ex_var rfl) rfl rfl)) (eqv_pt _ _)) ?_) (fun e => ?_) (fun e => rx_nextS ?_)
  · rw [eqv_int, List.length_map]
  · have := of_decide_eq_true h
    omega
  · cases rim with
    | nil => simp
    | cons z r =>
      cases r with
      | nil => simp [HP.atN]
      | cons w r =>
        rw [decide_eq_false (by simp only [List.length_cons]; omega), Bool.false_and, decide_eq_false (by simp)]
  · have e2 := of_decide_eq_true e
    subst e2
    refine rx_end (rx_is (rx_retF (xf_lst (ea_cons (ex_tup (ea_cons (ex_indexP (ex_var rfl) (ex_var rfl) (R.sub p (by simp))) (ea_cons ex_int (ea_cons ex_int ea_nil))) (Nat.le_of_ble_eq_true rfl)) ea_nil) (Nat.le_of_ble_eq_true rfl))) ?_) (by simp [Out.stays])
    simp only [if_true]
    rfl
  have hne := of_decide_eq_false e
  refine rx_ifS (b := decide ((rim.length : Int) = 2)) (xt_is (xt_test (ex_eq (ex_len (ex_var rfl) rfl) ex_int rfl rfl)) ?_) (fun e => ?_) (fun e => rx_nextS ?_)
  · rw [eqv_int, List.length_map]
  · have e2 := of_decide_eq_true e
    match rim, e2, R, hne with
    | [z, w], _, R, hne =>
      have hz : z ∈ ps := R.sub z (by simp)
      have hw : w ∈ ps := R.sub w (by simp)
      have hzw : z ≠ w := by
        have := R.nodup
        simp at this
        exact this
      have ha : EvAX K (tCons (tVar 0) (tCons (tOp (rIx K) (tVar 2) (tC (.int 0))) (tCons (tOp (rIx K) (tVar 2) (tC (.int 1))) (tCons (tVar 1) tNil)))) [.dat (ptsD ps), .dat (ptD p), .dat (ptsD [z, w]), .no, .no] [ptsD ps, ptD z, ptD w, ptD p] := ea_cons (ex_var rfl) (ea_cons (ex_ixL (ex_var rfl) ex_int rfl) (ea_cons (ex_ixL (ex_var rfl) ex_int rfl) (ea_cons (ex_var rfl) ea_nil)))
      show RunX K _ _ (match (HP.onSegment ps z w p).map fun ws => ws.map wD with | none => .rt .none | some es => .rf es)
      cases ho : HP.onSegment ps z w p with
      | none => exact rx_end (rx_ret (ex_callO ha ⟨ps, z, w, p, rfl, hps, hz, hw, hzw, hp, by rw [ho]; rfl⟩)) rfl
      | some ws => exact rx_end (rx_retF (xf_callO ha ⟨ps, z, w, p, rfl, hps, hz, hw, hzw, hp, by rw [ho]; rfl⟩)) rfl
  have hn2 := of_decide_eq_false e
  refine rx_findF (f := fun i : Nat => (HP.inThree ps (HP.atN rim 0) (HP.atN rim (1 + i)) (HP.atN rim (1 + i + 1)) p).map fun ws => ws.map wD) (items := List.range ((rim.length : Int) - 1 - 1).toNat) (e := [.dat (ptsD ps), .dat (ptD p), .dat (ptsD rim), .no, .no]) (rx_forR2 (lo := 1) (n := (rim.length : Int) - 1) (ea_cons ex_int (ea_cons (ex_I0 (g := fun i j => i - j) (ex_is (ex_len (ex_var rfl) rfl) (by rw [List.length_map])) ex_int) ea_nil)) (by omega) (fr_findF (fun i : Nat => PyData.int (1 + (i : Int))) _ [.dat (ptsD ps), .dat (ptD p), .dat (ptsD rim), .no, .no] _ fun i hi => ?_)) (fun d hd => ?_) (fun hd => ?_)
  · have hi' := List.mem_range.mp hi
    have hk : 2 + i < rim.length := by omega
    refine ⟨_, tg_name' (e' := [.dat (ptsD ps), .dat (ptD p), .dat (ptsD rim), .dat (.int (1 + (i : Int))), .no]) rfl, ?_⟩
    have hfan : 0 < HP.turn (HP.atN rim 0) (HP.atN rim (1 + i)) (HP.atN rim (1 + i + 1)) := by
      match rim, hk, R with
      | z :: r, hk, R =>
        have hf := R.fan z r rfl
        refine HP.Adj.get (i := i) hf ?_ ?_
        · have : i < r.length := by simp only [List.length_cons] at hk; omega
          rw [List.getElem?_eq_getElem this, Nat.add_comm 1 i]
          simp [HP.atN, List.getD_eq_getElem?_getD, List.getElem?_eq_getElem this]
        · have : i + 1 < r.length := by simp only [List.length_cons] at hk; omega
          rw [List.getElem?_eq_getElem this, Nat.add_comm 1 i]
          simp [HP.atN, List.getD_eq_getElem?_getD, List.getElem?_eq_getElem this]
    have m0 : HP.atN rim 0 ∈ ps := R.sub _ (HP.atN_mem (by omega))
    have m1 : HP.atN rim (1 + i) ∈ ps := R.sub _ (HP.atN_mem (by omega))
    have m2 : HP.atN rim (1 + i + 1) ∈ ps := R.sub _ (HP.atN_mem (by omega))
    have ha : EvAX K (tCons (tVar 0) (tCons (tOp (rIx K) (tVar 2) (tC (.int 0))) (tCons (tOp (rIx K) (tVar 2) (tVar 3)) (tCons (tOp (rIx K) (tVar 2) (tOp (rI0 fun i j => V.int (i + j)) (tVar 3) (tC (.int 1)))) (tCons (tVar 1) tNil))))) [.dat (ptsD ps), .dat (ptD p), .dat (ptsD rim), .dat (.int (1 + (i : Int))), .no] [ptsD ps, ptD (HP.atN rim 0), ptD (HP.atN rim (1 + i)), ptD (HP.atN rim (1 + i + 1)), ptD p] := by
      refine ea_cons (ex_var rfl) (ea_cons (ex_ixL (ex_var rfl) ex_int (atI_pts (by omega) (by omega))) (ea_cons (ex_is (ex_ixL (ex_var rfl) (ex_var rfl) (atI_pts (by omega) (by omega))) ?_) (ea_cons (ex_is (ex_ixL (ex_var rfl) (ex_I0 (g := fun i j => i + j) (ex_var rfl) ex_int) (atI_pts (by omega) (by omega))) ?_) (ea_cons (ex_var rfl) ea_nil))))
      · rw [show (1 + (i : Int)).toNat = 1 + i by omega]
      · rw [show (1 + (i : Int) + 1).toNat = 1 + i + 1 by omega]
    constructor
    · intro ds hds
      refine rx_seq (e1 := [.dat (ptsD ps), .dat (ptD p), .dat (ptsD rim), .dat (.int (1 + (i : Int))), .own ds]) (rx_asgF (xf_callO ha ⟨ps, _, _, _, p, rfl, hps, m0, m1, m2, hfan, hp, hds.symm⟩) rfl) ?_
      exact rx_if (b := true) (xt_test (ex_notN (ex_own rfl))) (fun _ => rx_retO rfl) (fun e => by cases e)
    · intro hds
      refine rx_seq (e1 := [.dat (ptsD ps), .dat (ptD p), .dat (ptsD rim), .dat (.int (1 + (i : Int))), .dat .none]) (rx_asg (ex_callO ha ⟨ps, _, _, _, p, rfl, hps, m0, m1, m2, hfan, hp, hds.symm⟩) rfl) ?_
      exact rx_if (b := false) (xt_test (ex_notN (d := .none) (ex_var rfl))) (fun e => by cases e) (fun _ => rx_post rx_next (.keep (.keep (.keep (.drop (.drop .nil))))))
  · -- found
    match rim, hn2, hne, hd with
    | [], _, _, hd => cases hd
    | [z], _, _, hd => cases hd
    | [z, w], hn2, _, _ => exact absurd rfl hn2
    | z :: a :: b :: r, _, _, hd =>
      show (match ((HP.fanFind ps z p (a :: b :: r)).map fun ws => ws.map wD : Option (List PyData)) with | none => Out.rt .none | some es => .rf es) = _
      rw [fan_range]
      have e1 : (((z :: a :: b :: r).length : Int) - 1 - 1).toNat = r.length + 1 := by simp only [List.length_cons]; omega
      rw [e1] at hd
      have e2 : ((List.range (r.length + 1)).findSome? fun i => HP.inThree ps z (HP.atN (a :: b :: r) i) (HP.atN (a :: b :: r) (i + 1)) p).map (fun ws => ws.map wD) = some d := by
        rw [← hd, List.map_findSome?]
        congr 1
        funext i
        simp only [Function.comp, HP.atN, Nat.add_comm 1 i, List.getD_cons_zero, List.getD_cons_succ]
      rw [e2]
  · -- none found
    refine rx_is (rx_ret ex_non) ?_
    match rim, hn2, hne, hd with
    | [], _, _, _ => rfl
    | [z], _, hne, _ =>
      have : z ≠ p := fun k => hne (by rw [k])
      simp only [if_neg this]
      rfl
    | [z, w], hn2, _, _ => exact absurd rfl hn2
    | z :: a :: b :: r, _, _, hd =>
      show _ = (match ((HP.fanFind ps z p (a :: b :: r)).map fun ws => ws.map wD : Option (List PyData)) with | none => Out.rt .none | some es => .rf es)
      rw [fan_range]
      have e1 : (((z :: a :: b :: r).length : Int) - 1 - 1).toNat = r.length + 1 := by simp only [List.length_cons]; omega
      rw [e1] at hd
      have e2 : ((List.range (r.length + 1)).findSome? fun i => HP.inThree ps z (HP.atN (a :: b :: r) i) (HP.atN (a :: b :: r) (i + 1)) p).map (fun ws => ws.map wD) = none := by
        rw [← hd, List.map_findSome?]
        congr 1
        funext i
        simp only [Function.comp, HP.atN, Nat.add_comm 1 i, List.getD_cons_zero, List.getD_cons_succ]
      rw [e2]

def F_along : List PyData → PyData → Prop := fun ds d => ∃ a b p : HP.Pt, ds = [ptD a, ptD b, ptD p] ∧ Near a ∧ Near b ∧ Near p ∧ d = wD (HP.along a b p)
theorem ok_along {P : Program} {w : World} {K : PySem.W.Frag} {mg : Str → Option Value} {base : Heap} {ad : Ad} (T : Txt K mg ad) : FnOk P w K mg base CX0 1 ad.a_along ad.d_along ["one", "other", "point"] (spD K F_along) := by
  refine ok_D (k := 0) T.F_along sc_along (by rintro _ _ ⟨_, _, _, rfl, _⟩; rfl) (fun cdv A outer s H E hr ds res hF => ?_)
  refine ⟨_, (pss_cons (ps_set (i := 3) sc_along.nd rfl (Or.inl rfl) (pe_op op_sub (pe_ix ix_seq (pv 1) pe_int (fun _ _ => rfl)) (pe_ix ix_seq (pv 0) pe_int (fun _ _ => rfl))))
      (pss_cons (ps_set (i := 4) sc_along.nd rfl (Or.inl rfl) (pe_op op_sub (pe_ix ix_seq (pv 1) pe_int (fun _ _ => rfl)) (pe_ix ix_seq (pv 0) pe_int (fun _ _ => rfl))))
      (pss_cons (ps_set (i := 5) sc_along.nd rfl (Or.inl rfl) (pv 0))
      (pss_cons (ps_if (pt_cmpR op_gt (pe_op op_add (pe_op op_mul (pv 3) (pe_op op_sub (pe_ix ix_seq (pv 2) pe_int (fun _ _ => rfl)) (pe_ix ix_seq (pv 0) pe_int (fun _ _ => rfl)))) (pe_op op_mul (pv 4) (pe_op op_sub (pe_ix ix_seq (pv 2) pe_int (fun _ _ => rfl)) (pe_ix ix_seq (pv 0) pe_int (fun _ _ => rfl))))) pe_int (nomark _)) (pss_cons (ps_set (i := 5) sc_along.nd rfl (Or.inl rfl) (pv 1))
      (pss_cons (ps_set (i := 3) sc_along.nd rfl (Or.inl rfl) (pe_op op_sub pe_int (pv 3)))
      (pss_one (ps_set (i := 4) sc_along.nd rfl (Or.inl rfl) (pe_op op_sub pe_int (pv 4)))))) pss_nil)
      (pss_one (ps_ret (pe_tup (pa_cons (pv 3) (pa_cons (pv 4) (pa_cons (pe_op op_sub (pe_op op_sub pe_int (pe_op op_mul (pv 3) (pe_ix ix_seq (pv 5) pe_int (fun _ _ => rfl)))) (pe_op op_mul (pv 4) (pe_ix ix_seq (pv 5) pe_int (fun _ _ => rfl)))) pa_nil)))))))))), ?_⟩
  obtain ⟨a, b, p, rfl, ha, hb, hp, rfl⟩ := hF
  unfold Near at ha hb hp
  refine rx_seq (rx_asg (by wtm_at "ev") rfl) (rx_seq (rx_asg (by wtm_at "ev") rfl) (rx_seq (rx_asg (by wtm_at "ev") rfl) ?_))
  unfold HP.along
  simp only
  by_cases hc : (b.1 - a.1) * (p.1 - a.1) + (b.2 - a.2) * (p.2 - a.2) > 0
  · rw [if_pos hc]
    refine rx_seq (e1 := [.dat (ptD a), .dat (ptD b), .dat (ptD p), .dat (.int (0 - (b.1 - a.1))), .dat (.int (0 - (b.2 - a.2))), .dat (ptD b)]) (rx_if (b := true) (xt_is (xt_test (by wtm_at "ev")) (decide_eq_true hc)) (fun _ => ?_) (fun e => by cases e)) ?_
    · exact rx_seq (rx_asg (by wtm_at "ev") rfl) (rx_seq (rx_asg (by wtm_at "ev") rfl) (rx_asg (by wtm_at "ev") rfl))
    · exact rx_ret (ex_is (by wtm_at "ev") rfl)
  · rw [if_neg hc]
    refine rx_seq (e1 := [.dat (ptD a), .dat (ptD b), .dat (ptD p), .dat (.int (b.1 - a.1)), .dat (.int (b.2 - a.2)), .dat (ptD a)]) (rx_if (b := false) (xt_is (xt_test (by wtm_at "ev")) (decide_eq_false hc)) (fun e => by cases e) (fun _ => rx_next)) ?_
    exact rx_ret (ex_is (by wtm_at "ev") rfl)

def F_shut_out : List PyData → PyData → Prop := fun ds d => ∃ (ps : List HP.Pt) (p : HP.Pt), ds = [ptsD ps, ptD p] ∧ Nears ps ∧ Near p ∧ d = wD (HP.shutOut ps p)
theorem edge_range (p : HP.Pt) : ∀ (l : List HP.Pt) (a : HP.Pt), HP.edgeFind p (a :: l) = (List.range l.length).findSome? fun i => if HP.turn (HP.atN (a :: l) i) (HP.atN (a :: l) (i + 1)) p < 0 then some (HP.lineThrough (HP.atN (a :: l) i) (HP.atN (a :: l) (i + 1))) else none
  | [], a => rfl
  | b :: l, a => by
    show (if HP.turn a b p < 0 then some (HP.lineThrough a b) else HP.edgeFind p (b :: l)) = _
    rw [edge_range p l b, List.length_cons, List.range_succ_eq_map, List.findSome?_cons, List.findSome?_map]
    simp only [HP.atN, List.getD_cons_zero, List.getD_cons_succ]
    by_cases h : HP.turn a b p < 0
    · rw [if_pos h, if_pos h]
    · rw [if_neg h, if_neg h]
      simp only
      congr 1
/-- the edges, the last one back to the first -/
theorem edge_rim (p z w : HP.Pt) (r : List HP.Pt) : HP.edgeFind p (z :: w :: r ++ [z]) = (List.range (z :: w :: r).length).findSome? fun k => if HP.turn (HP.atN (z :: w :: r) k) (HP.atN (z :: w :: r) ((k + 1) % (z :: w :: r).length)) p < 0 then some (HP.lineThrough (HP.atN (z :: w :: r) k) (HP.atN (z :: w :: r) ((k + 1) % (z :: w :: r).length))) else none := by
  have e := edge_range p (w :: r ++ [z]) z
  rw [show z :: (w :: r ++ [z]) = z :: w :: r ++ [z] by simp] at e
  rw [e]
  have hl : (w :: r ++ [z]).length = (z :: w :: r).length := by simp
  rw [hl]
  have key : ∀ k, k < (z :: w :: r).length → HP.atN (z :: w :: r ++ [z]) k = HP.atN (z :: w :: r) k ∧ HP.atN (z :: w :: r ++ [z]) (k + 1) = HP.atN (z :: w :: r) ((k + 1) % (z :: w :: r).length) := by
    intro k hk
    unfold HP.atN
    refine ⟨?_, ?_⟩
    · rw [List.getD_eq_getElem?_getD, List.getD_eq_getElem?_getD, List.getElem?_append_left hk]
    · rw [List.getD_eq_getElem?_getD, List.getD_eq_getElem?_getD]
      by_cases h : k + 1 < (z :: w :: r).length
      · rw [List.getElem?_append_left h, Nat.mod_eq_of_lt h]
      · have h2 : k + 1 = (z :: w :: r).length := by omega
        rw [h2, List.getElem?_append_right (Nat.le_refl _), Nat.sub_self, Nat.mod_self]
        rfl
  have cong : ∀ l : List Nat, (∀ k ∈ l, k < (z :: w :: r).length) → (l.findSome? fun i => if HP.turn (HP.atN (z :: w :: r ++ [z]) i) (HP.atN (z :: w :: r ++ [z]) (i + 1)) p < 0 then some (HP.lineThrough (HP.atN (z :: w :: r ++ [z]) i) (HP.atN (z :: w :: r ++ [z]) (i + 1))) else none) =
      l.findSome? fun k => if HP.turn (HP.atN (z :: w :: r) k) (HP.atN (z :: w :: r) ((k + 1) % (z :: w :: r).length)) p < 0 then some (HP.lineThrough (HP.atN (z :: w :: r) k) (HP.atN (z :: w :: r) ((k + 1) % (z :: w :: r).length))) else none := by
    intro l
    induction l with
    | nil => intro _; rfl
    | cons k l ih =>
      intro h
      obtain ⟨h1, h2⟩ := key k (h k (by simp))
      rw [List.findSome?_cons, List.findSome?_cons, h1, h2, ih fun j hj => h j (List.mem_cons_of_mem _ hj)]
  exact cong _ fun k hk => List.mem_range.mp hk
theorem ok_shut_out {P : Program} {w : World} {K : PySem.W.Frag} {mg : Str → Option Value} {base : Heap} {ad : Ad} (T : Txt K mg ad) : FnOk P w K mg base CX0 4 ad.a_shut_out ad.d_shut_out ["points", "point"] (spD K F_shut_out) := by
  have G_corners_of := ok_corners_of (P := P) (w := w) (base := base) T
  have G_turn := ok_turn (P := P) (w := w) (base := base) T
  have G_line_through := ok_line_through (P := P) (w := w) (base := base) T
  have G_along := ok_along (P := P) (w := w) (base := base) T
  refine ok_D (k := 3) T.F_shut_out sc_shut_out (by rintro _ _ ⟨_, _, rfl, _⟩; rfl) (fun cdv A outer s H E hr ds res hF => ?_)
  refine ⟨_, (pss_cons (ps_set (i := 2) sc_shut_out.nd rfl (Or.inl rfl) (pe_call G_corners_of (hr.mono (by decide)) (by rfl) T.g_corners_of T.F_corners_of.kp T.b_corners_of .nil pass0 (pa_cons (pv 0) pa_nil)))
      (pss_cons (ps_if (pt_cmpR (op_eqD hr.units) (pe_callB call_len (by rfl) T.n_len PySem.boot_len (pa_cons (pv 2) pa_nil)) pe_int (nomark _)) (pss_one (ps_ret (pe_tup (pa_cons pe_int (pa_cons pe_int (pa_cons (pe_un un_neg pe_int) pa_nil)))))) pss_nil)
      (pss_cons (ps_if (pt_cmpR (op_eqD hr.units) (pe_callB call_len (by rfl) T.n_len PySem.boot_len (pa_cons (pv 2) pa_nil)) pe_int (nomark _)) (pss_cons (ps_set (i := 3) sc_shut_out.nd rfl (Or.inl rfl) (pe_op op_sub (pe_ix ix_seq (pe_ix ix_seq (pv 2) pe_int (fun _ _ => rfl)) pe_int (fun _ _ => rfl)) (pe_ix ix_seq (pv 1) pe_int (fun _ _ => rfl))))
      (pss_cons (ps_set (i := 4) sc_shut_out.nd rfl (Or.inl rfl) (pe_op op_sub (pe_ix ix_seq (pe_ix ix_seq (pv 2) pe_int (fun _ _ => rfl)) pe_int (fun _ _ => rfl)) (pe_ix ix_seq (pv 1) pe_int (fun _ _ => rfl))))
      (pss_one (ps_ret (pe_tup (pa_cons (pv 3) (pa_cons (pv 4) (pa_cons (pe_op op_sub (pe_op op_sub pe_int (pe_op op_mul (pv 3) (pe_ix ix_seq (pe_ix ix_seq (pv 2) pe_int (fun _ _ => rfl)) pe_int (fun _ _ => rfl)))) (pe_op op_mul (pv 4) (pe_ix ix_seq (pe_ix ix_seq (pv 2) pe_int (fun _ _ => rfl)) pe_int (fun _ _ => rfl)))) pa_nil)))))))) pss_nil)
      (pss_cons (ps_for PassesOwn.never rfl (pi_range1 (by rfl) T.n_range (pa_cons (pe_callB call_len (by rfl) T.n_len PySem.boot_len (pa_cons (pv 2) pa_nil)) pa_nil)) (pg_name (i := 5) sc_shut_out.nd rfl (Or.inl rfl)) (pss_cons (ps_set (i := 6) sc_shut_out.nd rfl (Or.inl rfl) (pe_ix ix_seq (pv 2) (pv 5) (fun _ _ => rfl)))
      (pss_cons (ps_set (i := 7) sc_shut_out.nd rfl (Or.inl rfl) (pe_ix ix_seq (pv 2) (pe_op op_mod (pe_op op_add (pv 5) pe_int) (pe_callB call_len (by rfl) T.n_len PySem.boot_len (pa_cons (pv 2) pa_nil))) (fun _ _ => rfl)))
      (pss_one (ps_if (pt_cmpR op_lt (pe_call G_turn (hr.mono (by decide)) (by rfl) T.g_turn T.F_turn.kp T.b_turn .nil pass0 (pa_cons (pv 6) (pa_cons (pv 7) (pa_cons (pv 1) pa_nil)))) pe_int (nomark _)) (pss_one (ps_ret (pe_call G_line_through (hr.mono (by decide)) (by rfl) T.g_line_through T.F_line_through.kp T.b_line_through .nil pass0 (pa_cons (pv 6) (pa_cons (pv 7) pa_nil))))) pss_nil)))))
      (pss_one (ps_ret (pe_call G_along (hr.mono (by decide)) (by rfl) T.g_along T.F_along.kp T.b_along .nil pass0 (pa_cons (pe_ix ix_seq (pv 2) pe_int (fun _ _ => rfl)) (pa_cons (pe_ix ix_seq (pv 2) pe_int (fun _ _ => rfl)) (pa_cons (pv 1) pa_nil)))))))))), ?_⟩
  obtain ⟨ps, p, rfl, hps, hp, rfl⟩ := hF
  have R := HP.rim_ok ps
  have hlen := rim_len ps
  have hl64 := hps.1
  refine rx_seq (e1 := [.dat (ptsD ps), .dat (ptD p), .dat (ptsD (HP.cornersOf ps)), .no, .no, .no, .no, .no]) (rx_asg (ex_new (xf_call (ea_cons (ex_var rfl) ea_nil) ⟨ps, rfl, hps, rfl⟩)) rfl) ?_
  unfold HP.shutOut
  generalize hrim : HP.cornersOf ps = rim at R hlen ⊢
  have near : ∀ x ∈ rim, Near x := fun x hx => hps.2 x (R.sub x hx)
  refine rx_ifS (b := decide ((rim.length : Int) = 0)) (xt_is (xt_test (ex_eq (ex_len (ex_var rfl) rfl) ex_int rfl rfl)) (by rw [eqv_int, List.length_map])) (fun e => ?_) (fun e => rx_nextS ?_)
  · have e2 := of_decide_eq_true e
    have : rim = [] := List.eq_nil_of_length_eq_zero (by omega)
    subst this
    exact rx_end (rx_ret (ex_tup (ea_cons ex_int (ea_cons ex_int (ea_cons (ex_U ex_int) ea_nil))) (Nat.le_of_ble_eq_true rfl))) rfl
  have hn0 := of_decide_eq_false e
  refine rx_ifS (b := decide ((rim.length : Int) = 1)) (xt_is (xt_test (ex_eq (ex_len (ex_var rfl) rfl) ex_int rfl rfl)) (by rw [eqv_int, List.length_map])) (fun e => ?_) (fun e => rx_nextS ?_)
  · have e2 := of_decide_eq_true e
    match rim, e2, near with
    | [z], _, near =>
      have hz := near z (by simp)
      unfold Near at hz hp
      have zx : ∀ e : SE, e[2]? = some (.dat (ptsD [z])) → EvX K (tOp (rIx K) (tOp (rIx K) (tVar 2) (tC (.int 0))) (tC (.int 0))) e (.int z.1) := fun e h => ex_ixT (ds := [.int z.1, .int z.2]) (ex_ixL (ds := [ptD z]) (ex_var h) ex_int rfl) ex_int rfl
      have zy : ∀ e : SE, e[2]? = some (.dat (ptsD [z])) → EvX K (tOp (rIx K) (tOp (rIx K) (tVar 2) (tC (.int 0))) (tC (.int 1))) e (.int z.2) := fun e h => ex_ixT (ds := [.int z.1, .int z.2]) (ex_ixL (ds := [ptD z]) (ex_var h) ex_int rfl) ex_int rfl
      have c1 : CMul (z.1 - p.1) z.1 := by left; omega
      have c2 : CMul (z.2 - p.2) z.2 := by left; omega
      refine rx_end (rx_seq (e1 := [.dat (ptsD ps), .dat (ptD p), .dat (ptsD [z]), .dat (.int (z.1 - p.1)), .no, .no, .no, .no]) (rx_asg (ex_I0 (zx _ rfl) (ex_ixT (ds := [.int p.1, .int p.2]) (ex_var rfl) ex_int rfl)) rfl)
        (rx_seq (e1 := [.dat (ptsD ps), .dat (ptD p), .dat (ptsD [z]), .dat (.int (z.1 - p.1)), .dat (.int (z.2 - p.2)), .no, .no, .no]) (rx_asg (ex_I0 (zy _ rfl) (ex_ixT (ds := [.int p.1, .int p.2]) (ex_var rfl) ex_int rfl)) rfl)
        (rx_ret (ex_is (ex_tup (ea_cons (ex_var rfl) (ea_cons (ex_var rfl) (ea_cons (ex_I0 (ex_I0 ex_int (ex_I (ex_var rfl) (zx _ rfl) c1)) (ex_I (ex_var rfl) (zy _ rfl) c2)) ea_nil))) (Nat.le_of_ble_eq_true rfl)) rfl)))) rfl
  have hn1 := of_decide_eq_false e
  match rim, hn0, hn1, near, hlen with
  | [], hn0, _, _, _ => exact absurd rfl hn0
  | [z], _, hn1, _, _ => exact absurd rfl hn1
  | z :: w :: r, _, _, near, hlen =>
    simp only
    rw [edge_rim]
    generalize hrm : z :: w :: r = rm at *
    have hl2 : 2 ≤ rm.length := by rw [← hrm]; simp
    refine rx_find (f := fun k : Nat => (if HP.turn (HP.atN rm k) (HP.atN rm ((k + 1) % rm.length)) p < 0 then some (HP.lineThrough (HP.atN rm k) (HP.atN rm ((k + 1) % rm.length))) else none).map wD) (items := List.range (rm.length : Int).toNat) (e := [.dat (ptsD ps), .dat (ptD p), .dat (ptsD rm), .no, .no, .no, .no, .no]) (rx_forR1 (n := (rm.length : Int)) (ea_cons (ex_is (ex_len (ex_var rfl) rfl) (by rw [List.length_map])) ea_nil) (by omega) (fr_find (fun i : Nat => PyData.int (0 + (i : Int))) _ [.dat (ptsD ps), .dat (ptD p), .dat (ptsD rm), .no, .no, .no, .no, .no] _ fun i hi => ?_)) (fun d hd => ?_) (fun hd => ?_)
    · have hi' : i < rm.length := by have := List.mem_range.mp hi; omega
      have hj : (i + 1) % rm.length < rm.length := Nat.mod_lt _ (by omega)
      have n1 := near _ (HP.atN_mem hi')
      have n2 := near _ (HP.atN_mem hj)
      have em : (0 + (i : Int) + 1) % (rm.length : Int) = (((i + 1) % rm.length : Nat) : Int) := by
        rw [show (0 + (i : Int) + 1) = ((i + 1 : Nat) : Int) by omega]
        rfl
      refine ⟨_, tg_name' (e' := [.dat (ptsD ps), .dat (ptD p), .dat (ptsD rm), .no, .no, .dat (.int (0 + (i : Int))), .no, .no]) rfl, ?_⟩
      have step : RunX K (tSeq (tAsg (tOp (rIx K) (tVar 2) (tVar 5)) (gName 6)) (tAsg (tOp (rIx K) (tVar 2) (tOp (rI (fun _ j => 0 < j) fun i j => V.int (i % j)) (tOp (rI0 fun i j => V.int (i + j)) (tVar 5) (tC (.int 1))) (tCB (fun xs H Q => ∃ x n, xs = [x] ∧ LenV K x H n ∧ Q (.int n) H) (tCons (tVar 2) tNil)))) (gName 7))) [.dat (ptsD ps), .dat (ptD p), .dat (ptsD rm), .no, .no, .dat (.int (0 + (i : Int))), .no, .no] (.nx [.dat (ptsD ps), .dat (ptD p), .dat (ptsD rm), .no, .no, .dat (.int (0 + (i : Int))), .dat (ptD (HP.atN rm i)), .dat (ptD (HP.atN rm ((i + 1) % rm.length)))]) := by
        refine rx_seq (e1 := [.dat (ptsD ps), .dat (ptD p), .dat (ptsD rm), .no, .no, .dat (.int (0 + (i : Int))), .dat (ptD (HP.atN rm i)), .no]) (rx_asg (ex_is (ex_ixL (ex_var rfl) (ex_var rfl) (atI_pts (by omega) (by omega))) ?_) rfl) (rx_asg (ex_is (ex_ixL (ex_var rfl) (ex_is (ex_I (g := fun i j => i % j) (ex_I0 (g := fun i j => i + j) (ex_var rfl) ex_int) (ex_is (ex_len (ex_var rfl) rfl) (by rw [List.length_map])) (by omega)) (congrArg PyData.int em)) (atI_pts (by omega) (by omega))) ?_) rfl)
        · rw [show (0 + (i : Int)).toNat = i by omega]
        · rw [show ((((i + 1) % rm.length : Nat) : Int)).toNat = (i + 1) % rm.length by omega]
      have test : EvTX K (tTest (tOp (rI0 fun i j => V.bl (decide (i < j))) (tCall (spD K F_turn) [] E0 (tCons (tVar 6) (tCons (tVar 7) (tCons (tVar 1) tNil)))) (tC (.int 0)))) [.dat (ptsD ps), .dat (ptD p), .dat (ptsD rm), .no, .no, .dat (.int (0 + (i : Int))), .dat (ptD (HP.atN rm i)), .dat (ptD (HP.atN rm ((i + 1) % rm.length)))] (decide (HP.turn (HP.atN rm i) (HP.atN rm ((i + 1) % rm.length)) p < 0)) :=
        xt_test (ex_B0 (g := fun i j => decide (i < j)) (ex_call (ea_cons (ex_var rfl) (ea_cons (ex_var rfl) (ea_cons (ex_var rfl) ea_nil))) ⟨_, _, _, rfl, n1.small, n2.small, hp.small, rfl⟩) ex_int)
      constructor
      · intro d hd
        by_cases ht : HP.turn (HP.atN rm i) (HP.atN rm ((i + 1) % rm.length)) p < 0
        · rw [if_pos ht] at hd
          cases hd
          rw [decide_eq_true ht] at test
          exact rx_assoc step (rx_if test (fun _ => rx_ret (ex_call (ea_cons (ex_var rfl) (ea_cons (ex_var rfl) ea_nil)) ⟨_, _, rfl, n1, n2, rfl⟩)) (fun e => by cases e))
        · rw [if_neg ht] at hd
          cases hd
      · intro hd
        by_cases ht : HP.turn (HP.atN rm i) (HP.atN rm ((i + 1) % rm.length)) p < 0
        · rw [if_pos ht] at hd
          cases hd
        · rw [decide_eq_false ht] at test
          exact rx_assoc step (rx_if test (fun e => by cases e) (fun _ => rx_post rx_next (.keep (.keep (.keep (.drop (.drop (.drop (.drop (.drop .nil))))))))))
    · rw [show (rm.length : Int).toNat = rm.length by omega] at hd
      rw [find_map] at hd
      cases ho : (List.range rm.length).findSome? fun k => if HP.turn (HP.atN rm k) (HP.atN rm ((k + 1) % rm.length)) p < 0 then some (HP.lineThrough (HP.atN rm k) (HP.atN rm ((k + 1) % rm.length))) else none with
      | none => rw [ho] at hd; cases hd
      | some l =>
        rw [ho] at hd
        cases hd
        rfl
    · rw [show (rm.length : Int).toNat = rm.length by omega] at hd
      rw [find_map] at hd
      cases ho : (List.range rm.length).findSome? fun k => if HP.turn (HP.atN rm k) (HP.atN rm ((k + 1) % rm.length)) p < 0 then some (HP.lineThrough (HP.atN rm k) (HP.atN rm ((k + 1) % rm.length))) else none with
      | some l => rw [ho] at hd; cases hd
      | none =>
        subst hrm
        exact rx_ret (ex_call (ea_cons (ex_is (ex_ixL (ex_var rfl) ex_int (atI_pts (by omega) (by simp only [List.length_cons]; omega))) rfl) (ea_cons (ex_is (ex_ixL (ex_var rfl) ex_int (atI_pts (by omega) (by simp only [List.length_cons]; omega))) rfl) (ea_cons (ex_var rfl) ea_nil))) ⟨z, w, p, rfl, near z (by simp), near w (by simp), hp, rfl⟩)

/-- what placed tells: a new list within a pair, or a line -/
def placedP (ps : List HP.Pt) (p : HP.Pt) : List Part := match HP.within ps p with
  | some ws => [.inl (.str "in"), .inr (ws.map wD)]
  | none => [.inl (.str "out"), .inl (wD (HP.shutOut ps p))]
def placedD (ps : List HP.Pt) (p : HP.Pt) : PyData := .tuple ((placedP ps p).map Part.toD)
def wordS (ps : List HP.Pt) (p : HP.Pt) : Str := if (HP.within ps p).isSome then "in" else "out"
theorem placedD_eq (ps : List HP.Pt) (p : HP.Pt) : ∃ d, placedD ps p = .tuple [.str (wordS ps p), d] := by
  unfold placedD placedP wordS
  cases HP.within ps p with
  | none => exact ⟨_, rfl⟩
  | some ws => exact ⟨_, rfl⟩
theorem wordS_in {ps : List HP.Pt} {p : HP.Pt} (h : ¬ HP.Sep ps p) : wordS ps p = "in" := by
  unfold wordS
  cases e : HP.within ps p with
  | none => exact absurd ((HP.within_iff ps p).mp e) h
  | some ws => rfl
theorem wordS_out {ps : List HP.Pt} {p : HP.Pt} (h : HP.Sep ps p) : wordS ps p = "out" := by
  unfold wordS
  rw [(HP.within_iff ps p).mpr h]
  rfl
theorem wordS_same {ps qs : List HP.Pt} {p : HP.Pt} (h : HP.Sep ps p ↔ HP.Sep qs p) : wordS ps p = wordS qs p := by
  by_cases k : HP.Sep ps p
  · rw [wordS_out k, wordS_out (h.mp k)]
  · rw [wordS_in k, wordS_in fun z => k (h.mpr z)]
theorem str_shaped (ps : List HP.Pt) (p : HP.Pt) : SeqAt.shaped (.str (wordS ps p)) = true := by
  by_cases k : HP.Sep ps p
  · rw [wordS_out k]; decide +kernel
  · rw [wordS_in k]; decide +kernel
theorem str_eqv (ps qs : List HP.Pt) (p q : HP.Pt) : PyData.eqv (.str (wordS ps p)) (.str (wordS qs q)) = decide (wordS ps p = wordS qs q) := by
  by_cases k : HP.Sep ps p <;> by_cases k2 : HP.Sep qs q
  · rw [wordS_out k, wordS_out k2]; decide +kernel
  · rw [wordS_out k, wordS_in k2]; decide +kernel
  · rw [wordS_in k, wordS_out k2]; decide +kernel
  · rw [wordS_in k, wordS_in k2]; decide +kernel
def F_placed (K : PySem.W.Frag) : List PyData → (Hp → V → Hp → Prop) → Prop := fun ds R => ∃ (ps : List HP.Pt) (p : HP.Pt), ds = [ptsD ps, ptD p] ∧ ps.length ≤ 12 ∧ (∀ q ∈ ps, Near q) ∧ Near p ∧ R = RT K (placedP ps p)
/-- the word of an answer -/
theorem ex_word {K : PySem.W.Frag} {env : SE} {tps tp : TE} {ps : List HP.Pt} {p : HP.Pt} {E : XK} (h1 : EvX K tps env (ptsD ps)) (h2 : EvX K tp env (ptD p)) (hl : ps.length ≤ 12) (hn : ∀ q ∈ ps, Near q) (hp : Near p) :
    EvX K (tOp (rIx K) (tCall (spR K (F_placed K)) [] E (tCons tps (tCons tp tNil))) (tC (.int 0))) env (.str (wordS ps p)) := by
  obtain ⟨d, e⟩ := placedD_eq ps p
  exact ex_ixT (ex_is (ex_callR (d := placedD ps p) (ea_cons h1 (ea_cons h2 ea_nil)) ⟨ps, p, rfl, hl, hn, hp, rfl⟩ fun Hm v H h => RT.rp h) e) ex_int rfl
theorem ok_placed {P : Program} {w : World} {K : PySem.W.Frag} {mg : Str → Option Value} {base : Heap} {ad : Ad} (T : Txt K mg ad) : FnOk P w K mg base CX0 6 ad.a_placed ad.d_placed ["points", "point"] (spR K (F_placed K)) := by
  have G_ask_points := ok_ask_points (P := P) (w := w) (base := base) T
  have G_ask_point := ok_ask_point (P := P) (w := w) (base := base) T
  have G_within := ok_within (P := P) (w := w) (base := base) T
  have G_shut_out := ok_shut_out (P := P) (w := w) (base := base) T
  refine ok_R (k := 5) T.F_placed sc_placed (by rintro _ _ ⟨_, _, rfl, _⟩; rfl) (fun cdv A outer s H E hr ds res hF => ?_)
  refine ⟨_, (pss_cons (ps_expr (pe_call G_ask_points (hr.mono (by decide)) (by rfl) T.g_ask_points T.F_ask_points.kp T.b_ask_points .nil pass0 (pa_cons (pv 0) pa_nil)))
      (pss_cons (ps_expr (pe_call G_ask_point (hr.mono (by decide)) (by rfl) T.g_ask_point T.F_ask_point.kp T.b_ask_point .nil pass0 (pa_cons (pv 1) pa_nil)))
      (pss_cons (ps_set (i := 2) sc_placed.nd rfl (Or.inl rfl) (pe_call G_within (hr.mono (by decide)) (by rfl) T.g_within T.F_within.kp T.b_within .nil pass0 (pa_cons (pv 0) (pa_cons (pv 1) pa_nil))))
      (pss_cons (ps_if (pt_cmpR op_notN (pv 2) pe_non (nomark _)) (pss_one (ps_ret (pe_tup (pa_cons pe_str (pa_cons (pv 2) pa_nil))))) pss_nil)
      (pss_one (ps_ret (pe_tup (pa_cons pe_str (pa_cons (pe_call G_shut_out (hr.mono (by decide)) (by rfl) T.g_shut_out T.F_shut_out.kp T.b_shut_out .nil pass0 (pa_cons (pv 0) (pa_cons (pv 1) pa_nil))) pa_nil))))))))), ?_⟩
  obtain ⟨ps, p, rfl, hl, hn, hp, rfl⟩ := hF
  have hps : Nears ps := ⟨by omega, hn⟩
  refine rx_seq (rx_drop (ex_call (ea_cons (ex_var rfl) ea_nil) ⟨⟨ps, rfl, hl, hn⟩, rfl⟩)) (rx_seq (rx_drop (ex_call (ea_cons (ex_var rfl) ea_nil) ⟨⟨p, rfl, hp⟩, rfl⟩)) ?_)
  have ha : EvAX K (tCons (tVar 0) (tCons (tVar 1) tNil)) [.dat (ptsD ps), .dat (ptD p), .no] [ptsD ps, ptD p] := ea_cons (ex_var rfl) (ea_cons (ex_var rfl) ea_nil)
  cases ho : HP.within ps p with
  | none =>
    refine rx_seq (e1 := [.dat (ptsD ps), .dat (ptD p), .dat .none]) (rx_asg (ex_callO ha ⟨ps, p, rfl, hps, hp, by rw [ho]; rfl⟩) rfl) ?_
    refine rx_ifS (b := false) (xt_test (ex_notN (d := .none) (ex_var rfl))) (fun e => by cases e) (fun _ => rx_nextS ?_)
    unfold placedP
    rw [ho]
    exact rx_retT (ep_dat ex_str rfl (ep_dat (ex_call (ea_cons (ex_var rfl) (ea_cons (ex_var rfl) ea_nil)) ⟨ps, p, rfl, hps, hp, rfl⟩) rfl ep_nil)) (Nat.le_of_ble_eq_true rfl)
  | some ws =>
    refine rx_seq (e1 := [.dat (ptsD ps), .dat (ptD p), .own (ws.map wD)]) (rx_asgF (xf_callO ha ⟨ps, p, rfl, hps, hp, by rw [ho]; rfl⟩) rfl) ?_
    refine rx_ifS (b := true) (xt_test (ex_notN (ex_own rfl))) (fun _ => ?_) (fun e => by cases e)
    unfold placedP
    rw [ho]
    exact rx_end (rx_retT (ep_dat ex_str rfl (ep_own rfl (lfree_w3s ws) ep_nil)) (Nat.le_of_ble_eq_true rfl)) rfl

def optL : Option HP.Line → PyData
  | none => .none
  | some L => wD L
def Way (m : HP.Pt) : Prop := -2000 ≤ m.1 ∧ m.1 ≤ 2000 ∧ -2000 ≤ m.2 ∧ m.2 ≤ 2000
def F_sides : List PyData → PyData → Prop := fun ds d => ∃ (A B : List HP.Pt) (m : HP.Pt), ds = [ptsD A, ptsD B, .int m.1, .int m.2] ∧ Nears A ∧ Nears B ∧ A ≠ [] ∧ B ≠ [] ∧ Way m ∧ d = optL (HP.sidesL A B m)
theorem ok_sides {P : Program} {w : World} {K : PySem.W.Frag} {mg : Str → Option Value} {base : Heap} {ad : Ad} (T : Txt K mg ad) : FnOk P w K mg base CX0 1 ad.a_sides ad.d_sides ["ones", "others", "first", "second"] (spD K F_sides) := by
  refine ok_D (k := 0) T.F_sides sc_sides (by rintro _ _ ⟨_, _, _, rfl, _⟩; rfl) (fun cdv A outer s H E hr ds res hF => ?_)
  refine ⟨_, (pss_cons (ps_set (i := 4) sc_sides.nd rfl (Or.inl rfl) (pe_callB (cr_min rfl) (by rfl) T.n_min (by decide +kernel) (pa_cons (pe_lcA (own := [("point", 6)]) rfl sc_sides.nd (pi_list (pv 0)) (blkOk_by (own := [("point", 6)]) (N := N_sides) (sc := defScope s_sides) (by decide +kernel)) (fun _ _ _ _ _ => (pg_name (i := 6) sc_sides.nd rfl (Or.inl rfl) (hf := Or.inr rfl))) (fun _ _ _ _ _ => pts_nil) (fun _ _ _ _ _ => (pe_op op_add (pe_op op_mul (pv 2) (pe_ix ix_seq (pv 6) pe_int (fun _ _ => rfl))) (pe_op op_mul (pv 3) (pe_ix ix_seq (pv 6) pe_int (fun _ _ => rfl)))))) pa_nil)))
      (pss_cons (ps_set (i := 5) sc_sides.nd rfl (Or.inl rfl) (pe_callB (cr_max rfl) (by rfl) T.n_max (by decide +kernel) (pa_cons (pe_lcA (own := [("point", 6)]) rfl sc_sides.nd (pi_list (pv 1)) (blkOk_by (own := [("point", 6)]) (N := N_sides) (sc := defScope s_sides) (by decide +kernel)) (fun _ _ _ _ _ => (pg_name (i := 6) sc_sides.nd rfl (Or.inl rfl) (hf := Or.inr rfl))) (fun _ _ _ _ _ => pts_nil) (fun _ _ _ _ _ => (pe_op op_add (pe_op op_mul (pv 2) (pe_ix ix_seq (pv 6) pe_int (fun _ _ => rfl))) (pe_op op_mul (pv 3) (pe_ix ix_seq (pv 6) pe_int (fun _ _ => rfl)))))) pa_nil)))
      (pss_cons (ps_if (pt_cmpR op_gt (pv 4) (pv 5) (nomark _)) (pss_one (ps_ret (pe_tup (pa_cons (pe_op op_mul pe_int (pv 2)) (pa_cons (pe_op op_mul pe_int (pv 3)) (pa_cons (pe_op op_sub (pe_op op_sub pe_int (pv 4)) (pv 5)) pa_nil)))))) pss_nil)
      (pss_one (ps_ret pe_non))))), ?_⟩
  obtain ⟨A, B, m, rfl, hA, hB, nA, nB, hm, rfl⟩ := hF
  unfold Way at hm
  have px : ∀ (e : SE) (i : Nat) (q : HP.Pt), e[i]? = some (.dat (ptD q)) → EvX K (tOp (rIx K) (tVar i) (tC (.int 0))) e (.int q.1) ∧ EvX K (tOp (rIx K) (tVar i) (tC (.int 1))) e (.int q.2) := fun e i q h => ⟨ex_ixT (ds := [.int q.1, .int q.2]) (ex_var h) ex_int rfl, ex_ixT (ds := [.int q.1, .int q.2]) (ex_var h) ex_int rfl⟩
  have val : ∀ (e : SE) (q : HP.Pt), e[2]? = some (.dat (.int m.1)) → e[3]? = some (.dat (.int m.2)) → e[6]? = some (.dat (ptD q)) → EvX K (tOp (rI0 fun i j => V.int (i + j)) (tOp (rI CMul fun i j => V.int (i * j)) (tVar 2) (tOp (rIx K) (tVar 6) (tC (.int 0)))) (tOp (rI CMul fun i j => V.int (i * j)) (tVar 3) (tOp (rIx K) (tVar 6) (tC (.int 1))))) e (.int (HP.dot2 m q)) := fun e q h2 h3 h6 =>
    ex_I0 (g := fun i j => i + j) (ex_I (g := fun i j => i * j) (ex_var h2) (px e 6 q h6).1 (by left; omega)) (ex_I (g := fun i j => i * j) (ex_var h3) (px e 6 q h6).2 (by left; omega))
  have lcs : ∀ P : List HP.Pt, lcRes (fun _ : HP.Pt => true) (fun q => PyData.int (HP.dot2 m q)) P = (P.map (HP.dot2 m)).map PyData.int := fun P => by
    unfold lcRes
    rw [List.filter_eq_self.mpr fun _ _ => rfl, List.map_map]
    rfl
  refine rx_seq (e1 := [.dat (ptsD A), .dat (ptsD B), .dat (.int m.1), .dat (.int m.2), .dat (.int (HP.minL (A.map (HP.dot2 m)))), .no, .no]) (rx_asg (ex_minL (ns := A.map (HP.dot2 m)) (ex_new (xf_is (xf_lc A ptD (fun _ => true) (fun q => .int (HP.dot2 m q)) (fun q => [.dat (ptsD A), .dat (ptsD B), .dat (.int m.1), .dat (.int m.2), .no, .no, .dat (ptD q)]) (ex_var rfl) rfl (by have := hA.1; omega) (fun q _ => cg_name (by decide) rfl) (fun q _ => xt_true) (fun q _ _ => val _ q rfl rfl rfl) (fun _ _ _ => rfl)) (lcs A))) ?_ ?_) rfl) ?_
  · rw [List.length_map]; exact List.length_pos_iff.mpr nA
  · intro x hx hl
    have h1 := hl _ (HP.minL_mem (l := A.map (HP.dot2 m)) (by simpa using nA))
    have h2 := HP.minL_le hx
    omega
  refine rx_seq (e1 := [.dat (ptsD A), .dat (ptsD B), .dat (.int m.1), .dat (.int m.2), .dat (.int (HP.minL (A.map (HP.dot2 m)))), .dat (.int (HP.maxL (B.map (HP.dot2 m)))), .no]) (rx_asg (ex_maxL (ns := B.map (HP.dot2 m)) (ex_new (xf_is (xf_lc B ptD (fun _ => true) (fun q => .int (HP.dot2 m q)) (fun q => [.dat (ptsD A), .dat (ptsD B), .dat (.int m.1), .dat (.int m.2), .dat (.int (HP.minL (A.map (HP.dot2 m)))), .no, .dat (ptD q)]) (ex_var rfl) rfl (by have := hB.1; omega) (fun q _ => cg_name (by decide) rfl) (fun q _ => xt_true) (fun q _ _ => val _ q rfl rfl rfl) (fun _ _ _ => rfl)) (lcs B))) ?_ ?_) rfl) ?_
  · rw [List.length_map]; exact List.length_pos_iff.mpr nB
  · intro x hx hl
    have h1 := hl _ (HP.maxL_mem (l := B.map (HP.dot2 m)) (by simpa using nB))
    have h2 := HP.maxL_ge hx
    omega
  unfold HP.sidesL
  generalize HP.minL (A.map (HP.dot2 m)) = x
  generalize HP.maxL (B.map (HP.dot2 m)) = y
  refine rx_ifS (b := decide (x > y)) (xt_test (ex_B0 (g := fun i j => decide (j < i)) (ex_var rfl) (ex_var rfl))) (fun e => ?_) (fun e => rx_nextS ?_)
  · rw [if_pos (of_decide_eq_true e)]
    refine rx_end (rx_ret (ex_is (ex_tup (ea_cons (ex_I (g := fun i j => i * j) ex_int (ex_var rfl) (by left; omega)) (ea_cons (ex_I (g := fun i j => i * j) ex_int (ex_var rfl) (by left; omega)) (ea_cons (ex_I0 (g := fun i j => i - j) (ex_I0 (g := fun i j => i - j) ex_int (ex_var rfl)) (ex_var rfl)) ea_nil))) (Nat.le_of_ble_eq_true rfl)) rfl)) rfl
  · rw [if_neg (of_decide_eq_false e)]
    exact rx_ret ex_non

def F_ways_of : List PyData → List PyData → Prop := fun ds es => ∃ ps : List HP.Pt, ds = [ptsD ps] ∧ Nears ps ∧ es = (HP.waysOf ps).map ptD
def way2 (a b : HP.Pt) : List HP.Pt := if a = b then [] else [(b.1 - a.1, b.2 - a.2), (0 - (b.2 - a.2), b.1 - a.1)]
theorem fold_flat {α β : Type} (g : α → List β) : ∀ (l : List α) (s : List β), l.foldl (fun s a => s ++ g a) s = s ++ l.flatMap g
  | [], s => by simp
  | a :: l, s => by
    rw [List.foldl_cons, fold_flat g l, List.flatMap_cons, List.append_assoc]
theorem flat_len {α β : Type} {g : α → List β} {c : Nat} : ∀ (l : List α), (∀ a ∈ l, (g a).length ≤ c) → (l.flatMap g).length ≤ l.length * c
  | [], _ => by simp
  | a :: l, h => by
    rw [List.flatMap_cons, List.length_append, List.length_cons, Nat.add_mul, Nat.one_mul]
    have h1 := h a (by simp)
    have h2 := flat_len l fun b hb => h b (List.mem_cons_of_mem _ hb)
    omega
theorem way2_len (a b : HP.Pt) : (way2 a b).length ≤ 2 := by
  unfold way2
  split <;> simp
theorem ok_ways_of {P : Program} {w : World} {K : PySem.W.Frag} {mg : Str → Option Value} {base : Heap} {ad : Ad} (T : Txt K mg ad) : FnOk P w K mg base CX0 1 ad.a_ways_of ad.d_ways_of ["points"] (spF K F_ways_of) := by
  refine ok_F (k := 0) T.F_ways_of sc_ways_of (by rintro _ _ ⟨_, rfl, _⟩; rfl) (fun cdv A outer s H E hr ds res hF => ?_)
  refine ⟨_, (pss_cons (ps_set (i := 1) sc_ways_of.nd rfl (Or.inl rfl) (pe_lst pa_nil))
      (pss_cons (ps_for PassesOwn.never rfl (pi_list (pv 0)) (pg_name (i := 2) sc_ways_of.nd rfl (Or.inl rfl)) (pss_one (ps_for PassesOwn.never rfl (pi_list (pv 0)) (pg_name (i := 3) sc_ways_of.nd rfl (Or.inl rfl)) (pss_one (ps_if (pt_cmpR (op_neD hr.units) (pv 2) (pv 3) (nomark _)) (pss_cons (ps_set (i := 4) sc_ways_of.nd rfl (Or.inl rfl) (pe_op op_sub (pe_ix ix_seq (pv 3) pe_int (fun _ _ => rfl)) (pe_ix ix_seq (pv 2) pe_int (fun _ _ => rfl))))
      (pss_cons (ps_set (i := 5) sc_ways_of.nd rfl (Or.inl rfl) (pe_op op_sub (pe_ix ix_seq (pv 3) pe_int (fun _ _ => rfl)) (pe_ix ix_seq (pv 2) pe_int (fun _ _ => rfl))))
      (pss_cons (ps_expr (pe_bm PySem.F.plainAttrs_list PySem.F.slot_list_append PySem.F.type_list_append mt_append (pv 1) (pa_cons (pe_tup (pa_cons (pv 4) (pa_cons (pv 5) pa_nil))) pa_nil)))
      (pss_one (ps_expr (pe_bm PySem.F.plainAttrs_list PySem.F.slot_list_append PySem.F.type_list_append mt_append (pv 1) (pa_cons (pe_tup (pa_cons (pe_op op_sub pe_int (pv 5)) (pa_cons (pv 4) pa_nil))) pa_nil))))))) pss_nil)))))
      (pss_one (ps_ret (pv 1))))), ?_⟩
  obtain ⟨ps, rfl, hps, rfl⟩ := hF
  have hl := hps.1
  have px : ∀ (e : SE) (i : Nat) (q : HP.Pt), e[i]? = some (.dat (ptD q)) → EvX K (tOp (rIx K) (tVar i) (tC (.int 0))) e (.int q.1) ∧ EvX K (tOp (rIx K) (tVar i) (tC (.int 1))) e (.int q.2) := fun e i q h => ⟨ex_ixT (ds := [.int q.1, .int q.2]) (ex_var h) ex_int rfl, ex_ixT (ds := [.int q.1, .int q.2]) (ex_var h) ex_int rfl⟩
  refine rx_seq (e1 := [.dat (ptsD ps), .own [], .no, .no, .no, .no]) (rx_asgF (xf_lst ea_nil (Nat.zero_le _)) rfl) ?_
  have inn : ∀ a, (ps.flatMap (way2 a)).length ≤ 126 := fun a => by
    have := flat_len (g := way2 a) (c := 2) ps fun b _ => way2_len a b
    omega
  refine rx_seq (e1 := [.dat (ptsD ps), .own ((HP.waysOf ps).map ptD), .no, .no, .no, .no]) (rx_is (rx_forV rfl (fr_fold ptD (fun S : List HP.Pt => [.dat (ptsD ps), .own (S.map ptD), .no, .no, .no, .no]) (fun S a => S ++ ps.flatMap (way2 a)) [] ps fun pre post a hp => ?_)) ?_) (rx_retO rfl)
  · rw [fold_flat, List.nil_append]
    have hpre : (pre.flatMap fun a => ps.flatMap (way2 a)).length ≤ 63 * 126 := by
      have h1 := flat_len (g := fun a => ps.flatMap (way2 a)) (c := 126) pre fun b _ => inn b
      have h2 : pre.length ≤ 63 := by
        have := congrArg List.length hp
        rw [List.length_append] at this
        omega
      exact Nat.le_trans h1 (Nat.mul_le_mul_right _ h2)
    generalize pre.flatMap (fun a => ps.flatMap (way2 a)) = S at hpre ⊢
    refine ⟨_, tg_name' (e' := [.dat (ptsD ps), .own (S.map ptD), .dat (ptD a), .no, .no, .no]) rfl, ?_⟩
    refine rx_post (rx_is (rx_forV rfl (fr_fold ptD (fun S : List HP.Pt => [.dat (ptsD ps), .own (S.map ptD), .dat (ptD a), .no, .no, .no]) (fun S b => S ++ way2 a b) S ps fun pre2 post2 b hp2 => ?_)) (by rw [fold_flat])) (.keep (.keep (.drop (.drop (.drop (.drop .nil))))))
    rw [fold_flat]
    have hpre2 : (pre2.flatMap (way2 a)).length ≤ 126 := by
      have h1 := flat_len (g := way2 a) (c := 2) pre2 fun b _ => way2_len a b
      have h2 : pre2.length ≤ 63 := by
        have := congrArg List.length hp2
        rw [List.length_append] at this
        omega
      omega
    generalize pre2.flatMap (way2 a) = S2 at hpre2 ⊢
    refine ⟨_, tg_name' (e' := [.dat (ptsD ps), .own ((S ++ S2).map ptD), .dat (ptD a), .dat (ptD b), .no, .no]) rfl, ?_⟩
    refine rx_if (b := decide (a ≠ b)) (xt_is (xt_test (ex_ne (ex_var rfl) (ex_var rfl) rfl rfl)) (by rw [eqv_pt]; by_cases k : a = b <;> simp [k])) (fun e => ?_) (fun e => ?_)
    · have hne := of_decide_eq_true e
      have e2 : way2 a b = [(b.1 - a.1, b.2 - a.2), (0 - (b.2 - a.2), b.1 - a.1)] := by unfold way2; rw [if_neg hne]
      rw [e2]
      refine rx_seq (e1 := [.dat (ptsD ps), .own ((S ++ S2).map ptD), .dat (ptD a), .dat (ptD b), .dat (.int (b.1 - a.1)), .no]) (rx_asg (ex_I0 (g := fun i j => i - j) (px _ 3 b rfl).1 (px _ 2 a rfl).1) rfl) ?_
      refine rx_seq (e1 := [.dat (ptsD ps), .own ((S ++ S2).map ptD), .dat (ptD a), .dat (ptD b), .dat (.int (b.1 - a.1)), .dat (.int (b.2 - a.2))]) (rx_asg (ex_I0 (g := fun i j => i - j) (px _ 3 b rfl).2 (px _ 2 a rfl).2) rfl) ?_
      have hz : ((S ++ S2).map ptD).length < 99999 := by
        rw [List.length_map, List.length_append]
        omega
      refine rx_seq (rx_app (i := 1) (d := ptD (b.1 - a.1, b.2 - a.2)) rfl (ex_is (ex_tup (ea_cons (ex_var rfl) (ea_cons (ex_var rfl) ea_nil)) (Nat.le_of_ble_eq_true rfl)) rfl) rfl (by omega) rfl) ?_
      refine rx_post (rx_app (i := 1) (d := ptD (0 - (b.2 - a.2), b.1 - a.1)) rfl (ex_is (ex_tup (ea_cons (ex_I0 (g := fun i j => i - j) ex_int (ex_var rfl)) (ea_cons (ex_var rfl) ea_nil)) (Nat.le_of_ble_eq_true rfl)) rfl) rfl (by rw [List.length_append]; simp only [List.length_cons, List.length_nil]; omega) rfl) ?_
      rw [show ((S ++ S2 ++ [(b.1 - a.1, b.2 - a.2), (0 - (b.2 - a.2), b.1 - a.1)]).map ptD) = (S ++ S2).map ptD ++ [ptD (b.1 - a.1, b.2 - a.2)] ++ [ptD (0 - (b.2 - a.2), b.1 - a.1)] by simp]
      exact .keep (.keep (.keep (.drop (.drop (.drop .nil)))))
    · have hne : a = b := by have := of_decide_eq_false e; simpa using this
      have e2 : way2 a b = [] := by unfold way2; rw [if_pos hne]
      rw [e2, List.append_nil]
      exact rx_post rx_next (.keep (.keep (.keep (.drop (.drop (.drop .nil))))))
  · rw [fold_flat, List.nil_append]
    rfl

def F_parting_line : List PyData → PyData → Prop := fun ds d => ∃ A B : List HP.Pt, ds = [ptsD A, ptsD B] ∧ A.length ≤ 12 ∧ B.length ≤ 12 ∧ (∀ q ∈ A, Near q) ∧ (∀ q ∈ B, Near q) ∧ d = optL (HP.partingLine A B)
theorem optL_none {o : Option HP.Line} : isNone (optL o) = o.isNone := by cases o <;> rfl
theorem ways_way {ps : List HP.Pt} (h : ∀ q ∈ ps, Near q) : ∀ m ∈ HP.waysOf ps, Way m := fun m hm => by
  unfold HP.waysOf at hm
  obtain ⟨a, ha, hm⟩ := List.mem_flatMap.mp hm
  obtain ⟨b, hb, hm⟩ := List.mem_flatMap.mp hm
  have na := h a ha
  have nb := h b hb
  unfold Near at na nb
  unfold Way
  split at hm
  · simp at hm
  · simp only [List.mem_cons, List.not_mem_nil, or_false] at hm
    rcases hm with e | e <;> subst e <;> simp only <;> omega
theorem srt_len : ∀ ps : List HP.Pt, (HP.srt ps).length ≤ ps.length
  | [] => Nat.le_refl _
  | p :: ps => by
    have hi : ∀ l : List HP.Pt, (HP.insP p l).length ≤ l.length + 1 := by
      intro l
      induction l with
      | nil => simp [HP.insP]
      | cons q l ih =>
        unfold HP.insP
        split
        · simp
        · split
          · simp
          · simp only [List.length_cons]; omega
    have h1 := hi (HP.srt ps)
    have h2 := srt_len ps
    simp only [HP.srt, List.length_cons]
    omega
theorem ok_parting_line {P : Program} {w : World} {K : PySem.W.Frag} {mg : Str → Option Value} {base : Heap} {ad : Ad} (T : Txt K mg ad) : FnOk P w K mg base CX0 2 ad.a_parting_line ad.d_parting_line ["ones", "others"] (spD K F_parting_line) := by
  have G_ways_of := ok_ways_of (P := P) (w := w) (base := base) T
  have G_sides := ok_sides (P := P) (w := w) (base := base) T
  refine ok_D (k := 1) T.F_parting_line sc_parting_line (by rintro _ _ ⟨_, _, rfl, _⟩; rfl) (fun cdv A outer s H E hr ds res hF => ?_)
  refine ⟨_, (pss_cons (ps_if (pt_cmpR (op_eqD hr.units) (pe_callB call_len (by rfl) T.n_len PySem.boot_len (pa_cons (pv 0) pa_nil)) pe_int (nomark _)) (pss_one (ps_ret (pe_tup (pa_cons pe_int (pa_cons pe_int (pa_cons (pe_un un_neg pe_int) pa_nil)))))) pss_nil)
      (pss_cons (ps_if (pt_cmpR (op_eqD hr.units) (pe_callB call_len (by rfl) T.n_len PySem.boot_len (pa_cons (pv 1) pa_nil)) pe_int (nomark _)) (pss_one (ps_ret (pe_tup (pa_cons pe_int (pa_cons pe_int (pa_cons pe_int pa_nil)))))) pss_nil)
      (pss_cons (ps_for PassesOwn.never rfl (pi_list (pe_call G_ways_of (hr.mono (by decide)) (by rfl) T.g_ways_of T.F_ways_of.kp T.b_ways_of .nil pass0 (pa_cons (pe_callB (cr_sortedSet rfl) (by rfl) T.n_sorted (by decide +kernel) (pa_cons (pe_callTy (cr_setOfT rfl hr.units) (by rfl) T.n_set (by decide +kernel) (pa_cons (pe_op op_cat (pv 0) (pv 1)) pa_nil)) pa_nil)) pa_nil))) (pg_tup rfl (pgs_cons (pg_name (i := 2) sc_parting_line.nd rfl (Or.inl rfl)) (pgs_cons (pg_name (i := 3) sc_parting_line.nd rfl (Or.inl rfl)) pgs_nil))) (pss_cons (ps_set (i := 4) sc_parting_line.nd rfl (Or.inl rfl) (pe_call G_sides (hr.mono (by decide)) (by rfl) T.g_sides T.F_sides.kp T.b_sides .nil pass0 (pa_cons (pv 0) (pa_cons (pv 1) (pa_cons (pv 2) (pa_cons (pv 3) pa_nil))))))
      (pss_one (ps_if (pt_cmpR op_notN (pv 4) pe_non (nomark _)) (pss_one (ps_ret (pv 4))) pss_nil))))
      (pss_one (ps_ret pe_non))))), ?_⟩
  obtain ⟨A, B, rfl, lA, lB, nA, nB, rfl⟩ := hF
  have hA : Nears A := ⟨by omega, nA⟩
  have hB : Nears B := ⟨by omega, nB⟩
  unfold HP.partingLine
  refine rx_ifS (b := decide (A = [])) (xt_is (xt_test (ex_eq (ex_len (ex_var rfl) rfl) ex_int rfl rfl)) ?_) (fun e => ?_) (fun e => rx_nextS ?_)
  · rw [eqv_int, List.length_map]
    cases A with
    | nil => rfl
    | cons a A => rw [decide_eq_false (by simp only [List.length_cons]; omega), decide_eq_false (by simp)]
  · rw [if_pos (of_decide_eq_true e)]
    exact rx_end (rx_ret (ex_is (ex_tup (ea_cons ex_int (ea_cons ex_int (ea_cons (ex_U ex_int) ea_nil))) (Nat.le_of_ble_eq_true rfl)) rfl)) rfl
  have neA := of_decide_eq_false e
  rw [if_neg neA]
  refine rx_ifS (b := decide (B = [])) (xt_is (xt_test (ex_eq (ex_len (ex_var rfl) rfl) ex_int rfl rfl)) ?_) (fun e => ?_) (fun e => rx_nextS ?_)
  · rw [eqv_int, List.length_map]
    cases B with
    | nil => rfl
    | cons a A => rw [decide_eq_false (by simp only [List.length_cons]; omega), decide_eq_false (by simp)]
  · rw [if_pos (of_decide_eq_true e)]
    exact rx_end (rx_ret (ex_is (ex_tup (ea_cons ex_int (ea_cons ex_int (ea_cons ex_int ea_nil))) (Nat.le_of_ble_eq_true rfl)) rfl)) rfl
  have neB := of_decide_eq_false e
  rw [if_neg neB]
  have nAB : ∀ q ∈ A ++ B, Near q := fun q hq => (List.mem_append.mp hq).elim (nA q) (nB q)
  have lAB : (A ++ B).length ≤ 24 := by rw [List.length_append]; omega
  have nS : Nears (HP.srt (A ++ B)) := ⟨by have := srt_len (A ++ B); omega, fun q hq => nAB q (HP.mem_srt.mp hq)⟩
  have hW := ways_way nS.2
  refine rx_find (f := fun m : HP.Pt => (HP.sidesL A B m).map wD) (items := HP.waysOf (HP.srt (A ++ B))) (e := [.dat (ptsD A), .dat (ptsD B), .no, .no, .no]) (rx_forF (ds := (HP.waysOf (HP.srt (A ++ B))).map ptD) (xf_call (ea_cons (ex_new (xf_sortedSet (ps := A ++ B) (rs := HP.srt (A ++ B)) (ex_is (ex_new (xf_cat (ex_var rfl) (ex_var rfl) ?_)) ?_) (by omega) fun m h1 h2 h3 => srt_of h1 h2 h3)) ea_nil) ⟨_, rfl, nS, rfl⟩) (lfree_pts _) (fr_findM ptD _ [.dat (ptsD A), .dat (ptsD B), .no, .no, .no] _ fun m hm => ?_)) (fun d hd => ?_) (fun hd => ?_)
  · rw [List.length_map, List.length_map]; omega
  · unfold ptsD; rw [List.map_append]
  · refine ⟨[.dat (ptsD A), .dat (ptsD B), .dat (.int m.1), .dat (.int m.2), .no], tg_tup (tgs_name (tgs_name tgs_nil)) rfl, ?_⟩
    refine rx_seq (e1 := [.dat (ptsD A), .dat (ptsD B), .dat (.int m.1), .dat (.int m.2), .dat (optL (HP.sidesL A B m))]) (rx_asg (ex_call (ea_cons (ex_var rfl) (ea_cons (ex_var rfl) (ea_cons (ex_var rfl) (ea_cons (ex_var rfl) ea_nil)))) ⟨A, B, m, rfl, hA, hB, neA, neB, hW m hm, rfl⟩) rfl) ?_
    cases ho : HP.sidesL A B m with
    | none => exact rx_if (b := false) (xt_test (ex_notN (d := .none) (ex_var rfl))) (fun e => by cases e) (fun _ => rx_post rx_next (.keep (.keep (.drop (.drop (.drop .nil))))))
    | some L => exact rx_if (b := true) (xt_test (ex_notN (d := wD L) (ex_var rfl))) (fun _ => rx_ret (ex_var rfl)) (fun e => by cases e)
  · rw [find_map] at hd
    cases ho : (HP.waysOf (HP.srt (A ++ B))).findSome? (HP.sidesL A B) with
    | none =>
      rw [show (HP.waysOf (HP.srt (A ++ B))).findSome? (fun a => HP.sidesL A B a) = none from ho] at hd
      cases hd
    | some L =>
      rw [show (HP.waysOf (HP.srt (A ++ B))).findSome? (fun a => HP.sidesL A B a) = some L from ho] at hd
      cases hd
      rfl
  · rw [find_map] at hd
    cases ho : (HP.waysOf (HP.srt (A ++ B))).findSome? (HP.sidesL A B) with
    | none => exact rx_ret ex_non
    | some L =>
      rw [show (HP.waysOf (HP.srt (A ++ B))).findSome? (fun a => HP.sidesL A B a) = some L from ho] at hd
      cases hd

def meetP (m : HP.Meet) : List Part := [.inl (.str "spot"), .inl (wD m.1), .inr (m.2.1.map wD), .inr (m.2.2.map wD)]
def F_crossed (K : PySem.W.Frag) : List PyData → (Hp → V → Hp → Prop) → Prop := fun ds R => ∃ (A B : List HP.Pt) (a b c d : Nat), ds = [ptsD A, ptsD B, .int (0 + (a : Int)), .int (0 + (b : Int)), .int (0 + (c : Int)), .int (0 + (d : Int))] ∧ Nears A ∧ Nears B ∧ a < A.length ∧ b < A.length ∧ c < B.length ∧ d < B.length ∧ R = RO K ((HP.crossed A B a b c d).map meetP)
theorem weightW_z (n : Nat) (x y : Int) : HP.weightW (0 + (n : Int)) x y = HP.weightW (n : Nat) x y := by rw [Int.zero_add]
theorem ok_crossed {P : Program} {w : World} {K : PySem.W.Frag} {mg : Str → Option Value} {base : Heap} {ad : Ad} (T : Txt K mg ad) : FnOk P w K mg base CX0 3 ad.a_crossed ad.d_crossed ["ones", "others", "a", "b", "c", "d"] (spR K (F_crossed K)) := by
  have G_turn := ok_turn (P := P) (w := w) (base := base) T
  have G_weight := ok_weight (P := P) (w := w) (base := base) T
  have G_spot_of := ok_spot_of (P := P) (w := w) (base := base) T
  refine ok_R (k := 2) T.F_crossed sc_crossed (by rintro _ _ ⟨_, _, _, _, _, _, rfl, _⟩; rfl) (fun cdv A outer s H E hr ds res hF => ?_)
  refine ⟨_, (pss_cons (ps_set (i := 6) sc_crossed.nd rfl (Or.inl rfl) (pe_call G_turn (hr.mono (by decide)) (by rfl) T.g_turn T.F_turn.kp T.b_turn .nil pass0 (pa_cons (pe_ix ix_seq (pv 1) (pv 4) (fun _ _ => rfl)) (pa_cons (pe_ix ix_seq (pv 1) (pv 5) (fun _ _ => rfl)) (pa_cons (pe_ix ix_seq (pv 0) (pv 2) (fun _ _ => rfl)) pa_nil)))))
      (pss_cons (ps_set (i := 7) sc_crossed.nd rfl (Or.inl rfl) (pe_call G_turn (hr.mono (by decide)) (by rfl) T.g_turn T.F_turn.kp T.b_turn .nil pass0 (pa_cons (pe_ix ix_seq (pv 1) (pv 4) (fun _ _ => rfl)) (pa_cons (pe_ix ix_seq (pv 1) (pv 5) (fun _ _ => rfl)) (pa_cons (pe_ix ix_seq (pv 0) (pv 3) (fun _ _ => rfl)) pa_nil)))))
      (pss_cons (ps_set (i := 8) sc_crossed.nd rfl (Or.inl rfl) (pe_call G_turn (hr.mono (by decide)) (by rfl) T.g_turn T.F_turn.kp T.b_turn .nil pass0 (pa_cons (pe_ix ix_seq (pv 0) (pv 2) (fun _ _ => rfl)) (pa_cons (pe_ix ix_seq (pv 0) (pv 3) (fun _ _ => rfl)) (pa_cons (pe_ix ix_seq (pv 1) (pv 4) (fun _ _ => rfl)) pa_nil)))))
      (pss_cons (ps_set (i := 9) sc_crossed.nd rfl (Or.inl rfl) (pe_call G_turn (hr.mono (by decide)) (by rfl) T.g_turn T.F_turn.kp T.b_turn .nil pass0 (pa_cons (pe_ix ix_seq (pv 0) (pv 2) (fun _ _ => rfl)) (pa_cons (pe_ix ix_seq (pv 0) (pv 3) (fun _ _ => rfl)) (pa_cons (pe_ix ix_seq (pv 1) (pv 5) (fun _ _ => rfl)) pa_nil)))))
      (pss_cons (ps_if (PW.pt (pw_or (pt_cmpR op_ge (pe_op op_mul (pv 6) (pv 7)) pe_int (nomark _)) (pw_or1 (pt_cmpR op_ge (pe_op op_mul (pv 8) (pv 9)) pe_int (nomark _))))) (pss_one (ps_ret pe_non)) pss_nil)
      (pss_cons (ps_set (i := 10) sc_crossed.nd rfl (Or.inl rfl) (pe_op op_sub (pv 6) (pv 7)))
      (pss_cons (ps_set (i := 11) sc_crossed.nd rfl (Or.inl rfl) (pe_op op_sub (pe_op op_mul (pv 6) (pe_ix ix_seq (pe_ix ix_seq (pv 0) (pv 3) (fun _ _ => rfl)) pe_int (fun _ _ => rfl))) (pe_op op_mul (pv 7) (pe_ix ix_seq (pe_ix ix_seq (pv 0) (pv 2) (fun _ _ => rfl)) pe_int (fun _ _ => rfl)))))
      (pss_cons (ps_set (i := 12) sc_crossed.nd rfl (Or.inl rfl) (pe_op op_sub (pe_op op_mul (pv 6) (pe_ix ix_seq (pe_ix ix_seq (pv 0) (pv 3) (fun _ _ => rfl)) pe_int (fun _ _ => rfl))) (pe_op op_mul (pv 7) (pe_ix ix_seq (pe_ix ix_seq (pv 0) (pv 2) (fun _ _ => rfl)) pe_int (fun _ _ => rfl)))))
      (pss_cons (ps_set (i := 13) sc_crossed.nd rfl (Or.inl rfl) (pe_lst (pa_cons (pe_call G_weight (hr.mono (by decide)) (by rfl) T.g_weight T.F_weight.kp T.b_weight .nil pass0 (pa_cons (pv 2) (pa_cons (pe_op op_sub pe_int (pv 7)) (pa_cons (pv 10) pa_nil)))) (pa_cons (pe_call G_weight (hr.mono (by decide)) (by rfl) T.g_weight T.F_weight.kp T.b_weight .nil pass0 (pa_cons (pv 3) (pa_cons (pv 6) (pa_cons (pv 10) pa_nil)))) pa_nil))))
      (pss_cons (ps_set (i := 14) sc_crossed.nd rfl (Or.inl rfl) (pe_lst (pa_cons (pe_call G_weight (hr.mono (by decide)) (by rfl) T.g_weight T.F_weight.kp T.b_weight .nil pass0 (pa_cons (pv 4) (pa_cons (pe_op op_sub pe_int (pv 9)) (pa_cons (pe_op op_sub (pv 8) (pv 9)) pa_nil)))) (pa_cons (pe_call G_weight (hr.mono (by decide)) (by rfl) T.g_weight T.F_weight.kp T.b_weight .nil pass0 (pa_cons (pv 5) (pa_cons (pv 8) (pa_cons (pe_op op_sub (pv 8) (pv 9)) pa_nil)))) pa_nil))))
      (pss_one (ps_ret (pe_tup (pa_cons pe_str (pa_cons (pe_call G_spot_of (hr.mono (by decide)) (by rfl) T.g_spot_of T.F_spot_of.kp T.b_spot_of .nil pass0 (pa_cons (pv 11) (pa_cons (pv 12) (pa_cons (pv 10) pa_nil)))) (pa_cons (pv 13) (pa_cons (pv 14) pa_nil))))))))))))))))), ?_⟩
  obtain ⟨A, B, a, b, c, d, rfl, hA, hB, ha, hb, hc, hd, rfl⟩ := hF
  have na := hA.2 _ (HP.atN_mem ha)
  have nb := hA.2 _ (HP.atN_mem hb)
  have nc := hB.2 _ (HP.atN_mem hc)
  have nd := hB.2 _ (HP.atN_mem hd)
  have ixA : ∀ (e : SE) (i k : Nat), e[0]? = some (.dat (ptsD A)) → e[i]? = some (.dat (.int (0 + (k : Int)))) → k < A.length → EvX K (tOp (rIx K) (tVar 0) (tVar i)) e (ptD (HP.atN A k)) := fun e i k h0 hi hk => ex_is (ex_ixL (ex_var h0) (ex_var hi) (atI_pts (by omega) (by omega))) (by rw [show (0 + (k : Int)).toNat = k by omega])
  have ixB : ∀ (e : SE) (i k : Nat), e[1]? = some (.dat (ptsD B)) → e[i]? = some (.dat (.int (0 + (k : Int)))) → k < B.length → EvX K (tOp (rIx K) (tVar 1) (tVar i)) e (ptD (HP.atN B k)) := fun e i k h0 hi hk => ex_is (ex_ixL (ex_var h0) (ex_var hi) (atI_pts (by omega) (by omega))) (by rw [show (0 + (k : Int)).toNat = k by omega])
  unfold HP.crossed
  have bp := turn_bound nc nd na
  have bq := turn_bound nc nd nb
  have br := turn_bound na nb nc
  have bs := turn_bound na nb nd
  generalize hp : HP.turn (HP.atN B c) (HP.atN B d) (HP.atN A a) = p at *
  generalize hq : HP.turn (HP.atN B c) (HP.atN B d) (HP.atN A b) = q at *
  generalize hr' : HP.turn (HP.atN A a) (HP.atN A b) (HP.atN B c) = r at *
  generalize hs : HP.turn (HP.atN A a) (HP.atN A b) (HP.atN B d) = s' at *
  refine rx_seq (e1 := [.dat (ptsD A), .dat (ptsD B), .dat (.int (0 + (a : Int))), .dat (.int (0 + (b : Int))), .dat (.int (0 + (c : Int))), .dat (.int (0 + (d : Int))), .dat (.int p), .no, .no, .no, .no, .no, .no, .no, .no]) (rx_asg (ex_call (ea_cons (ixB _ 4 c rfl rfl hc) (ea_cons (ixB _ 5 d rfl rfl hd) (ea_cons (ixA _ 2 a rfl rfl ha) ea_nil))) ⟨_, _, _, rfl, nc.small, nd.small, na.small, by rw [hp]⟩) rfl) ?_
  refine rx_seq (e1 := [.dat (ptsD A), .dat (ptsD B), .dat (.int (0 + (a : Int))), .dat (.int (0 + (b : Int))), .dat (.int (0 + (c : Int))), .dat (.int (0 + (d : Int))), .dat (.int p), .dat (.int q), .no, .no, .no, .no, .no, .no, .no]) (rx_asg (ex_call (ea_cons (ixB _ 4 c rfl rfl hc) (ea_cons (ixB _ 5 d rfl rfl hd) (ea_cons (ixA _ 3 b rfl rfl hb) ea_nil))) ⟨_, _, _, rfl, nc.small, nd.small, nb.small, by rw [hq]⟩) rfl) ?_
  refine rx_seq (e1 := [.dat (ptsD A), .dat (ptsD B), .dat (.int (0 + (a : Int))), .dat (.int (0 + (b : Int))), .dat (.int (0 + (c : Int))), .dat (.int (0 + (d : Int))), .dat (.int p), .dat (.int q), .dat (.int r), .no, .no, .no, .no, .no, .no]) (rx_asg (ex_call (ea_cons (ixA _ 2 a rfl rfl ha) (ea_cons (ixA _ 3 b rfl rfl hb) (ea_cons (ixB _ 4 c rfl rfl hc) ea_nil))) ⟨_, _, _, rfl, na.small, nb.small, nc.small, by rw [hr']⟩) rfl) ?_
  refine rx_seq (e1 := [.dat (ptsD A), .dat (ptsD B), .dat (.int (0 + (a : Int))), .dat (.int (0 + (b : Int))), .dat (.int (0 + (c : Int))), .dat (.int (0 + (d : Int))), .dat (.int p), .dat (.int q), .dat (.int r), .dat (.int s'), .no, .no, .no, .no, .no]) (rx_asg (ex_call (ea_cons (ixA _ 2 a rfl rfl ha) (ea_cons (ixA _ 3 b rfl rfl hb) (ea_cons (ixB _ 5 d rfl rfl hd) ea_nil))) ⟨_, _, _, rfl, na.small, nb.small, nd.small, by rw [hs]⟩) rfl) ?_
  refine rx_ifS (b := decide (p * q ≥ 0 ∨ r * s' ≥ 0)) (xt_is (xt_or (a := decide (p * q ≥ 0)) (b := decide (r * s' ≥ 0)) (xt_test (ex_B0 (g := fun i j => decide (j ≤ i)) (ex_I (g := fun i j => i * j) (ex_var rfl) (ex_var rfl) (by left; omega)) ex_int)) fun _ => xt_test (ex_B0 (g := fun i j => decide (j ≤ i)) (ex_I (g := fun i j => i * j) (ex_var rfl) (ex_var rfl) (by left; omega)) ex_int)) (by rw [Bool.decide_or])) (fun e => ?_) (fun e => rx_nextS ?_)
  · rw [if_pos (of_decide_eq_true e)]
    refine rx_end (rx_is (rx_rt (rx_ret ex_non)) ?_) rfl
    show Out.rq _ = Out.rq _
    congr 1
    funext Hm v H
    exact propext ⟨fun h => h.non_inv, fun h => by rw [show v = V.non from h]; exact .non⟩
  have hn := of_decide_eq_false e
  rw [if_neg hn]
  have hpq : p * q < 0 := by omega
  have hrs : r * s' < 0 := by omega
  obtain ⟨s1, s2⟩ := HP.signs hpq
  obtain ⟨s3, s4⟩ := HP.signs hrs
  generalize hua : HP.atN A a = ua at na ixA
  generalize hub : HP.atN A b = ub at nb ixA
  have na' := na
  have nb' := nb
  unfold Near at na' nb'
  have pax : ∀ e : SE, e[0]? = some (.dat (ptsD A)) → e[2]? = some (.dat (.int (0 + (a : Int)))) → EvX K (tOp (rIx K) (tOp (rIx K) (tVar 0) (tVar 2)) (tC (.int 0))) e (.int ua.1) ∧ EvX K (tOp (rIx K) (tOp (rIx K) (tVar 0) (tVar 2)) (tC (.int 1))) e (.int ua.2) := fun e h0 h2 => by
    have := ixA e 2 a h0 h2 ha
    rw [hua] at this
    exact ⟨ex_ixT (ds := [.int ua.1, .int ua.2]) this ex_int rfl, ex_ixT (ds := [.int ua.1, .int ua.2]) this ex_int rfl⟩
  have pbx : ∀ e : SE, e[0]? = some (.dat (ptsD A)) → e[3]? = some (.dat (.int (0 + (b : Int)))) → EvX K (tOp (rIx K) (tOp (rIx K) (tVar 0) (tVar 3)) (tC (.int 0))) e (.int ub.1) ∧ EvX K (tOp (rIx K) (tOp (rIx K) (tVar 0) (tVar 3)) (tC (.int 1))) e (.int ub.2) := fun e h0 h2 => by
    have := ixA e 3 b h0 h2 hb
    rw [hub] at this
    exact ⟨ex_ixT (ds := [.int ub.1, .int ub.2]) this ex_int rfl, ex_ixT (ds := [.int ub.1, .int ub.2]) this ex_int rfl⟩
  refine rx_seq (e1 := [.dat (ptsD A), .dat (ptsD B), .dat (.int (0 + (a : Int))), .dat (.int (0 + (b : Int))), .dat (.int (0 + (c : Int))), .dat (.int (0 + (d : Int))), .dat (.int p), .dat (.int q), .dat (.int r), .dat (.int s'), .dat (.int (p - q)), .no, .no, .no, .no]) (rx_asg (ex_I0 (g := fun i j => i - j) (ex_var rfl) (ex_var rfl)) rfl) ?_
  refine rx_seq (e1 := [.dat (ptsD A), .dat (ptsD B), .dat (.int (0 + (a : Int))), .dat (.int (0 + (b : Int))), .dat (.int (0 + (c : Int))), .dat (.int (0 + (d : Int))), .dat (.int p), .dat (.int q), .dat (.int r), .dat (.int s'), .dat (.int (p - q)), .dat (.int (p * ub.1 - q * ua.1)), .no, .no, .no]) (rx_asg (ex_I0 (g := fun i j => i - j) (ex_I (g := fun i j => i * j) (ex_var rfl) (pbx _ rfl rfl).1 (by left; omega)) (ex_I (g := fun i j => i * j) (ex_var rfl) (pax _ rfl rfl).1 (by left; omega))) rfl) ?_
  refine rx_seq (e1 := [.dat (ptsD A), .dat (ptsD B), .dat (.int (0 + (a : Int))), .dat (.int (0 + (b : Int))), .dat (.int (0 + (c : Int))), .dat (.int (0 + (d : Int))), .dat (.int p), .dat (.int q), .dat (.int r), .dat (.int s'), .dat (.int (p - q)), .dat (.int (p * ub.1 - q * ua.1)), .dat (.int (p * ub.2 - q * ua.2)), .no, .no]) (rx_asg (ex_I0 (g := fun i j => i - j) (ex_I (g := fun i j => i * j) (ex_var rfl) (pbx _ rfl rfl).2 (by left; omega)) (ex_I (g := fun i j => i * j) (ex_var rfl) (pax _ rfl rfl).2 (by left; omega))) rfl) ?_
  refine rx_seq (e1 := [.dat (ptsD A), .dat (ptsD B), .dat (.int (0 + (a : Int))), .dat (.int (0 + (b : Int))), .dat (.int (0 + (c : Int))), .dat (.int (0 + (d : Int))), .dat (.int p), .dat (.int q), .dat (.int r), .dat (.int s'), .dat (.int (p - q)), .dat (.int (p * ub.1 - q * ua.1)), .dat (.int (p * ub.2 - q * ua.2)), .own ([HP.weightW a (0 - q) (p - q), HP.weightW b p (p - q)].map wD), .no]) (rx_asgF (xf_lst (ea_cons (ex_call (ea_cons (ex_var rfl) (ea_cons (ex_I0 (g := fun i j => i - j) ex_int (ex_var rfl)) (ea_cons (ex_var rfl) ea_nil))) ⟨0 + (a : Int), 0 - q, p - q, rfl, by omega, by omega, by rw [weightW_z]⟩) (ea_cons (ex_call (ea_cons (ex_var rfl) (ea_cons (ex_var rfl) (ea_cons (ex_var rfl) ea_nil))) ⟨0 + (b : Int), p, p - q, rfl, by omega, by omega, by rw [weightW_z]⟩) ea_nil)) (Nat.le_of_ble_eq_true rfl)) rfl) ?_
  exact rx_two (i := 13) (j := 14) rfl (lfree_w3s _) (by decide) (by simp) (xf_lst (ds := [HP.weightW c (0 - s') (r - s'), HP.weightW d r (r - s')].map wD) (ea_cons (ex_call (ea_cons (ex_var rfl) (ea_cons (ex_I0 (g := fun i j => i - j) ex_int (ex_var rfl)) (ea_cons (ex_I0 (g := fun i j => i - j) (ex_var rfl) (ex_var rfl)) ea_nil))) ⟨0 + (c : Int), 0 - s', r - s', rfl, by omega, by omega, by rw [weightW_z]⟩) (ea_cons (ex_call (ea_cons (ex_var rfl) (ea_cons (ex_var rfl) (ea_cons (ex_I0 (g := fun i j => i - j) (ex_var rfl) (ex_var rfl)) ea_nil))) ⟨0 + (d : Int), r, r - s', rfl, by omega, by omega, by rw [weightW_z]⟩) ea_nil)) (Nat.le_of_ble_eq_true rfl)) (lfree_w3s _) (ex_call (ea_cons (ex_var rfl) (ea_cons (ex_var rfl) (ea_cons (ex_var rfl) ea_nil))) ⟨_, _, p - q, rfl, by omega, by omega, rfl⟩) rfl

def F_crossing (K : PySem.W.Frag) : List PyData → (Hp → V → Hp → Prop) → Prop := fun ds R => ∃ A B : List HP.Pt, ds = [ptsD A, ptsD B] ∧ Nears A ∧ Nears B ∧ R = RO K ((HP.crossing A B).map meetP)
theorem find_map' {α β γ : Type} (f : α → Option β) (g : β → γ) (l : List α) : (l.findSome? f).map g = l.findSome? fun a => (f a).map g := (find_map f g l).symm
theorem wk_st {K : PySem.W.Frag} {e e' : SE} (k : Wk e e') : ∀ Hb H σ, StD K Hb H σ e → StD K Hb H σ e' := fun _ _ _ s => s.weak k
theorem ok_crossing {P : Program} {w : World} {K : PySem.W.Frag} {mg : Str → Option Value} {base : Heap} {ad : Ad} (T : Txt K mg ad) : FnOk P w K mg base CX0 4 ad.a_crossing ad.d_crossing ["ones", "others"] (spR K (F_crossing K)) := by
  have G_crossed := ok_crossed (P := P) (w := w) (base := base) T
  refine ok_R (k := 3) T.F_crossing sc_crossing (by rintro _ _ ⟨_, _, rfl, _⟩; rfl) (fun cdv A outer s H E hr ds res hF => ?_)
  refine ⟨_, (pss_cons (ps_for PassesOwn.never rfl (pi_range1 (by rfl) T.n_range (pa_cons (pe_callB call_len (by rfl) T.n_len PySem.boot_len (pa_cons (pv 0) pa_nil)) pa_nil)) (pg_name (i := 2) sc_crossing.nd rfl (Or.inl rfl)) (pss_one (ps_for PassesOwn.never rfl (pi_range1 (by rfl) T.n_range (pa_cons (pv 2) pa_nil)) (pg_name (i := 3) sc_crossing.nd rfl (Or.inl rfl)) (pss_one (ps_for PassesOwn.never rfl (pi_range1 (by rfl) T.n_range (pa_cons (pe_callB call_len (by rfl) T.n_len PySem.boot_len (pa_cons (pv 1) pa_nil)) pa_nil)) (pg_name (i := 4) sc_crossing.nd rfl (Or.inl rfl)) (pss_one (ps_for PassesOwn.never rfl (pi_range1 (by rfl) T.n_range (pa_cons (pv 4) pa_nil)) (pg_name (i := 5) sc_crossing.nd rfl (Or.inl rfl)) (pss_cons (ps_set (i := 6) sc_crossing.nd rfl (Or.inl rfl) (pe_call G_crossed (hr.mono (by decide)) (by rfl) T.g_crossed T.F_crossed.kp T.b_crossed .nil pass0 (pa_cons (pv 0) (pa_cons (pv 1) (pa_cons (pv 3) (pa_cons (pv 2) (pa_cons (pv 5) (pa_cons (pv 4) pa_nil))))))))
      (pss_one (ps_if (pt_cmpR op_notN (pv 6) pe_non (nomark _)) (pss_one (ps_ret (pv 6))) pss_nil))))))))))
      (pss_one (ps_ret pe_non))), ?_⟩
  obtain ⟨A, B, rfl, hA, hB, rfl⟩ := hF
  have lA := hA.1
  have lB := hB.1
  have e4 : ∀ a b c : Nat, ((List.range c).findSome? fun d => HP.crossed A B b a d c).map meetP = (List.range ((0 + (c : Int))).toNat).findSome? fun d => (HP.crossed A B b a d c).map meetP := fun a b c => by rw [find_map', show ((0 + (c : Int))).toNat = c by omega]
  have e3 : ∀ a b : Nat, ((List.range B.length).findSome? fun c => (List.range c).findSome? fun d => HP.crossed A B b a d c).map meetP = (List.range (((B.map ptD).length : Nat) : Int).toNat).findSome? fun c => ((List.range c).findSome? fun d => HP.crossed A B b a d c).map meetP := fun a b => by rw [find_map', List.length_map, show ((B.length : Nat) : Int).toNat = B.length by omega]
  have e2 : ∀ a : Nat, ((List.range a).findSome? fun b => (List.range B.length).findSome? fun c => (List.range c).findSome? fun d => HP.crossed A B b a d c).map meetP = (List.range ((0 + (a : Int))).toNat).findSome? fun b => ((List.range B.length).findSome? fun c => (List.range c).findSome? fun d => HP.crossed A B b a d c).map meetP := fun a => by rw [find_map', show ((0 + (a : Int))).toNat = a by omega]
  have e1 : (HP.crossing A B).map meetP = (List.range (((A.map ptD).length : Nat) : Int).toNat).findSome? fun a => ((List.range a).findSome? fun b => (List.range B.length).findSome? fun c => (List.range c).findSome? fun d => HP.crossed A B b a d c).map meetP := by
    unfold HP.crossing
    rw [find_map', List.length_map, show ((A.length : Nat) : Int).toNat = A.length by omega]
  rw [e1]
  refine rx_findR (e := [.dat (ptsD A), .dat (ptsD B), .no, .no, .no, .no, .no]) (rx_forR1 (n := (((A.map ptD).length : Nat) : Int)) (ea_cons (ex_len (ex_var rfl) rfl) ea_nil) (by rw [List.length_map]; omega) (fr_findR (fun i : Nat => PyData.int (0 + (i : Int))) _ [.dat (ptsD A), .dat (ptsD B), .no, .no, .no, .no, .no] _ fun a ha => ?_)) (fun ps h => by rw [h]; rfl) (fun h => ?_)
  · have ha' : a < A.length := by have := List.mem_range.mp ha; rw [List.length_map] at this; omega
    refine ⟨_, tg_name' (e' := [.dat (ptsD A), .dat (ptsD B), .dat (.int (0 + (a : Int))), .no, .no, .no, .no]) rfl, ?_⟩
    rw [e2 a]
    refine rx_postR (e := [.dat (ptsD A), .dat (ptsD B), .dat (.int (0 + (a : Int))), .no, .no, .no, .no]) (rx_forR1 (n := 0 + (a : Int)) (ea_cons (ex_var rfl) ea_nil) (by omega) (fr_findR (fun i : Nat => PyData.int (0 + (i : Int))) _ [.dat (ptsD A), .dat (ptsD B), .dat (.int (0 + (a : Int))), .no, .no, .no, .no] _ fun b hb => ?_)) (wk_st (.keep (.keep (.drop (.drop (.drop (.drop (.drop .nil))))))))
    have hb' : b < a := by have := List.mem_range.mp hb; omega
    refine ⟨_, tg_name' (e' := [.dat (ptsD A), .dat (ptsD B), .dat (.int (0 + (a : Int))), .dat (.int (0 + (b : Int))), .no, .no, .no]) rfl, ?_⟩
    rw [e3 a b]
    refine rx_postR (e := [.dat (ptsD A), .dat (ptsD B), .dat (.int (0 + (a : Int))), .dat (.int (0 + (b : Int))), .no, .no, .no]) (rx_forR1 (n := (((B.map ptD).length : Nat) : Int)) (ea_cons (ex_len (ex_var rfl) rfl) ea_nil) (by rw [List.length_map]; omega) (fr_findR (fun i : Nat => PyData.int (0 + (i : Int))) _ [.dat (ptsD A), .dat (ptsD B), .dat (.int (0 + (a : Int))), .dat (.int (0 + (b : Int))), .no, .no, .no] _ fun c hc => ?_)) (wk_st (.keep (.keep (.keep (.drop (.drop (.drop (.drop .nil))))))))
    have hc' : c < B.length := by have := List.mem_range.mp hc; rw [List.length_map] at this; omega
    refine ⟨_, tg_name' (e' := [.dat (ptsD A), .dat (ptsD B), .dat (.int (0 + (a : Int))), .dat (.int (0 + (b : Int))), .dat (.int (0 + (c : Int))), .no, .no]) rfl, ?_⟩
    rw [e4 a b c]
    refine rx_postR (e := [.dat (ptsD A), .dat (ptsD B), .dat (.int (0 + (a : Int))), .dat (.int (0 + (b : Int))), .dat (.int (0 + (c : Int))), .no, .no]) (rx_forR1 (n := 0 + (c : Int)) (ea_cons (ex_var rfl) ea_nil) (by omega) (fr_findR (fun i : Nat => PyData.int (0 + (i : Int))) _ [.dat (ptsD A), .dat (ptsD B), .dat (.int (0 + (a : Int))), .dat (.int (0 + (b : Int))), .dat (.int (0 + (c : Int))), .no, .no] _ fun d hd => ?_)) (wk_st (.keep (.keep (.keep (.keep (.drop (.drop (.drop .nil))))))))
    have hd' : d < c := by have := List.mem_range.mp hd; omega
    refine ⟨_, tg_name' (e' := [.dat (ptsD A), .dat (ptsD B), .dat (.int (0 + (a : Int))), .dat (.int (0 + (b : Int))), .dat (.int (0 + (c : Int))), .dat (.int (0 + (d : Int))), .no]) rfl, ?_⟩
    refine rx_postR (rx_foundR (i := 6) (er_call (ea_cons (ex_var rfl) (ea_cons (ex_var rfl) (ea_cons (ex_var rfl) (ea_cons (ex_var rfl) (ea_cons (ex_var rfl) (ea_cons (ex_var rfl) ea_nil)))))) ⟨A, B, b, a, d, c, rfl, hA, hB, by omega, ha', by omega, hc', rfl⟩) (by simp)) (wk_st (.keep (.keep (.keep (.keep (.keep (.drop (.drop .nil))))))))
  · rw [h]
    refine rx_is (rx_rt (rx_ret ex_non)) ?_
    show Out.rq _ = Out.rq _
    congr 1
    funext Hm v H
    exact propext ⟨fun h => h.non_inv, fun h => by rw [show v = V.non from h]; exact .non⟩

def F_meeting (K : PySem.W.Frag) : List PyData → (Hp → V → Hp → Prop) → Prop := fun ds R => ∃ A B : List HP.Pt, ds = [ptsD A, ptsD B] ∧ Nears A ∧ Nears B ∧ R = RO K ((HP.meeting A B).map meetP)
theorem ok_meeting {P : Program} {w : World} {K : PySem.W.Frag} {mg : Str → Option Value} {base : Heap} {ad : Ad} (T : Txt K mg ad) : FnOk P w K mg base CX0 6 ad.a_meeting ad.d_meeting ["ones", "others"] (spR K (F_meeting K)) := by
  have G_within := ok_within (P := P) (w := w) (base := base) T
  have G_crossing := ok_crossing (P := P) (w := w) (base := base) T
  refine ok_R (k := 5) T.F_meeting sc_meeting (by rintro _ _ ⟨_, _, rfl, _⟩; rfl) (fun cdv A outer s H E hr ds res hF => ?_)
  refine ⟨_, (pss_cons (ps_for PassesOwn.never rfl (pi_range1 (by rfl) T.n_range (pa_cons (pe_callB call_len (by rfl) T.n_len PySem.boot_len (pa_cons (pv 0) pa_nil)) pa_nil)) (pg_name (i := 2) sc_meeting.nd rfl (Or.inl rfl)) (pss_cons (ps_set (i := 3) sc_meeting.nd rfl (Or.inl rfl) (pe_call G_within (hr.mono (by decide)) (by rfl) T.g_within T.F_within.kp T.b_within .nil pass0 (pa_cons (pv 1) (pa_cons (pe_ix ix_seq (pv 0) (pv 2) (fun _ _ => rfl)) pa_nil))))
      (pss_one (ps_if (pt_cmpR op_notN (pv 3) pe_non (nomark _)) (pss_one (ps_ret (pe_tup (pa_cons pe_str (pa_cons (pe_tup (pa_cons (pe_ix ix_seq (pe_ix ix_seq (pv 0) (pv 2) (fun _ _ => rfl)) pe_int (fun _ _ => rfl)) (pa_cons (pe_ix ix_seq (pe_ix ix_seq (pv 0) (pv 2) (fun _ _ => rfl)) pe_int (fun _ _ => rfl)) (pa_cons pe_int pa_nil)))) (pa_cons (pe_lst (pa_cons (pe_tup (pa_cons (pv 2) (pa_cons pe_int (pa_cons pe_int pa_nil)))) pa_nil)) (pa_cons (pv 3) pa_nil))))))) pss_nil))))
      (pss_cons (ps_for PassesOwn.never rfl (pi_range1 (by rfl) T.n_range (pa_cons (pe_callB call_len (by rfl) T.n_len PySem.boot_len (pa_cons (pv 1) pa_nil)) pa_nil)) (pg_name (i := 2) sc_meeting.nd rfl (Or.inl rfl)) (pss_cons (ps_set (i := 3) sc_meeting.nd rfl (Or.inl rfl) (pe_call G_within (hr.mono (by decide)) (by rfl) T.g_within T.F_within.kp T.b_within .nil pass0 (pa_cons (pv 0) (pa_cons (pe_ix ix_seq (pv 1) (pv 2) (fun _ _ => rfl)) pa_nil))))
      (pss_one (ps_if (pt_cmpR op_notN (pv 3) pe_non (nomark _)) (pss_one (ps_ret (pe_tup (pa_cons pe_str (pa_cons (pe_tup (pa_cons (pe_ix ix_seq (pe_ix ix_seq (pv 1) (pv 2) (fun _ _ => rfl)) pe_int (fun _ _ => rfl)) (pa_cons (pe_ix ix_seq (pe_ix ix_seq (pv 1) (pv 2) (fun _ _ => rfl)) pe_int (fun _ _ => rfl)) (pa_cons pe_int pa_nil)))) (pa_cons (pv 3) (pa_cons (pe_lst (pa_cons (pe_tup (pa_cons (pv 2) (pa_cons pe_int (pa_cons pe_int pa_nil)))) pa_nil)) pa_nil))))))) pss_nil))))
      (pss_one (ps_ret (pe_call G_crossing (hr.mono (by decide)) (by rfl) T.g_crossing T.F_crossing.kp T.b_crossing .nil pass0 (pa_cons (pv 0) (pa_cons (pv 1) pa_nil))))))), ?_⟩
  obtain ⟨A, B, rfl, hA, hB, rfl⟩ := hF
  have lA := hA.1
  have lB := hB.1
  have ix : ∀ (e : SE) (P : List HP.Pt) (i j k : Nat), e[i]? = some (.dat (ptsD P)) → e[j]? = some (.dat (.int (0 + (k : Int)))) → k < P.length → EvX K (tOp (rIx K) (tVar i) (tVar j)) e (ptD (HP.atN P k)) := fun e P i j k h0 hi hk => ex_is (ex_ixL (ex_var h0) (ex_var hi) (atI_pts (by omega) (by omega))) (by rw [show (0 + (k : Int)).toNat = k by omega])
  have ixx : ∀ (e : SE) (P : List HP.Pt) (i j k : Nat), e[i]? = some (.dat (ptsD P)) → e[j]? = some (.dat (.int (0 + (k : Int)))) → k < P.length → EvX K (tOp (rIx K) (tOp (rIx K) (tVar i) (tVar j)) (tC (.int 0))) e (.int (HP.atN P k).1) ∧ EvX K (tOp (rIx K) (tOp (rIx K) (tVar i) (tVar j)) (tC (.int 1))) e (.int (HP.atN P k).2) := fun e P i j k h0 hi hk => ⟨ex_ixT (ds := [.int (HP.atN P k).1, .int (HP.atN P k).2]) (ix e P i j k h0 hi hk) ex_int rfl, ex_ixT (ds := [.int (HP.atN P k).1, .int (HP.atN P k).2]) (ix e P i j k h0 hi hk) ex_int rfl⟩
  have one : ∀ k : Nat, ([((((k : Nat) : Int), 1, 1) : HP.W)].map wD) = [PyData.tuple [.int (k : Nat), .int 1, .int 1]] := fun k => rfl
  unfold HP.meeting
  refine rx_findR (o := (List.range (((A.map ptD).length : Nat) : Int).toNat).findSome? fun k => ((HP.within B (HP.atN A k)).map fun ws => (((((HP.atN A k).1, (HP.atN A k).2, 1), [(((k : Nat) : Int), 1, 1)], ws)) : HP.Meet)).map meetP) (e := [.dat (ptsD A), .dat (ptsD B), .no, .no]) (rx_forR1 (n := (((A.map ptD).length : Nat) : Int)) (ea_cons (ex_len (ex_var rfl) rfl) ea_nil) (by rw [List.length_map]; omega) (fr_findR (fun i : Nat => PyData.int (0 + (i : Int))) _ [.dat (ptsD A), .dat (ptsD B), .no, .no] _ fun k hk => ?_)) (fun ps h => ?_) (fun h => ?_)
  · have hk' : k < A.length := by have := List.mem_range.mp hk; rw [List.length_map] at this; omega
    have nk := hA.2 _ (HP.atN_mem hk')
    refine ⟨_, tg_name' (e' := [.dat (ptsD A), .dat (ptsD B), .dat (.int (0 + (k : Int))), .no]) rfl, ?_⟩
    have ha : EvAX K (tCons (tVar 1) (tCons (tOp (rIx K) (tVar 0) (tVar 2)) tNil)) [.dat (ptsD A), .dat (ptsD B), .dat (.int (0 + (k : Int))), .no] [ptsD B, ptD (HP.atN A k)] := ea_cons (ex_var rfl) (ea_cons (ix _ A 0 2 k rfl rfl hk') ea_nil)
    cases ho : HP.within B (HP.atN A k) with
    | none =>
      refine rx_seq (e1 := [.dat (ptsD A), .dat (ptsD B), .dat (.int (0 + (k : Int))), .dat .none]) (rx_asg (ex_callO ha ⟨B, _, rfl, hB, nk, by rw [ho]; rfl⟩) rfl) ?_
      exact rx_if (b := false) (xt_test (ex_notN (d := .none) (ex_var rfl))) (fun e => by cases e) (fun _ => rx_post rx_next (.keep (.keep (.drop (.drop .nil)))))
    | some ws =>
      refine rx_seq (e1 := [.dat (ptsD A), .dat (ptsD B), .dat (.int (0 + (k : Int))), .own (ws.map wD)]) (rx_asgF (xf_callO ha ⟨B, _, rfl, hB, nk, by rw [ho]; rfl⟩) rfl) ?_
      refine rx_if (b := true) (xt_test (ex_notN (ex_own rfl))) (fun _ => ?_) (fun e => by cases e)
      exact rx_retT (ep_dat ex_str rfl (ep_dat (d := wD ((HP.atN A k).1, (HP.atN A k).2, 1)) (ex_is (ex_tup (ea_cons (ixx _ A 0 2 k rfl rfl hk').1 (ea_cons (ixx _ A 0 2 k rfl rfl hk').2 (ea_cons ex_int ea_nil))) (Nat.le_of_ble_eq_true rfl)) rfl) rfl (ep_new (xf_is (xf_lst (ea_cons (ex_tup (ea_cons (ex_var rfl) (ea_cons ex_int (ea_cons ex_int ea_nil))) (Nat.le_of_ble_eq_true rfl)) ea_nil) (Nat.le_of_ble_eq_true rfl)) (by rw [one, Int.zero_add])) rfl (ep_own rfl (lfree_w3s ws) ep_nil)))) (Nat.le_of_ble_eq_true rfl)
  · rw [← find_map'] at h
    rw [List.length_map, show ((A.length : Nat) : Int).toNat = A.length by omega] at h
    obtain ⟨m, hm, em⟩ := Option.map_eq_some_iff.mp h
    rw [hm]
    subst em
    rfl
  rw [← find_map', Option.map_eq_none_iff] at h
  rw [List.length_map, show ((A.length : Nat) : Int).toNat = A.length by omega] at h
  rw [h]
  refine rx_findR (o := (List.range (((B.map ptD).length : Nat) : Int).toNat).findSome? fun k => ((HP.within A (HP.atN B k)).map fun ws => (((((HP.atN B k).1, (HP.atN B k).2, 1), ws, [(((k : Nat) : Int), 1, 1)])) : HP.Meet)).map meetP) (e := [.dat (ptsD A), .dat (ptsD B), .no, .no]) (rx_forR1 (n := (((B.map ptD).length : Nat) : Int)) (ea_cons (ex_len (ex_var rfl) rfl) ea_nil) (by rw [List.length_map]; omega) (fr_findR (fun i : Nat => PyData.int (0 + (i : Int))) _ [.dat (ptsD A), .dat (ptsD B), .no, .no] _ fun k hk => ?_)) (fun ps h => ?_) (fun h => ?_)
  · have hk' : k < B.length := by have := List.mem_range.mp hk; rw [List.length_map] at this; omega
    have nk := hB.2 _ (HP.atN_mem hk')
    refine ⟨_, tg_name' (e' := [.dat (ptsD A), .dat (ptsD B), .dat (.int (0 + (k : Int))), .no]) rfl, ?_⟩
    have ha : EvAX K (tCons (tVar 0) (tCons (tOp (rIx K) (tVar 1) (tVar 2)) tNil)) [.dat (ptsD A), .dat (ptsD B), .dat (.int (0 + (k : Int))), .no] [ptsD A, ptD (HP.atN B k)] := ea_cons (ex_var rfl) (ea_cons (ix _ B 1 2 k rfl rfl hk') ea_nil)
    cases ho : HP.within A (HP.atN B k) with
    | none =>
      refine rx_seq (e1 := [.dat (ptsD A), .dat (ptsD B), .dat (.int (0 + (k : Int))), .dat .none]) (rx_asg (ex_callO ha ⟨A, _, rfl, hA, nk, by rw [ho]; rfl⟩) rfl) ?_
      exact rx_if (b := false) (xt_test (ex_notN (d := .none) (ex_var rfl))) (fun e => by cases e) (fun _ => rx_post rx_next (.keep (.keep (.drop (.drop .nil)))))
    | some ws =>
      refine rx_seq (e1 := [.dat (ptsD A), .dat (ptsD B), .dat (.int (0 + (k : Int))), .own (ws.map wD)]) (rx_asgF (xf_callO ha ⟨A, _, rfl, hA, nk, by rw [ho]; rfl⟩) rfl) ?_
      refine rx_if (b := true) (xt_test (ex_notN (ex_own rfl))) (fun _ => ?_) (fun e => by cases e)
      exact rx_retT (ep_dat ex_str rfl (ep_dat (d := wD ((HP.atN B k).1, (HP.atN B k).2, 1)) (ex_is (ex_tup (ea_cons (ixx _ B 1 2 k rfl rfl hk').1 (ea_cons (ixx _ B 1 2 k rfl rfl hk').2 (ea_cons ex_int ea_nil))) (Nat.le_of_ble_eq_true rfl)) rfl) rfl (ep_own rfl (lfree_w3s ws) (ep_new (xf_is (xf_lst (ea_cons (ex_tup (ea_cons (ex_var rfl) (ea_cons ex_int (ea_cons ex_int ea_nil))) (Nat.le_of_ble_eq_true rfl)) ea_nil) (Nat.le_of_ble_eq_true rfl)) (by rw [one, Int.zero_add])) rfl ep_nil)))) (Nat.le_of_ble_eq_true rfl)
  · rw [← find_map'] at h
    rw [List.length_map, show ((B.length : Nat) : Int).toNat = B.length by omega] at h
    obtain ⟨m, hm, em⟩ := Option.map_eq_some_iff.mp h
    rw [hm]
    subst em
    rfl
  rw [← find_map', Option.map_eq_none_iff] at h
  rw [List.length_map, show ((B.length : Nat) : Int).toNat = B.length by omega] at h
  rw [h]
  exact rx_retR (er_call (ea_cons (ex_var rfl) (ea_cons (ex_var rfl) ea_nil)) ⟨A, B, rfl, hA, hB, rfl⟩)

def partedP (A B : List HP.Pt) : List Part := match HP.partingLine A B with
  | some L => [.inl (.str "line"), .inl (wD L)]
  | none => match HP.meeting A B with
    | some m => meetP m
    | none => []
def F_parted (K : PySem.W.Frag) : List PyData → (Hp → V → Hp → Prop) → Prop := fun ds R => ∃ A B : List HP.Pt, ds = [ptsD A, ptsD B] ∧ A.length ≤ 12 ∧ B.length ≤ 12 ∧ (∀ q ∈ A, Near q) ∧ (∀ q ∈ B, Near q) ∧ R = RT K (partedP A B)
theorem ok_parted {P : Program} {w : World} {K : PySem.W.Frag} {mg : Str → Option Value} {base : Heap} {ad : Ad} (T : Txt K mg ad) : FnOk P w K mg base CX0 7 ad.a_parted ad.d_parted ["ones", "others"] (spR K (F_parted K)) := by
  have G_ask_points := ok_ask_points (P := P) (w := w) (base := base) T
  have G_parting_line := ok_parting_line (P := P) (w := w) (base := base) T
  have G_meeting := ok_meeting (P := P) (w := w) (base := base) T
  refine ok_R (k := 6) T.F_parted sc_parted (by rintro _ _ ⟨_, _, rfl, _⟩; rfl) (fun cdv A outer s H E hr ds res hF => ?_)
  refine ⟨_, (pss_cons (ps_expr (pe_call G_ask_points (hr.mono (by decide)) (by rfl) T.g_ask_points T.F_ask_points.kp T.b_ask_points .nil pass0 (pa_cons (pv 0) pa_nil)))
      (pss_cons (ps_expr (pe_call G_ask_points (hr.mono (by decide)) (by rfl) T.g_ask_points T.F_ask_points.kp T.b_ask_points .nil pass0 (pa_cons (pv 1) pa_nil)))
      (pss_cons (ps_set (i := 2) sc_parted.nd rfl (Or.inl rfl) (pe_call G_parting_line (hr.mono (by decide)) (by rfl) T.g_parting_line T.F_parting_line.kp T.b_parting_line .nil pass0 (pa_cons (pv 0) (pa_cons (pv 1) pa_nil))))
      (pss_cons (ps_if (pt_cmpR op_notN (pv 2) pe_non (nomark _)) (pss_one (ps_ret (pe_tup (pa_cons pe_str (pa_cons (pv 2) pa_nil))))) pss_nil)
      (pss_one (ps_ret (pe_call G_meeting (hr.mono (by decide)) (by rfl) T.g_meeting T.F_meeting.kp T.b_meeting .nil pass0 (pa_cons (pv 0) (pa_cons (pv 1) pa_nil))))))))), ?_⟩
  obtain ⟨A, B, rfl, lA, lB, nA, nB, rfl⟩ := hF
  refine rx_seq (rx_drop (ex_call (ea_cons (ex_var rfl) ea_nil) ⟨⟨A, rfl, lA, nA⟩, rfl⟩)) (rx_seq (rx_drop (ex_call (ea_cons (ex_var rfl) ea_nil) ⟨⟨B, rfl, lB, nB⟩, rfl⟩)) ?_)
  refine rx_seq (e1 := [.dat (ptsD A), .dat (ptsD B), .dat (optL (HP.partingLine A B))]) (rx_asg (ex_call (ea_cons (ex_var rfl) (ea_cons (ex_var rfl) ea_nil)) ⟨A, B, rfl, lA, lB, nA, nB, rfl⟩) (by cases HP.partingLine A B <;> rfl)) ?_
  unfold partedP
  cases ho : HP.partingLine A B with
  | some L =>
    refine rx_ifS (b := true) (xt_test (ex_notN (d := wD L) (ex_var rfl))) (fun _ => ?_) (fun e => by cases e)
    exact rx_end (rx_retT (ep_dat ex_str rfl (ep_dat (d := wD L) (ex_var rfl) rfl ep_nil)) (Nat.le_of_ble_eq_true rfl)) rfl
  | none =>
    refine rx_ifS (b := false) (xt_test (ex_notN (d := .none) (ex_var rfl))) (fun e => by cases e) (fun _ => rx_nextS ?_)
    have hne := HP.meeting_none ho
    cases hm : HP.meeting A B with
    | none => exact absurd hm hne
    | some m =>
      exact rx_retR (er_call (ea_cons (ex_var rfl) (ea_cons (ex_var rfl) ea_nil)) ⟨A, B, rfl, ⟨by omega, nA⟩, ⟨by omega, nB⟩, by rw [hm]; rfl⟩)

def litI (ks : List Nat) : List Int := ks.map fun k : Nat => (k : Int)
def restI (ns : List Int) : List Int := ((List.range 4).filter fun i => decide (((i : Nat) : Int) ∉ ns)).map fun i => ((i : Nat) : Int)
def selI (ps : List HP.Pt) (ns : List Int) : List HP.Pt := ns.map fun k => HP.atN ps k.toNat
def fourF (ps : List HP.Pt) (ns : List Int) : Option (List Part) := match HP.partingLine (selI ps ns) (selI ps (restI ns)) with
  | some _ => none
  | none => match HP.meeting (selI ps ns) (selI ps (restI ns)) with
    | some m => some [.inr (ns.map PyData.int), .inr ((restI ns).map PyData.int), .inl (wD m.1)]
    | none => none
def fourLits : List (List Int) := [[0], [1], [2], [3], [0, 1], [0, 2], [0, 3]]
def fourP (ps : List HP.Pt) : List Part := (fourLits.findSome? (fourF ps)).getD []
def F_four_parted (K : PySem.W.Frag) : List PyData → (Hp → V → Hp → Prop) → Prop := fun ds R => ∃ ps : List HP.Pt, ds = [ptsD ps] ∧ ps.length = 4 ∧ (∀ q ∈ ps, Near q) ∧ R = RT K (fourP ps)
theorem lit_rest : ∀ sp ∈ HP.splits, restI (litI sp.1) = litI sp.2 ∧ litI sp.1 ∈ fourLits ∧ litI sp.1 ≠ litI sp.2 := by decide
theorem sel_lit (ps : List HP.Pt) (ks : List Nat) : selI ps (litI ks) = HP.sel ps ks := by
  unfold selI litI HP.sel
  rw [List.map_map]
  rfl
theorem four_split {ns : List Int} (h : ns ∈ fourLits) : ∃ sp ∈ HP.splits, ns = litI sp.1 := by
  revert ns
  decide
/-- what is told of four points -/
theorem four_cases (ps : List HP.Pt) : ∃ sp ∈ HP.splits, ∃ m : HP.Meet, HP.meeting (HP.sel ps sp.1) (HP.sel ps sp.2) = some m ∧ fourLits.findSome? (fourF ps) = some [.inr ((litI sp.1).map PyData.int), .inr ((litI sp.2).map PyData.int), .inl (wD m.1)] := by
  cases h : fourLits.findSome? (fourF ps) with
  | some P =>
    obtain ⟨ns, hns, e⟩ := List.exists_of_findSome?_eq_some h
    obtain ⟨sp, hsp, rfl⟩ := four_split hns
    unfold fourF at e
    rw [(lit_rest sp hsp).1, sel_lit, sel_lit] at e
    split at e
    · cases e
    · split at e
      · rename_i m hm
        cases e
        exact ⟨sp, hsp, m, hm, rfl⟩
      · cases e
  | none =>
    exfalso
    obtain ⟨sp, hsp, hp⟩ := HP.radon ps
    have := (List.findSome?_eq_none_iff.mp h) (litI sp.1) (lit_rest sp hsp).2.1
    unfold fourF at this
    rw [(lit_rest sp hsp).1, sel_lit, sel_lit, hp] at this
    simp only at this
    split at this
    · cases this
    · rename_i hm
      exact HP.meeting_none hp hm
theorem lfree_ints : ∀ ns : List Int, lfreeAll (ns.map PyData.int) = true
  | [] => rfl
  | _ :: ns => lfree_ints ns
theorem shaped_ints (ns : List Int) : SeqAt.shaped (.list (ns.map PyData.int)) = true := by
  have h1 : PyData.canLayAll0 (ns.map PyData.int) = true := by
    induction ns with
    | nil => rfl
    | cons n ns ih => exact ih
  have h2 : PyData.depthAll (ns.map PyData.int) = 0 := by
    clear h1
    induction ns with
    | nil => rfl
    | cons n ns ih =>
      simp only [List.map_cons, PyData.depthAll, PyData.depth]
      omega
  show (PyData.canLay0 (.list (ns.map PyData.int)) && decide (PyData.depth (.list (ns.map PyData.int)) ≤ 64)) = true
  rw [Bool.and_eq_true]
  refine ⟨by simpa only [PyData.canLay0] using h1, decide_eq_true ?_⟩
  simp only [PyData.depth]
  omega
theorem any_ints (ns : List Int) (i : Int) : ((ns.map PyData.int).any fun z => PyData.eqv z (.int i)) = decide (i ∈ ns) := by
  induction ns with
  | nil => simp
  | cons n ns ih =>
    rw [List.map_cons, List.any_cons, ih, eqv_int]
    by_cases h : n = i
    · subst h; simp
    · have h' : ¬ i = n := fun e => h e.symm
      simp [h, h']
theorem meeting_spotB {A B : List HP.Pt} {m : HP.Meet} (hA : ∀ q ∈ A, Near q) (hB : ∀ q ∈ B, Near q) (h : HP.meeting A B = some m) : m.1.1.natAbs ≤ 16000000000 ∧ m.1.2.1.natAbs ≤ 16000000000 ∧ m.1.2.2.natAbs ≤ 16000000 := by
  have near1 : ∀ {p : HP.Pt}, Near p → p.1.natAbs ≤ 16000000000 ∧ p.2.natAbs ≤ 16000000000 ∧ (1 : Int).natAbs ≤ 16000000 := fun {p} h => by
    unfold Near at h
    omega
  unfold HP.meeting at h
  split at h
  · rename_i m' hm
    cases h
    obtain ⟨k, hk, e⟩ := List.exists_of_findSome?_eq_some hm
    obtain ⟨ws, hw, e2⟩ := Option.map_eq_some_iff.mp e
    subst e2
    exact near1 (hA _ (HP.atN_mem (List.mem_range.mp hk)))
  · split at h
    · rename_i m' hm
      cases h
      obtain ⟨k, hk, e⟩ := List.exists_of_findSome?_eq_some hm
      obtain ⟨ws, hw, e2⟩ := Option.map_eq_some_iff.mp e
      subst e2
      exact near1 (hB _ (HP.atN_mem (List.mem_range.mp hk)))
    · unfold HP.crossing at h
      obtain ⟨a, ha, h⟩ := List.exists_of_findSome?_eq_some h
      obtain ⟨b, hb, h⟩ := List.exists_of_findSome?_eq_some h
      obtain ⟨c, hc, h⟩ := List.exists_of_findSome?_eq_some h
      obtain ⟨d, hd, h⟩ := List.exists_of_findSome?_eq_some h
      have ha' := List.mem_range.mp ha
      have hb' := List.mem_range.mp hb
      have hc' := List.mem_range.mp hc
      have hd' := List.mem_range.mp hd
      have na := hA _ (HP.atN_mem (ps := A) (k := a) ha')
      have nb := hA _ (HP.atN_mem (ps := A) (k := b) (by omega))
      have nc := hB _ (HP.atN_mem (ps := B) (k := c) hc')
      have nd := hB _ (HP.atN_mem (ps := B) (k := d) (by omega))
      unfold HP.crossed at h
      have bp := turn_bound nd nc nb
      have bq := turn_bound nd nc na
      split at h
      · cases h
      · rename_i n
        cases h
        generalize HP.turn (HP.atN B d) (HP.atN B c) (HP.atN A b) = p at *
        generalize HP.turn (HP.atN B d) (HP.atN B c) (HP.atN A a) = q at *
        have hpq : p * q < 0 := by omega
        obtain ⟨s1, s2⟩ := HP.signs hpq
        obtain ⟨l1, l2, l3⟩ := HP.spotOf_le (f := p * (HP.atN A a).1 - q * (HP.atN A b).1) (s := p * (HP.atN A a).2 - q * (HP.atN A b).2) (b := p - q) (by omega)
        unfold Near at na nb
        have x1 : (p * (HP.atN A a).1).natAbs ≤ 8000000 * 1000 := mul_bound bp (by omega)
        have x2 : (q * (HP.atN A b).1).natAbs ≤ 8000000 * 1000 := mul_bound bq (by omega)
        have x3 : (p * (HP.atN A a).2).natAbs ≤ 8000000 * 1000 := mul_bound bp (by omega)
        have x4 : (q * (HP.atN A b).2).natAbs ≤ 8000000 * 1000 := mul_bound bq (by omega)
        simp only at *
        omega
theorem sel_near {ps : List HP.Pt} (hl : ps.length = 4) (hn : ∀ q ∈ ps, Near q) {sp : List Nat × List Nat} (hsp : sp ∈ HP.splits) : (∀ q ∈ HP.sel ps sp.1, Near q) ∧ (∀ q ∈ HP.sel ps sp.2, Near q) := by
  have bnd : ∀ sp ∈ HP.splits, (∀ k ∈ sp.1, k < 4) ∧ (∀ k ∈ sp.2, k < 4) := by decide
  obtain ⟨b1, b2⟩ := bnd sp hsp
  constructor
  · intro q hq
    obtain ⟨k, hk, rfl⟩ := List.mem_map.mp hq
    exact hn _ (HP.atN_mem (by have := b1 k hk; omega))
  · intro q hq
    obtain ⟨k, hk, rfl⟩ := List.mem_map.mp hq
    exact hn _ (HP.atN_mem (by have := b2 k hk; omega))
theorem ok_four_parted {P : Program} {w : World} {K : PySem.W.Frag} {mg : Str → Option Value} {base : Heap} {ad : Ad} (T : Txt K mg ad) : FnOk P w K mg base CX0 8 ad.a_four_parted ad.d_four_parted ["points"] (spR K (F_four_parted K)) := by
  have G_ask_points := ok_ask_points (P := P) (w := w) (base := base) T
  have G_parted := ok_parted (P := P) (w := w) (base := base) T
  refine ok_R (k := 7) T.F_four_parted sc_four_parted (by rintro _ _ ⟨_, rfl, _⟩; rfl) (fun cdv A outer s H E hr ds res hF => ?_)
  refine ⟨_, (pss_cons (ps_expr (pe_call G_ask_points (hr.mono (by decide)) (by rfl) T.g_ask_points T.F_ask_points.kp T.b_ask_points .nil pass0 (pa_cons (pv 0) pa_nil)))
      (pss_cons (ps_if (pt_cmpR (op_neD hr.units) (pe_callB call_len (by rfl) T.n_len PySem.boot_len (pa_cons (pv 0) pa_nil)) pe_int (nomark _)) (pss_one ps_never) pss_nil)
      (pss_cons (ps_for PassesOwn.never rfl (pi_list (pe_lst (pa_cons (pe_lst (pa_cons pe_int pa_nil)) (pa_cons (pe_lst (pa_cons pe_int pa_nil)) (pa_cons (pe_lst (pa_cons pe_int pa_nil)) (pa_cons (pe_lst (pa_cons pe_int pa_nil)) (pa_cons (pe_lst (pa_cons pe_int (pa_cons pe_int pa_nil))) (pa_cons (pe_lst (pa_cons pe_int (pa_cons pe_int pa_nil))) (pa_cons (pe_lst (pa_cons pe_int (pa_cons pe_int pa_nil))) pa_nil))))))))) (pg_name (i := 1) sc_four_parted.nd rfl (Or.inr rfl)) (pss_cons (ps_setLcA (i := 2) (own := [("k", 4)]) rfl sc_four_parted.nd rfl rfl (sw_true rfl rfl rfl (by decide +kernel)) (pi_range1 (by rfl) T.n_range (pa_cons pe_int pa_nil)) (blkOk_by (own := [("k", 4)]) (N := N_four_parted) (sc := defScope s_four_parted) (by decide +kernel)) (fun _ _ _ _ _ => (pg_name (i := 4) sc_four_parted.nd rfl (Or.inl rfl) (hf := Or.inr rfl))) (fun _ _ _ _ _ => (pts_one (pt_cmpR (op_notInD (by exact un65 hr)) (pv 4) (pv 1) (by rfl)))) (fun _ _ _ _ _ => (pv 4)))
      (pss_cons (ps_set (i := 3) sc_four_parted.nd rfl (Or.inl rfl) (pe_call G_parted (hr.mono (by decide)) (by rfl) T.g_parted T.F_parted.kp T.b_parted .nil pass0 (pa_cons (pe_lcA (own := [("k", 4)]) rfl sc_four_parted.nd (pi_list (pv 1)) (blkOk_by (own := [("k", 4)]) (N := N_four_parted) (sc := defScope s_four_parted) (by decide +kernel)) (fun _ _ _ _ _ => (pg_name (i := 4) sc_four_parted.nd rfl (Or.inl rfl) (hf := Or.inr rfl))) (fun _ _ _ _ _ => pts_nil) (fun _ _ _ _ _ => (pe_ix ix_seq (pv 0) (pv 4) (fun _ _ => rfl)))) (pa_cons (pe_lcA (own := [("k", 4)]) rfl sc_four_parted.nd (pi_list (pv 2)) (blkOk_by (own := [("k", 4)]) (N := N_four_parted) (sc := defScope s_four_parted) (by decide +kernel)) (fun _ _ _ _ _ => (pg_name (i := 4) sc_four_parted.nd rfl (Or.inl rfl) (hf := Or.inr rfl))) (fun _ _ _ _ _ => pts_nil) (fun _ _ _ _ _ => (pe_ix ix_seq (pv 0) (pv 4) (fun _ _ => rfl)))) pa_nil))))
      (pss_one (ps_if (pt_cmpR (op_eqD hr.units) (pe_ix ix_seq (pv 3) pe_int (fun _ _ => rfl)) pe_str (nomark _)) (pss_one (ps_ret (pe_tup (pa_cons (pv 1) (pa_cons (pv 2) (pa_cons (pe_ix ix_seq (pv 3) pe_int (fun _ _ => rfl)) pa_nil)))))) pss_nil)))))
      (pss_one (ps_ret pe_non))))), ?_⟩
  obtain ⟨ps, rfl, hl, hn, rfl⟩ := hF
  obtain ⟨sp0, hsp0, m0, _, hfour⟩ := four_cases ps
  refine rx_seq (rx_drop (ex_call (ea_cons (ex_var rfl) ea_nil) ⟨⟨ps, rfl, by omega, hn⟩, rfl⟩)) ?_
  refine rx_ifS (b := false) (xt_is (xt_test (ex_ne (ex_len (ex_var rfl) rfl) ex_int rfl rfl)) (by rw [eqv_int, List.length_map, hl]; rfl)) (fun e => by cases e) (fun _ => rx_nextS ?_)
  have po : ptsOnly [.dat (ptsD ps), .no, .no, .no, .no] := by
    intro s hs
    simp only [List.mem_cons, List.not_mem_nil, or_false] at hs
    rcases hs with e | e | e | e | e <;> subst e
    · exact .inr ⟨ps, rfl⟩
    · exact .inl rfl
    · exact .inl rfl
    · exact .inl rfl
    · exact .inl rfl
  have one : ∀ i : Int, EvFX K (tLst (tCons (tC (.int i)) tNil)) [.dat (ptsD ps), .no, .no, .no, .no] ([i].map PyData.int) := fun i => xf_lst (ea_cons ex_int ea_nil) (Nat.le_of_ble_eq_true rfl)
  have two : ∀ i j : Int, EvFX K (tLst (tCons (tC (.int i)) (tCons (tC (.int j)) tNil))) [.dat (ptsD ps), .no, .no, .no, .no] ([i, j].map PyData.int) := fun i j => xf_lst (ea_cons ex_int (ea_cons ex_int ea_nil)) (Nat.le_of_ble_eq_true rfl)
  refine rx_findR (o := fourLits.findSome? (fourF ps)) (e := [.dat (ptsD ps), .no, .no, .no, .no]) (rx_forL (i := 1) (f := fourF ps) (lits := fourLits) (el_cons (one 0) (el_cons (one 1) (el_cons (one 2) (el_cons (one 3) (el_cons (two 0 1) (el_cons (two 0 2) (el_cons (two 0 3) el_nil))))))) po (by decide) rfl (by decide) fun ns hns => ?_) (fun P h => ?_) (fun h => ?_)
  · obtain ⟨sp, hsp, ens⟩ := four_split hns
    obtain ⟨er, _, ene⟩ := lit_rest sp hsp
    rw [← ens] at er ene
    have bnd : ∀ sp ∈ HP.splits, (∀ k ∈ litI sp.1, 0 ≤ k ∧ k < 4) ∧ (∀ k ∈ litI sp.2, 0 ≤ k ∧ k < 4) ∧ (litI sp.1).length ≤ 4 ∧ (litI sp.2).length ≤ 4 := by decide
    obtain ⟨bn, bm, ll1, ll2⟩ := bnd sp hsp
    rw [← ens] at bn ll1
    rw [← er] at bm ene ll2
    have hrest : lcRes (fun i : Nat => decide (((i : Nat) : Int) ∉ ns)) (fun i => PyData.int (i : Nat)) (List.range 4) = (restI ns).map PyData.int := by
      unfold lcRes restI
      rw [List.map_map]
      rfl
    have pick : ∀ ks : List Int, lcRes (fun _ : Int => true) (fun k => ptD (HP.atN ps k.toNat)) ks = (selI ps ks).map ptD := fun ks => by
      unfold lcRes selI
      rw [List.filter_eq_self.mpr fun _ _ => rfl, List.map_map]
      rfl
    have near : ∀ ks : List Int, (∀ k ∈ ks, 0 ≤ k ∧ k < 4) → ∀ q ∈ selI ps ks, Near q := fun ks hk q hq => by
      obtain ⟨k, hkm, rfl⟩ := List.mem_map.mp hq
      have := hk k hkm
      exact hn _ (HP.atN_mem (by omega))
    refine rx_seq (e1 := [.dat (ptsD ps), .own (ns.map PyData.int), .own ((restI ns).map PyData.int), .no, .no]) (rx_asgF (xf_settle (i := 1) rfl rfl (xf_is (xf_lcR 4 (fun i => decide (((i : Nat) : Int) ∉ ns)) (fun i => .int (i : Nat)) (fun i => [.dat (ptsD ps), .dat (.list (ns.map PyData.int)), .no, .no, .dat (.int (i : Nat))]) (ea_cons ex_int ea_nil) rfl (by omega) (fun i _ => cg_name (by decide) rfl) (fun i _ => xt_is (xt_test (ex_notIn (ex_var rfl) (ex_var rfl) rfl (shaped_ints ns))) (by rw [any_ints]; simp)) (fun i _ _ => ex_var rfl) (fun _ _ _ => rfl)) hrest)) (by rw [lfree_ints, Bool.or_true])) ?_
    refine rx_seq (e1 := [.dat (ptsD ps), .own (ns.map PyData.int), .own ((restI ns).map PyData.int), .dat (.tuple ((partedP (selI ps ns) (selI ps (restI ns))).map Part.toD)), .no]) (rx_asgP (er_settleA (er_call (ea_cons (ex_new (xf_is (xf_lc ns PyData.int (fun _ => true) (fun k => ptD (HP.atN ps k.toNat)) (fun k => [.dat (ptsD ps), .dat (.list (ns.map PyData.int)), .dat (.list ((restI ns).map PyData.int)), .no, .dat (.int k)]) (ex_var rfl) rfl (by omega) (fun k _ => cg_name (by decide) rfl) (fun k _ => xt_true) (fun k hk _ => ex_ixL (ex_var rfl) (ex_var rfl) (atI_pts (bn k hk).1 (by rw [hl]; exact (bn k hk).2))) (fun _ _ _ => rfl)) (pick ns))) (ea_cons (ex_new (xf_is (xf_lc (restI ns) PyData.int (fun _ => true) (fun k => ptD (HP.atN ps k.toNat)) (fun k => [.dat (ptsD ps), .dat (.list (ns.map PyData.int)), .dat (.list ((restI ns).map PyData.int)), .no, .dat (.int k)]) (ex_var rfl) rfl (by omega) (fun k _ => cg_name (by decide) rfl) (fun k _ => xt_true) (fun k hk _ => ex_ixL (ex_var rfl) (ex_var rfl) (atI_pts (bm k hk).1 (by rw [hl]; exact (bm k hk).2))) (fun _ _ _ => rfl)) (pick (restI ns)))) ea_nil)) ⟨selI ps ns, selI ps (restI ns), rfl, by unfold selI; rw [List.length_map]; omega, by unfold selI; rw [List.length_map]; omega, near ns bn, near _ bm, rfl⟩))) ?_
    unfold fourF partedP
    cases ho : HP.partingLine (selI ps ns) (selI ps (restI ns)) with
    | some L =>
      simp only [List.map_cons, List.map_nil, Part.toD]
      exact rx_if (b := false) (xt_is (xt_test (ex_eq (ex_ixT (ex_var rfl) ex_int rfl) ex_str (by decide +kernel) (by decide +kernel))) (by decide +kernel)) (fun e => by cases e) (fun _ => rx_post rx_next (.keep (.drop (.drop (.drop (.drop .nil))))))
    | none =>
      cases hm : HP.meeting (selI ps ns) (selI ps (restI ns)) with
      | none => exact absurd hm (HP.meeting_none ho)
      | some m =>
        unfold meetP
        simp only [List.map_cons, List.map_nil, Part.toD]
        refine rx_if (b := true) (xt_is (xt_test (ex_eq (ex_ixT (ex_var rfl) ex_int rfl) ex_str (by decide +kernel) (by decide +kernel))) (by decide +kernel)) (fun _ => ?_) (fun e => by cases e)
        exact rx_retT (ep_own2 (i := 1) (j := 2) rfl rfl ene (ep_dat (d := wD m.1) (ex_ixT (ex_var rfl) ex_int rfl) rfl ep_nil)) (Nat.le_of_ble_eq_true rfl)
  · unfold fourP
    rw [h]
    rfl
  · rw [hfour] at h
    cases h

def F_seen_from : List PyData → List PyData → Prop := fun ds es => ∃ (ps : List HP.Pt) (u : HP.W), ds = [ptsD ps, wD u] ∧ Nears ps ∧ es = (waysFrom ps u).map ptD
theorem ok_seen_from {P : Program} {w : World} {K : PySem.W.Frag} {mg : Str → Option Value} {base : Heap} {ad : Ad} (T : Txt K mg ad) : FnOk P w K mg base CX0 1 ad.a_seen_from ad.d_seen_from ["points", "spot"] (spF K F_seen_from) := by
  refine ok_F (k := 0) T.F_seen_from sc_seen_from (by rintro _ _ ⟨_, _, rfl, _⟩; rfl) (fun cdv A outer s H E hr ds res hF => ?_)
  refine ⟨_, (pss_one (ps_ret (pe_lcA (own := [("point", 2)]) rfl sc_seen_from.nd (pi_list (pv 0)) (blkOk_by (own := [("point", 2)]) (N := N_seen_from) (sc := defScope s_seen_from) (by decide +kernel)) (fun _ _ _ _ _ => (pg_name (i := 2) sc_seen_from.nd rfl (Or.inl rfl) (hf := Or.inr rfl))) (fun _ _ _ _ _ => pts_nil) (fun _ _ _ _ _ => (pe_tup (pa_cons (pe_op op_sub (pe_op op_mul (pe_ix ix_seq (pv 2) pe_int (fun _ _ => rfl)) (pe_ix ix_seq (pv 1) pe_int (fun _ _ => rfl))) (pe_ix ix_seq (pv 1) pe_int (fun _ _ => rfl))) (pa_cons (pe_op op_sub (pe_op op_mul (pe_ix ix_seq (pv 2) pe_int (fun _ _ => rfl)) (pe_ix ix_seq (pv 1) pe_int (fun _ _ => rfl))) (pe_ix ix_seq (pv 1) pe_int (fun _ _ => rfl))) pa_nil))))))), ?_⟩
  obtain ⟨ps, u, rfl, hps, rfl⟩ := hF
  have hl := hps.1
  refine rx_retF (xf_is (xf_lc ps ptD (fun _ => true) (fun p => ptD (p.1 * u.2.2 - u.1, p.2 * u.2.2 - u.2.1)) (fun p => [.dat (ptsD ps), .dat (wD u), .dat (ptD p)]) (ex_var rfl) rfl (by omega) (fun p _ => cg_name (by decide) rfl) (fun p _ => xt_true) (fun p hp _ => ?_) (fun _ _ _ => rfl)) ?_)
  · have hn := hps.2 p hp
    unfold Near at hn
    have ux : ∀ (e : SE), e[1]? = some (.dat (wD u)) → EvX K (tOp (rIx K) (tVar 1) (tC (.int 0))) e (.int u.1) ∧ EvX K (tOp (rIx K) (tVar 1) (tC (.int 1))) e (.int u.2.1) ∧ EvX K (tOp (rIx K) (tVar 1) (tC (.int 2))) e (.int u.2.2) := fun e h => ⟨ex_ixT (ds := [.int u.1, .int u.2.1, .int u.2.2]) (ex_var h) ex_int rfl, ex_ixT (ds := [.int u.1, .int u.2.1, .int u.2.2]) (ex_var h) ex_int rfl, ex_ixT (ds := [.int u.1, .int u.2.1, .int u.2.2]) (ex_var h) ex_int rfl⟩
    refine ex_is (ex_tup (ea_cons (ex_I0 (g := fun i j => i - j) (ex_I (g := fun i j => i * j) (ex_ixT (ds := [.int p.1, .int p.2]) (ex_var rfl) ex_int rfl) (ux _ rfl).2.2 (by left; omega)) (ux _ rfl).1) (ea_cons (ex_I0 (g := fun i j => i - j) (ex_I (g := fun i j => i * j) (ex_ixT (ds := [.int p.1, .int p.2]) (ex_var rfl) ex_int rfl) (ux _ rfl).2.2 (by left; omega)) (ux _ rfl).2.1) ea_nil)) (Nat.le_of_ble_eq_true rfl)) rfl
  · unfold lcRes waysFrom
    rw [List.map_map, List.filter_eq_self.mpr fun _ _ => rfl]
    rfl

def F_counted : List PyData → PyData → Prop := fun ds d => ∃ (ws : List HP.Pt) (m : HP.Pt), ds = [ptsD ws, .int m.1, .int m.2] ∧ Wbig ws ∧ d = .int (HP.counted ws m : Nat)
theorem ok_counted {P : Program} {w : World} {K : PySem.W.Frag} {mg : Str → Option Value} {base : Heap} {ad : Ad} (T : Txt K mg ad) : FnOk P w K mg base CX0 1 ad.a_counted ad.d_counted ["ways", "first", "second"] (spD K F_counted) := by
  refine ok_D (k := 0) T.F_counted sc_counted (by rintro _ _ ⟨_, _, rfl, _⟩; rfl) (fun cdv A outer s H E hr ds res hF => ?_)
  refine ⟨_, (pss_one (ps_ret (pe_callB call_len (by rfl) T.n_len PySem.boot_len (pa_cons (pe_lcA (own := [("way", 3)]) rfl sc_counted.nd (pi_list (pv 0)) (blkOk_by (own := [("way", 3)]) (N := N_counted) (sc := defScope s_counted) (by decide +kernel)) (fun _ _ _ _ _ => (pg_name (i := 3) sc_counted.nd rfl (Or.inl rfl) (hf := Or.inr rfl))) (fun _ _ _ _ _ => (pts_one (pt_cmpR op_ge (pe_op op_add (pe_op op_mul (pv 1) (pe_ix ix_seq (pv 3) pe_int (fun _ _ => rfl))) (pe_op op_mul (pv 2) (pe_ix ix_seq (pv 3) pe_int (fun _ _ => rfl)))) pe_int (nomark _)))) (fun _ _ _ _ _ => (pv 3))) pa_nil)))), ?_⟩
  obtain ⟨ws, m, rfl, hw, rfl⟩ := hF
  have hl := hw.1
  refine rx_ret (ex_is (ex_len (ex_new (xf_lc ws ptD (fun w => decide (0 ≤ HP.dot2 m w)) ptD (fun w => [.dat (ptsD ws), .dat (.int m.1), .dat (.int m.2), .dat (ptD w)]) (ex_var rfl) rfl (by omega) (fun w _ => cg_name (by decide) rfl) (fun w hwm => ?_) (fun w _ _ => ex_var rfl) (fun _ _ _ => rfl))) rfl) ?_)
  · obtain ⟨b1, b2⟩ := hw.2 w hwm
    exact xt_test (ex_B0 (g := fun i j => decide (j ≤ i)) (ex_I0 (g := fun i j => i + j) (ex_I (g := fun i j => i * j) (ex_var rfl) (ex_ixT (ds := [.int w.1, .int w.2]) (ex_var rfl) ex_int rfl) (by right; omega)) (ex_I (g := fun i j => i * j) (ex_var rfl) (ex_ixT (ds := [.int w.1, .int w.2]) (ex_var rfl) ex_int rfl) (by right; omega))) ex_int)
  · unfold lcRes HP.counted
    rw [List.length_map]

def F_leanings : List PyData → List PyData → Prop := fun ds es => ∃ ws : List HP.Pt, ds = [ptsD ws] ∧ Wbig ws ∧ es = (HP.leanings ws).map ptD
theorem fold_flat' {α β : Type} (g : α → List β) : ∀ (l : List α) (s : List β), l.foldl (fun s a => s ++ g a) s = s ++ l.flatMap g
  | [], s => by simp
  | a :: l, s => by
    rw [List.foldl_cons, fold_flat' g l, List.flatMap_cons, List.append_assoc]
theorem flat_len4 (g : Int) : ∀ (l : List HP.Pt), (l.flatMap (HP.leanAll g)).length = l.length * 4
  | [] => by simp
  | a :: l => by
    rw [List.flatMap_cons, List.length_append, flat_len4 g l, List.length_cons]
    show 4 + _ = _
    omega
theorem ok_leanings {P : Program} {w : World} {K : PySem.W.Frag} {mg : Str → Option Value} {base : Heap} {ad : Ad} (T : Txt K mg ad) : FnOk P w K mg base CX0 1 ad.a_leanings ad.d_leanings ["ways"] (spF K F_leanings) := by
  refine ok_F (k := 0) T.F_leanings sc_leanings (by rintro _ _ ⟨_, rfl, _⟩; rfl) (fun cdv A outer s H E hr ds res hF => ?_)
  refine ⟨_, (pss_cons (ps_set (i := 1) sc_leanings.nd rfl (Or.inl rfl) pe_int)
      (pss_cons (ps_for PassesOwn.never rfl (pi_list (pv 0)) (pg_name (i := 2) sc_leanings.nd rfl (Or.inl rfl)) (pss_one (ps_set (i := 1) sc_leanings.nd rfl (Or.inl rfl) (pe_op op_add (pe_op op_add (pv 1) (pe_op op_mul (pe_ix ix_seq (pv 2) pe_int (fun _ _ => rfl)) (pe_ix ix_seq (pv 2) pe_int (fun _ _ => rfl)))) (pe_op op_mul (pe_ix ix_seq (pv 2) pe_int (fun _ _ => rfl)) (pe_ix ix_seq (pv 2) pe_int (fun _ _ => rfl)))))))
      (pss_cons (ps_set (i := 3) sc_leanings.nd rfl (Or.inl rfl) (pe_lst (pa_cons (pe_tup (pa_cons pe_int (pa_cons pe_int pa_nil))) pa_nil)))
      (pss_cons (ps_for PassesOwn.never rfl (pi_list (pv 0)) (pg_tup rfl (pgs_cons (pg_name (i := 4) sc_leanings.nd rfl (Or.inl rfl)) (pgs_cons (pg_name (i := 5) sc_leanings.nd rfl (Or.inl rfl)) pgs_nil))) (pss_one (ps_for PassesOwn.never rfl (pi_list (pe_lst (pa_cons pe_int (pa_cons (pe_un un_neg pe_int) pa_nil)))) (pg_name (i := 6) sc_leanings.nd rfl (Or.inl rfl)) (pss_one (ps_for PassesOwn.never rfl (pi_list (pe_lst (pa_cons pe_int (pa_cons (pe_un un_neg pe_int) pa_nil)))) (pg_name (i := 7) sc_leanings.nd rfl (Or.inl rfl)) (pss_one (ps_expr (pe_bm PySem.F.plainAttrs_list PySem.F.slot_list_append PySem.F.type_list_append mt_append (pv 3) (pa_cons (pe_tup (pa_cons (pe_op op_add (pe_op op_sub pe_int (pe_op op_mul (pe_op op_mul (pv 6) (pv 5)) (pv 1))) (pe_op op_mul (pv 7) (pv 4))) (pa_cons (pe_op op_add (pe_op op_mul (pe_op op_mul (pv 6) (pv 4)) (pv 1)) (pe_op op_mul (pv 7) (pv 5))) pa_nil))) pa_nil)))))))))
      (pss_one (ps_ret (pe_lcA (own := [("one", 8)]) rfl sc_leanings.nd (pi_list (pv 3)) (blkOk_by (own := [("one", 8)]) (N := N_leanings) (sc := defScope s_leanings) (by decide +kernel)) (fun _ _ _ _ _ => (pg_name (i := 8) sc_leanings.nd rfl (Or.inl rfl) (hf := Or.inr rfl))) (fun _ _ _ _ _ => (pts_one (pt_cmpR (op_neD hr.units) (pv 8) (pe_tup (pa_cons pe_int (pa_cons pe_int pa_nil))) (nomark _)))) (fun _ _ _ _ _ => (pv 8))))))))), ?_⟩
  obtain ⟨ws, rfl, hw, rfl⟩ := hF
  have hl := hw.1
  have px : ∀ (e : SE) (i : Nat) (q : HP.Pt), e[i]? = some (.dat (ptD q)) → EvX K (tOp (rIx K) (tVar i) (tC (.int 0))) e (.int q.1) ∧ EvX K (tOp (rIx K) (tVar i) (tC (.int 1))) e (.int q.2) := fun e i q h => ⟨ex_ixT (ds := [.int q.1, .int q.2]) (ex_var h) ex_int rfl, ex_ixT (ds := [.int q.1, .int q.2]) (ex_var h) ex_int rfl⟩
  refine rx_seq (e1 := [.dat (ptsD ws), .dat (.int 1), .no, .no, .no, .no, .no, .no, .no]) (rx_asg ex_int rfl) ?_
  refine rx_seq (e1 := [.dat (ptsD ws), .dat (.int (HP.greatOf ws)), .no, .no, .no, .no, .no, .no, .no]) (rx_forV rfl (fr_fold ptD (fun g : Int => [.dat (ptsD ws), .dat (.int g), .no, .no, .no, .no, .no, .no, .no]) (fun g w => g + w.1 * w.1 + w.2 * w.2) 1 ws fun pre post w hp => ?_)) ?_
  · obtain ⟨b1, b2⟩ := hw.2 w (by rw [hp]; simp)
    generalize pre.foldl (fun g (w : HP.Pt) => g + w.1 * w.1 + w.2 * w.2) 1 = g
    refine ⟨_, tg_name' (e' := [.dat (ptsD ws), .dat (.int g), .dat (ptD w), .no, .no, .no, .no, .no, .no]) rfl, ?_⟩
    exact rx_post (rx_asg (ex_I0 (g := fun i j => i + j) (ex_I0 (g := fun i j => i + j) (ex_var rfl) (ex_I (g := fun i j => i * j) (px _ 2 w rfl).1 (px _ 2 w rfl).1 (by left; omega))) (ex_I (g := fun i j => i * j) (px _ 2 w rfl).2 (px _ 2 w rfl).2 (by left; omega))) rfl) (.keep (.keep (.drop (.drop (.drop (.drop (.drop (.drop (.drop .nil)))))))))
  generalize hg : HP.greatOf ws = g
  refine rx_seq (e1 := [.dat (ptsD ws), .dat (.int g), .no, .own ([((1, 0) : HP.Pt)].map ptD), .no, .no, .no, .no, .no]) (rx_asgF (xf_is (xf_lst (ea_cons (ex_tup (ea_cons ex_int (ea_cons ex_int ea_nil)) (Nat.le_of_ble_eq_true rfl)) ea_nil) (Nat.le_of_ble_eq_true rfl)) rfl) rfl) ?_
  refine rx_seq (e1 := [.dat (ptsD ws), .dat (.int g), .no, .own (((1, 0) :: ws.flatMap (HP.leanAll g)).map ptD), .no, .no, .no, .no, .no]) (rx_is (rx_forV rfl (fr_fold ptD (fun S : List HP.Pt => [.dat (ptsD ws), .dat (.int g), .no, .own (S.map ptD), .no, .no, .no, .no, .no]) (fun S w => S ++ HP.leanAll g w) [(1, 0)] ws fun pre post w hp => ?_)) ?_) ?_
  · obtain ⟨b1, b2⟩ := hw.2 w (by rw [hp]; simp)
    rw [fold_flat']
    have hz : ([((1, 0) : HP.Pt)] ++ pre.flatMap (HP.leanAll g)).length < 5000 := by
      have := congrArg List.length hp
      rw [List.length_append] at this
      rw [List.length_append, flat_len4]
      simp only [List.length_cons, List.length_nil]
      omega
    generalize [((1, 0) : HP.Pt)] ++ pre.flatMap (HP.leanAll g) = S at hz ⊢
    refine ⟨[.dat (ptsD ws), .dat (.int g), .no, .own (S.map ptD), .dat (.int w.1), .dat (.int w.2), .no, .no, .no], tg_tup (tgs_name (tgs_name tgs_nil)) rfl, ?_⟩
    refine rx_post (e := [.dat (ptsD ws), .dat (.int g), .no, .own ((S ++ HP.leanAll g w).map ptD), .dat (.int w.1), .dat (.int w.2), .no, .no, .no]) (rx_is (rx_forF (ds := [(1 : Int), -1].map PyData.int) (xf_lst (ea_cons ex_int (ea_cons (ex_U ex_int) ea_nil)) (Nat.le_of_ble_eq_true rfl)) rfl (fr_fold PyData.int (fun S : List HP.Pt => [.dat (ptsD ws), .dat (.int g), .no, .own (S.map ptD), .dat (.int w.1), .dat (.int w.2), .no, .no, .no]) (fun S side => S ++ [HP.leanP g w side 1, HP.leanP g w side (-1)]) S [(1 : Int), -1] fun pre2 post2 side hp2 => ?_)) ?_) (.keep (.keep (.keep (.keep (.drop (.drop (.drop (.drop (.drop .nil)))))))))
    rotate_left
    · simp only [List.foldl_cons, List.foldl_nil, List.append_assoc]
      rfl
    have hs : side = 1 ∨ side = -1 := by
      have : side ∈ [(1 : Int), -1] := by rw [hp2]; simp
      simpa using this
    have hz2 : (pre2.foldl (fun S side => S ++ [HP.leanP g w side 1, HP.leanP g w side (-1)]) S).length < 6000 := by
      rw [fold_flat', List.length_append]
      have h1 : pre2.length ≤ 2 := by
        have := congrArg List.length hp2
        rw [List.length_append] at this
        simp only [List.length_cons, List.length_nil] at this
        omega
      have h2 : ∀ l : List Int, (l.flatMap fun side => [HP.leanP g w side 1, HP.leanP g w side (-1)]).length = l.length * 2 := by
        intro l
        induction l with
        | nil => rfl
        | cons a l ih => rw [List.flatMap_cons, List.length_append, ih, show (a :: l).length = l.length + 1 from rfl]; show 2 + l.length * 2 = _; omega
      rw [h2]
      omega
    generalize pre2.foldl (fun S side => S ++ [HP.leanP g w side 1, HP.leanP g w side (-1)]) S = S2 at hz2 ⊢
    refine ⟨_, tg_name' (e' := [.dat (ptsD ws), .dat (.int g), .no, .own (S2.map ptD), .dat (.int w.1), .dat (.int w.2), .dat (.int side), .no, .no]) rfl, ?_⟩
    refine rx_post (e := [.dat (ptsD ws), .dat (.int g), .no, .own ((S2 ++ [HP.leanP g w side 1, HP.leanP g w side (-1)]).map ptD), .dat (.int w.1), .dat (.int w.2), .dat (.int side), .no, .no]) (rx_is (rx_forF (ds := [(1 : Int), -1].map PyData.int) (xf_lst (ea_cons ex_int (ea_cons (ex_U ex_int) ea_nil)) (Nat.le_of_ble_eq_true rfl)) rfl (fr_fold PyData.int (fun S : List HP.Pt => [.dat (ptsD ws), .dat (.int g), .no, .own (S.map ptD), .dat (.int w.1), .dat (.int w.2), .dat (.int side), .no, .no]) (fun S l => S ++ [HP.leanP g w side l]) S2 [(1 : Int), -1] fun pre3 post3 l hp3 => ?_)) ?_) (.keep (.keep (.keep (.keep (.keep (.keep (.drop (.drop (.drop .nil)))))))))
    rotate_left
    · simp only [List.foldl_cons, List.foldl_nil, List.append_assoc]
      rfl
    have hl3 : l = 1 ∨ l = -1 := by
      have : l ∈ [(1 : Int), -1] := by rw [hp3]; simp
      simpa using this
    have hz3 : (pre3.foldl (fun S l => S ++ [HP.leanP g w side l]) S2).length < 7000 := by
      rw [fold_snoc', List.length_append, List.length_map]
      have := congrArg List.length hp3
      rw [List.length_append] at this
      simp only [List.length_cons, List.length_nil] at this
      omega
    generalize pre3.foldl (fun S l => S ++ [HP.leanP g w side l]) S2 = S3 at hz3 ⊢
    refine ⟨_, tg_name' (e' := [.dat (ptsD ws), .dat (.int g), .no, .own (S3.map ptD), .dat (.int w.1), .dat (.int w.2), .dat (.int side), .dat (.int l), .no]) rfl, ?_⟩
    have m1 : (side * w.2).natAbs ≤ 1 * 2305843009213693952 := mul_bound (by omega) b2
    have m2 : (side * w.1).natAbs ≤ 1 * 2305843009213693952 := mul_bound (by omega) b1
    refine rx_post (rx_app (i := 3) (d := ptD (HP.leanP g w side l)) rfl (ex_is (ex_tup (ea_cons (ex_I0 (g := fun i j => i + j) (ex_I0 (g := fun i j => i - j) ex_int (ex_I (g := fun i j => i * j) (ex_I (g := fun i j => i * j) (ex_var rfl) (ex_var rfl) (by left; omega)) (ex_var rfl) (by left; omega))) (ex_I (g := fun i j => i * j) (ex_var rfl) (ex_var rfl) (by left; omega))) (ea_cons (ex_I0 (g := fun i j => i + j) (ex_I (g := fun i j => i * j) (ex_I (g := fun i j => i * j) (ex_var rfl) (ex_var rfl) (by left; omega)) (ex_var rfl) (by left; omega)) (ex_I (g := fun i j => i * j) (ex_var rfl) (ex_var rfl) (by left; omega))) ea_nil)) (Nat.le_of_ble_eq_true rfl)) rfl) rfl (by rw [List.length_map]; omega) rfl) ?_
    rw [List.map_append]
    exact .keep (.keep (.keep (.keep (.keep (.keep (.keep (.drop (.drop .nil))))))))
  · rw [fold_flat']
    rfl
  refine rx_settle (i := 3) rfl rfl ?_
  refine rx_retF (xf_is (xf_lc ((1, 0) :: ws.flatMap (HP.leanAll g)) ptD (fun m => decide (m ≠ (0, 0))) ptD (fun m => [.dat (ptsD ws), .dat (.int g), .no, .dat (ptsD ((1, 0) :: ws.flatMap (HP.leanAll g))), .no, .no, .no, .no, .dat (ptD m)]) (ex_var rfl) rfl ?_ (fun m _ => cg_name (by decide) rfl) (fun m _ => xt_is (xt_test (ex_ne (ex_var rfl) (ex_is (ex_tup (ea_cons ex_int (ea_cons ex_int ea_nil)) (Nat.le_of_ble_eq_true rfl)) (show _ = ptD (0, 0) from rfl)) rfl rfl)) ?_) (fun m _ _ => ex_var rfl) (fun _ _ _ => rfl)) ?_)
  · rw [List.length_cons, flat_len4]; omega
  · rw [eqv_pt]
    by_cases k : m = (0, 0) <;> simp [k]
  · unfold HP.leanings
    rw [hg]
    rfl

def lineOf (u : HP.W) (m : HP.Pt) : HP.W := (m.1 * u.2.2, m.2 * u.2.2, 0 - m.1 * u.1 - m.2 * u.2.1)
def bestD (u : HP.W) : Option (Nat × HP.Pt) → PyData
  | none => .none
  | some (k, m) => .tuple [.int (k : Nat), wD (lineOf u m)]
def F_depth : List PyData → PyData → Prop := fun ds d => ∃ (ps : List HP.Pt) (u : HP.W), ds = [ptsD ps, wD u] ∧ ps.length ≤ 12 ∧ (∀ q ∈ ps, Near q) ∧ HP.SpotOk u ∧ SpotB u ∧ d = bestD u (HP.bestOf (waysFrom ps u))
theorem bestD_lfree (u : HP.W) (b : Option (Nat × HP.Pt)) : lfree (bestD u b) = true := by
  cases b with
  | none => rfl
  | some x => rfl
theorem ok_depth {P : Program} {w : World} {K : PySem.W.Frag} {mg : Str → Option Value} {base : Heap} {ad : Ad} (T : Txt K mg ad) : FnOk P w K mg base CX0 3 ad.a_depth ad.d_depth ["points", "spot"] (spD K F_depth) := by
  have G_ask_points := ok_ask_points (P := P) (w := w) (base := base) T
  have G_ask_spot := ok_ask_spot (P := P) (w := w) (base := base) T
  have G_seen_from := ok_seen_from (P := P) (w := w) (base := base) T
  have G_leanings := ok_leanings (P := P) (w := w) (base := base) T
  have G_counted := ok_counted (P := P) (w := w) (base := base) T
  refine ok_D (k := 2) T.F_depth sc_depth (by rintro _ _ ⟨_, _, rfl, _⟩; rfl) (fun cdv A outer s H E hr ds res hF => ?_)
  refine ⟨_, (pss_cons (ps_expr (pe_call G_ask_points (hr.mono (by decide)) (by rfl) T.g_ask_points T.F_ask_points.kp T.b_ask_points .nil pass0 (pa_cons (pv 0) pa_nil)))
      (pss_cons (ps_expr (pe_call G_ask_spot (hr.mono (by decide)) (by rfl) T.g_ask_spot T.F_ask_spot.kp T.b_ask_spot .nil pass0 (pa_cons (pv 1) pa_nil)))
      (pss_cons (ps_set (i := 2) sc_depth.nd rfl (Or.inl rfl) (pe_call G_seen_from (hr.mono (by decide)) (by rfl) T.g_seen_from T.F_seen_from.kp T.b_seen_from .nil pass0 (pa_cons (pv 0) (pa_cons (pv 1) pa_nil))))
      (pss_cons (ps_set (i := 3) sc_depth.nd rfl (Or.inl rfl) pe_non)
      (pss_cons (ps_for PassesOwn.never rfl (pi_list (pe_call G_leanings (hr.mono (by decide)) (by rfl) T.g_leanings T.F_leanings.kp T.b_leanings .nil pass0 (pa_cons (pv 2) pa_nil))) (pg_tup rfl (pgs_cons (pg_name (i := 4) sc_depth.nd rfl (Or.inl rfl)) (pgs_cons (pg_name (i := 5) sc_depth.nd rfl (Or.inl rfl)) pgs_nil))) (pss_cons (ps_set (i := 6) sc_depth.nd rfl (Or.inl rfl) (pe_call G_counted (hr.mono (by decide)) (by rfl) T.g_counted T.F_counted.kp T.b_counted .nil pass0 (pa_cons (pv 2) (pa_cons (pv 4) (pa_cons (pv 5) pa_nil)))))
      (pss_one (ps_if (PW.pt (pw_or (pt_cmpR op_isN (pv 3) pe_non (nomark _)) (pw_or1 (pt_cmpR op_lt (pv 6) (pe_ix ix_seq (pv 3) pe_int (fun _ _ => rfl)) (nomark _))))) (pss_cons (ps_set (i := 7) sc_depth.nd rfl (Or.inl rfl) (pe_tup (pa_cons (pe_op op_mul (pv 4) (pe_ix ix_seq (pv 1) pe_int (fun _ _ => rfl))) (pa_cons (pe_op op_mul (pv 5) (pe_ix ix_seq (pv 1) pe_int (fun _ _ => rfl))) (pa_cons (pe_op op_sub (pe_op op_sub pe_int (pe_op op_mul (pv 4) (pe_ix ix_seq (pv 1) pe_int (fun _ _ => rfl)))) (pe_op op_mul (pv 5) (pe_ix ix_seq (pv 1) pe_int (fun _ _ => rfl)))) pa_nil)))))
      (pss_one (ps_set (i := 3) sc_depth.nd rfl (Or.inl rfl) (pe_tup (pa_cons (pv 6) (pa_cons (pv 7) pa_nil)))))) pss_nil))))
      (pss_one (ps_ret (pv 3)))))))), ?_⟩
  obtain ⟨ps, u, rfl, hl, hn, ok, hu, rfl⟩ := hF
  have hps : Nears ps := ⟨by omega, hn⟩
  have hW := waysFrom_big hps hu
  have ux : ∀ (e : SE), e[1]? = some (.dat (wD u)) → EvX K (tOp (rIx K) (tVar 1) (tC (.int 0))) e (.int u.1) ∧ EvX K (tOp (rIx K) (tVar 1) (tC (.int 1))) e (.int u.2.1) ∧ EvX K (tOp (rIx K) (tVar 1) (tC (.int 2))) e (.int u.2.2) := fun e h => ⟨ex_ixT (ds := [.int u.1, .int u.2.1, .int u.2.2]) (ex_var h) ex_int rfl, ex_ixT (ds := [.int u.1, .int u.2.1, .int u.2.2]) (ex_var h) ex_int rfl, ex_ixT (ds := [.int u.1, .int u.2.1, .int u.2.2]) (ex_var h) ex_int rfl⟩
  refine rx_seq (rx_drop (ex_call (ea_cons (ex_var rfl) ea_nil) ⟨⟨ps, rfl, hl, hn⟩, rfl⟩)) (rx_seq (rx_drop (ex_call (ea_cons (ex_var rfl) ea_nil) ⟨⟨u, rfl, ok⟩, rfl⟩)) ?_)
  refine rx_seq (e1 := [.dat (ptsD ps), .dat (wD u), .dat (ptsD (waysFrom ps u)), .no, .no, .no, .no, .no]) (rx_asg (ex_new (xf_call (ea_cons (ex_var rfl) (ea_cons (ex_var rfl) ea_nil)) ⟨ps, u, rfl, hps, rfl⟩)) rfl) ?_
  refine rx_seq (e1 := [.dat (ptsD ps), .dat (wD u), .dat (ptsD (waysFrom ps u)), .dat .none, .no, .no, .no, .no]) (rx_asg ex_non rfl) ?_
  unfold SpotB at hu
  generalize waysFrom ps u = ws at hW ⊢
  refine rx_seq (e1 := [.dat (ptsD ps), .dat (wD u), .dat (ptsD ws), .dat (bestD u (HP.bestOf ws)), .no, .no, .no, .no]) (rx_forF (ds := (HP.leanings ws).map ptD) (xf_call (ea_cons (ex_var rfl) ea_nil) ⟨ws, rfl, hW, rfl⟩) (lfree_pts _) (fr_fold ptD (fun b => [.dat (ptsD ps), .dat (wD u), .dat (ptsD ws), .dat (bestD u b), .no, .no, .no, .no]) (HP.bestStep ws) none (HP.leanings ws) fun pre post m hp => ?_)) (rx_ret (ex_var rfl))
  generalize pre.foldl (HP.bestStep ws) none = b
  refine ⟨[.dat (ptsD ps), .dat (wD u), .dat (ptsD ws), .dat (bestD u b), .dat (.int m.1), .dat (.int m.2), .no, .no], tg_tup (tgs_name (tgs_name tgs_nil)) rfl, ?_⟩
  refine rx_seq (e1 := [.dat (ptsD ps), .dat (wD u), .dat (ptsD ws), .dat (bestD u b), .dat (.int m.1), .dat (.int m.2), .dat (.int (HP.counted ws m : Nat)), .no]) (rx_asg (ex_call (ea_cons (ex_var rfl) (ea_cons (ex_var rfl) (ea_cons (ex_var rfl) ea_nil))) ⟨ws, m, rfl, hW, rfl⟩) rfl) ?_
  have store : ∀ b, RunX K (tSeq (tAsg (tTup (tCons (tOp (rI CMul fun i j => V.int (i * j)) (tVar 4) (tOp (rIx K) (tVar 1) (tC (.int 2)))) (tCons (tOp (rI CMul fun i j => V.int (i * j)) (tVar 5) (tOp (rIx K) (tVar 1) (tC (.int 2)))) (tCons (tOp (rI0 fun i j => V.int (i - j)) (tOp (rI0 fun i j => V.int (i - j)) (tC (.int 0)) (tOp (rI CMul fun i j => V.int (i * j)) (tVar 4) (tOp (rIx K) (tVar 1) (tC (.int 0))))) (tOp (rI CMul fun i j => V.int (i * j)) (tVar 5) (tOp (rIx K) (tVar 1) (tC (.int 1))))) tNil)))) (gName 7)) (tAsg (tTup (tCons (tVar 6) (tCons (tVar 7) tNil))) (gName 3)))
      [.dat (ptsD ps), .dat (wD u), .dat (ptsD ws), .dat (bestD u b), .dat (.int m.1), .dat (.int m.2), .dat (.int (HP.counted ws m : Nat)), .no] (.nx [.dat (ptsD ps), .dat (wD u), .dat (ptsD ws), .dat (bestD u (some (HP.counted ws m, m))), .no, .no, .no, .no]) := fun b => by
    refine rx_seq (e1 := [.dat (ptsD ps), .dat (wD u), .dat (ptsD ws), .dat (bestD u b), .dat (.int m.1), .dat (.int m.2), .dat (.int (HP.counted ws m : Nat)), .dat (wD (lineOf u m))]) (rx_asg (ex_is (ex_tup (ea_cons (ex_I (g := fun i j => i * j) (ex_var rfl) (ux _ rfl).2.2 (by right; omega)) (ea_cons (ex_I (g := fun i j => i * j) (ex_var rfl) (ux _ rfl).2.2 (by right; omega)) (ea_cons (ex_I0 (g := fun i j => i - j) (ex_I0 (g := fun i j => i - j) ex_int (ex_I (g := fun i j => i * j) (ex_var rfl) (ux _ rfl).1 (by right; omega))) (ex_I (g := fun i j => i * j) (ex_var rfl) (ux _ rfl).2.1 (by right; omega))) ea_nil))) (Nat.le_of_ble_eq_true rfl)) rfl) rfl) ?_
    exact rx_post (rx_asg (d := bestD u (some (HP.counted ws m, m))) (ex_tup (ea_cons (ex_var rfl) (ea_cons (ex_var rfl) ea_nil)) (Nat.le_of_ble_eq_true rfl)) rfl) (.keep (.keep (.keep (.keep (.drop (.drop (.drop (.drop .nil))))))))
  cases b with
  | none =>
    exact rx_if (b := true) (xt_is (xt_or (a := true) (b := true) (xt_test (ex_isN (d := .none) (ex_var rfl))) fun e => by cases e) rfl) (fun _ => store none) (fun e => by cases e)
  | some x =>
    obtain ⟨k, m'⟩ := x
    have test : EvTX K (tOr (tTest (tOp (fun x y H Q => y = .non ∧ Q (.bl (decide (x = .non))) H) (tVar 3) (tC .non))) (tTest (tOp (rI0 fun i j => V.bl (decide (i < j))) (tVar 6) (tOp (rIx K) (tVar 3) (tC (.int 0)))))) [.dat (ptsD ps), .dat (wD u), .dat (ptsD ws), .dat (bestD u (some (k, m'))), .dat (.int m.1), .dat (.int m.2), .dat (.int (HP.counted ws m : Nat)), .no] (decide (HP.counted ws m < k)) :=
      xt_is (xt_or (a := false) (b := decide (((HP.counted ws m : Nat) : Int) < (k : Nat))) (xt_test (ex_isN (d := bestD u (some (k, m'))) (ex_var rfl))) fun _ => xt_test (ex_B0 (g := fun i j => decide (i < j)) (ex_var rfl) (ex_ixT (ds := [.int (k : Nat), wD (lineOf u m')]) (ex_var rfl) ex_int rfl))) (by
        rw [Bool.false_or]
        exact decide_eq_decide.mpr (by omega))
    unfold HP.bestStep
    simp only
    refine rx_if test (fun e => ?_) (fun e => ?_)
    · rw [if_pos (of_decide_eq_true e)]
      exact store _
    · rw [if_neg (of_decide_eq_false e)]
      exact rx_post rx_next (.keep (.keep (.keep (.keep (.drop (.drop (.drop (.drop .nil))))))))

def middleS (ps : List HP.Pt) (u : HP.W) : Prop := (ps.length < 4 ∧ u = ((HP.atN ps 0).1, (HP.atN ps 0).2, 1)) ∨ (4 ≤ ps.length ∧ ∃ sp ∈ HP.splits, ∃ m : HP.Meet, HP.meeting (HP.sel (ps.take 4) sp.1) (HP.sel (ps.take 4) sp.2) = some m ∧ u = m.1)
def middleD (ps : List HP.Pt) : PyData := if ps.length < 4 then wD ((HP.atN ps 0).1, (HP.atN ps 0).2, 1) else match fourP (ps.take 4) with
  | [_, _, .inl d] => d
  | _ => .none
def F_middle : List PyData → PyData → Prop := fun ds d => ∃ (ps : List HP.Pt), ds = [ptsD ps] ∧ 1 ≤ ps.length ∧ ps.length ≤ 6 ∧ (∀ q ∈ ps, Near q) ∧ d = middleD ps
theorem ok_middle {P : Program} {w : World} {K : PySem.W.Frag} {mg : Str → Option Value} {base : Heap} {ad : Ad} (T : Txt K mg ad) : FnOk P w K mg base CX0 9 ad.a_middle ad.d_middle ["points"] (spD K F_middle) := by
  have G_ask_points := ok_ask_points (P := P) (w := w) (base := base) T
  have G_four_parted := ok_four_parted (P := P) (w := w) (base := base) T
  refine ok_D (k := 8) T.F_middle sc_middle (by rintro _ _ ⟨_, rfl, _⟩; rfl) (fun cdv A outer s H E hr ds res hF => ?_)
  refine ⟨_, (pss_cons (ps_expr (pe_call G_ask_points (hr.mono (by decide)) (by rfl) T.g_ask_points T.F_ask_points.kp T.b_ask_points .nil pass0 (pa_cons (pv 0) pa_nil)))
      (pss_cons (ps_if (pt_not (pt_chain op_le op_le pe_int (pe_callB call_len (by rfl) T.n_len PySem.boot_len (pa_cons (pv 0) pa_nil)) pe_int)) (pss_one ps_never) pss_nil)
      (pss_cons (ps_if (pt_cmpR op_lt (pe_callB call_len (by rfl) T.n_len PySem.boot_len (pa_cons (pv 0) pa_nil)) pe_int (nomark _)) (pss_one (ps_ret (pe_tup (pa_cons (pe_ix ix_seq (pe_ix ix_seq (pv 0) pe_int (fun _ _ => rfl)) pe_int (fun _ _ => rfl)) (pa_cons (pe_ix ix_seq (pe_ix ix_seq (pv 0) pe_int (fun _ _ => rfl)) pe_int (fun _ _ => rfl)) (pa_cons pe_int pa_nil)))))) pss_nil)
      (pss_one (ps_ret (pe_ix ix_seq (pe_call G_four_parted (hr.mono (by decide)) (by rfl) T.g_four_parted T.F_four_parted.kp T.b_four_parted .nil pass0 (pa_cons (pe_slice sl_list (pv 0) po_none (po_some pe_int)) pa_nil)) pe_int (fun _ _ => rfl))))))), ?_⟩
  obtain ⟨ps, rfl, h1, h6, hn, rfl⟩ := hF
  refine rx_seq (rx_drop (ex_call (ea_cons (ex_var rfl) ea_nil) ⟨⟨ps, rfl, by omega, hn⟩, rfl⟩)) ?_
  refine rx_ifS (b := false) (xt_is (xt_not (xt_test (ex_chainI (g := fun i j => decide (i ≤ j)) (g' := fun i j => decide (i ≤ j)) ex_int (ex_len (ex_var rfl) rfl) ex_int))) (by rw [List.length_map, decide_eq_true (by omega), decide_eq_true (by omega)]; rfl)) (fun e => by cases e) (fun _ => rx_nextS ?_)
  unfold middleD
  refine rx_ifS (b := decide (ps.length < 4)) (xt_is (xt_test (ex_B0 (g := fun i j => decide (i < j)) (ex_len (ex_var rfl) rfl) ex_int)) (by rw [List.length_map]; exact decide_eq_decide.mpr (by omega))) (fun e => ?_) (fun e => rx_nextS ?_)
  · rw [if_pos (of_decide_eq_true e)]
    have p0 : ∀ e : SE, e[0]? = some (.dat (ptsD ps)) → EvX K (tOp (rIx K) (tVar 0) (tC (.int 0))) e (ptD (HP.atN ps 0)) := fun e h => ex_ixL (ex_var h) ex_int (atI_pts (i := 0) (by omega) (by omega))
    refine rx_end (rx_ret (ex_is (ex_tup (ea_cons (ex_ixT (ds := [.int (HP.atN ps 0).1, .int (HP.atN ps 0).2]) (p0 _ rfl) ex_int rfl) (ea_cons (ex_ixT (ds := [.int (HP.atN ps 0).1, .int (HP.atN ps 0).2]) (p0 _ rfl) ex_int rfl) (ea_cons ex_int ea_nil))) (Nat.le_of_ble_eq_true rfl)) rfl)) rfl
  · have h4 : 4 ≤ ps.length := by have := of_decide_eq_false e; omega
    rw [if_neg (of_decide_eq_false e)]
    obtain ⟨sp, hsp, m, hm, hf⟩ := four_cases (ps.take 4)
    have hP : fourP (ps.take 4) = [.inr ((litI sp.1).map PyData.int), .inr ((litI sp.2).map PyData.int), .inl (wD m.1)] := by unfold fourP; rw [hf]; rfl
    rw [hP]
    have cut4 : cutD (ps.map ptD) none (some 4) = (ps.take 4).map ptD := by
      unfold cutD
      rw [HT.sIx_none, List.drop_zero, Nat.sub_zero, List.map_take]
      show (ps.map ptD).take (HT.sIx (ps.map ptD).length (ps.map ptD).length (some ((4 : Nat) : Int))) = _
      rw [HT.sIx_nat, List.length_map, Nat.min_eq_left h4]
    refine rx_ret (ex_ixT (ds := [.list ((litI sp.1).map PyData.int), .list ((litI sp.2).map PyData.int), wD m.1]) (ex_callR (d := .tuple [.list ((litI sp.1).map PyData.int), .list ((litI sp.2).map PyData.int), wD m.1]) (ea_cons (ex_new (xf_is (xf_sl (ex_var rfl) eo_no (eo_at ex_int)) cut4)) ea_nil) ⟨ps.take 4, rfl, by rw [List.length_take]; omega, fun q hq => hn q (List.mem_of_mem_take hq), rfl⟩ fun Hm v H h => ?_) ex_int rfl)
    have := RT.rp h
    rw [hP] at this
    exact this

/-! ### texts -/
def figs (w : Str) : Str := if (cutS w none (some 1) == ("-" : Str)) = true then cutS w (some 1) none else w
def goodS (i : Int) : Bool :=
  decide ((sI i).length ≤ 5) && !((sI i).cps.toList.contains 32) && !((sI i).cps.toList.contains 44) && decide (1 ≤ (figs (sI i)).length) && decide ((figs (sI i)).length ≤ 4) &&
  (!(((figs (sI i)).cps.toList[0]?) == some 48) || ((sI i) == ("0" : Str))) && (figs (sI i)).cps.toList.all (fun c => (("0123456789" : Str).cps.toList.contains c)) && (PySem.intText? (sI i) == some i) && (sI i).cps.all (· < 256)
theorem good_all : ∀ k : Nat, k < 2001 → goodS ((k : Int) - 1000) = true := by decide +kernel
structure Good1 (i : Int) : Prop where
  len : (sI i).length ≤ 5
  noBlank : 32 ∉ (sI i).cps.toList
  noComma : 44 ∉ (sI i).cps.toList
  f1 : 1 ≤ (figs (sI i)).length
  f4 : (figs (sI i)).length ≤ 4
  zero : (figs (sI i)).cps.toList[0]? = some 48 → sI i = ("0" : Str)
  figures : ∀ c ∈ (figs (sI i)).cps.toList, c ∈ ("0123456789" : Str).cps.toList
  back : PySem.intText? (sI i) = some i
  low : ∀ c ∈ (sI i).cps.toList, c < 256
theorem good1 {i : Int} (h : -1000 ≤ i ∧ i ≤ 1000) : Good1 i := by
  have e : ((i + 1000).toNat : Int) - 1000 = i := by omega
  have g := good_all (i + 1000).toNat (by omega)
  rw [e] at g
  unfold goodS at g
  simp only [Bool.and_eq_true, decide_eq_true_eq, Bool.not_eq_true', Bool.or_eq_true, beq_iff_eq, List.all_eq_true] at g
  obtain ⟨⟨⟨⟨⟨⟨⟨⟨g1, g2⟩, g3⟩, g4⟩, g5⟩, g6⟩, g7⟩, g8⟩, g9⟩ := g
  refine ⟨g1, fun k => ?_, fun k => ?_, g4, g5, fun k => ?_, fun c hc => ?_, g8, fun c hc => ?_⟩
  · have := List.contains_iff_mem.mpr k
    rw [g2] at this
    cases this
  · have := List.contains_iff_mem.mpr k
    rw [g3] at this
    cases this
  · rcases g6 with h6 | h6
    · rw [k] at h6
      simp at h6
    · exact h6
  · exact List.contains_iff_mem.mp (g7 c hc)
  · rw [Array.all_eq_true'] at g9
    exact of_decide_eq_true (g9 c (by simpa using hc))
def ptxt (p : HP.Pt) : Str := sI p.1 ++ ("," : Str) ++ sI p.2
def txt (ps : List HP.Pt) : Str := Txt.join (" " : Str) (ps.map ptxt)
theorem ptxt_len {p : HP.Pt} (h : Near p) : (ptxt p).length ≤ 11 := by
  unfold Near at h
  have h1 := (good1 (i := p.1) ⟨h.1, h.2.1⟩).len
  have h2 := (good1 (i := p.2) ⟨h.2.2.1, h.2.2.2⟩).len
  unfold ptxt
  rw [Str.length_append, Str.length_append]
  have : ("," : Str).length = 1 := by decide +kernel
  omega
theorem sum_len : ∀ {l : List HP.Pt}, (∀ p ∈ l, Near p) → ((l.map ptxt).map (·.length)).sum ≤ l.length * 11
  | [], _ => by simp
  | p :: l, h => by
    have h1 := ptxt_len (h p (by simp))
    have h2 := sum_len fun q hq => h q (List.mem_cons_of_mem _ hq)
    simp only [List.map_cons, List.sum_cons, List.length_cons]
    omega
/-- signs below 256 -/
def LowS (x : Str) : Prop := ∀ c ∈ x.cps.toList, c < 256
theorem shaped_str {x : Str} (h : LowS x) : SeqAt.shaped (.str x) = true := by
  show (PyData.canLay0 (.str x) && decide (PyData.depth (.str x) ≤ 64)) = true
  rw [Bool.and_eq_true]
  refine ⟨?_, decide_eq_true (by simp only [PyData.depth]; omega)⟩
  simp only [PyData.canLay0]
  show x.cps.all (· < 0x110000) = true
  rw [Array.all_eq_true']
  intro c hc
  have := h c (by simpa using hc)
  exact decide_eq_true (by omega)
theorem LowS.app {a b : Str} (h1 : LowS a) (h2 : LowS b) : LowS (a ++ b) := fun c hc => by
  have e : (a ++ b).cps.toList = a.cps.toList ++ b.cps.toList := TL.tl_append a b
  rw [e] at hc
  exact (List.mem_append.mp hc).elim (h1 c) (h2 c)
theorem LowS.cut {a : Str} (h : LowS a) (lo hi : Option Int) : LowS (cutS a lo hi) := fun c hc => by
  unfold cutS at hc
  simp only at hc
  exact h c (List.mem_of_mem_drop (List.mem_of_mem_take hc))
theorem ex_ptxt {K : PySem.W.Frag} {env : SE} {i : Nat} {p : HP.Pt} (h : env[i]? = some (.dat (ptD p))) (hp : Near p) :
    EvX K (tOp (fun x y H Q => ∃ i j, x = .str i ∧ y = .str j ∧ i.length + j.length ≤ sizeLine ∧ Q (.str (i ++ j)) H) (tOp (fun x y H Q => ∃ i j, x = .str i ∧ y = .str j ∧ i.length + j.length ≤ sizeLine ∧ Q (.str (i ++ j)) H) (tCB (fun xs H Q => ∃ i : Int, xs = [.int i] ∧ i.natAbs.log2 < 1920 ∧ Q (.str (toString i)) H) (tCons (tOp (rIx K) (tVar i) (tC (.int 0))) tNil)) (tC (.str ","))) (tCB (fun xs H Q => ∃ i : Int, xs = [.int i] ∧ i.natAbs.log2 < 1920 ∧ Q (.str (toString i)) H) (tCons (tOp (rIx K) (tVar i) (tC (.int 1))) tNil))) env (.str (ptxt p)) := by
  unfold Near at hp
  have h1 := (good1 (i := p.1) ⟨hp.1, hp.2.1⟩).len
  have h2 := (good1 (i := p.2) ⟨hp.2.2.1, hp.2.2.2⟩).len
  have lg : ∀ x : Int, x.natAbs ≤ 1000 → x.natAbs.log2 < 1920 := fun x hx => by
    have := Nat.log2_le_self x.natAbs
    omega
  have hc : ("," : Str).length = 1 := by decide +kernel
  have z1 : (sI p.1).length + ("," : Str).length ≤ sizeLine := by rw [sizeLine_eq]; omega
  have z2 : (sI p.1 ++ ("," : Str)).length + (sI p.2).length ≤ sizeLine := by rw [sizeLine_eq, Str.length_append]; omega
  exact ex_catS (ex_catS (ex_strI (ex_ixT (ds := [.int p.1, .int p.2]) (ex_var h) ex_int rfl) (lg _ (by omega))) ex_str z1) (ex_strI (ex_ixT (ds := [.int p.1, .int p.2]) (ex_var h) ex_int rfl) (lg _ (by omega))) z2
theorem ptxt_low {p : HP.Pt} (h : Near p) : LowS (ptxt p) := by
  unfold Near at h
  have hc : LowS ("," : Str) := by unfold LowS; decide +kernel
  have h1 : LowS (sI p.1) := (good1 (i := p.1) ⟨h.1, h.2.1⟩).low
  have h2 : LowS (sI p.2) := (good1 (i := p.2) ⟨h.2.2.1, h.2.2.2⟩).low
  exact (h1.app hc).app h2
theorem txt_low {ps : List HP.Pt} (h : ∀ q ∈ ps, Near q) : LowS (txt ps) := by
  have hb : ∀ c ∈ TL.tl (" " : Str), c < 256 := by decide +kernel
  have key : ∀ l : List HP.Pt, (∀ q ∈ l, Near q) → ∀ c ∈ TL.joinL (TL.tl (" " : Str)) ((l.map ptxt).map TL.tl), c < 256 := by
    intro l
    induction l with
    | nil => intro _ c hc; simp [TL.joinL] at hc
    | cons p l ih =>
      intro hh c hc
      have h1 : ∀ c ∈ TL.tl (ptxt p), c < 256 := ptxt_low (hh p (by simp))
      cases l with
      | nil => exact h1 c hc
      | cons q l =>
        have hc' : c ∈ TL.tl (ptxt p) ++ (TL.tl (" " : Str) ++ TL.joinL (TL.tl (" " : Str)) (((q :: l).map ptxt).map TL.tl)) := hc
        rcases List.mem_append.mp hc' with k | k
        · exact h1 c k
        · rcases List.mem_append.mp k with k | k
          · exact hb c k
          · exact ih (fun r hr => hh r (List.mem_cons_of_mem _ hr)) c k
  intro c hc
  have hc' : c ∈ TL.tl (txt ps) := hc
  unfold txt at hc'
  rw [TL.join_eq, TL.tl_join] at hc'
  exact key ps h c hc'
def F_shown : List PyData → PyData → Prop := fun ds d => ∃ ps : List HP.Pt, ds = [ptsD ps] ∧ ps.length ≤ 12 ∧ (∀ q ∈ ps, Near q) ∧ d = .str (txt ps)
theorem lc_txt (ps : List HP.Pt) : lcRes (fun _ : HP.Pt => true) (fun p => PyData.str (ptxt p)) ps = (ps.map ptxt).map PyData.str := by
  unfold lcRes
  rw [List.filter_eq_self.mpr fun _ _ => rfl, List.map_map]
  rfl
theorem ok_shown {P : Program} {w : World} {K : PySem.W.Frag} {mg : Str → Option Value} {base : Heap} {ad : Ad} (T : Txt K mg ad) : FnOk P w K mg base CX0 3 ad.a_shown ad.d_shown ["points"] (spD K F_shown) := by
  have G_ask_points := ok_ask_points (P := P) (w := w) (base := base) T
  refine ok_D (k := 2) T.F_shown sc_shown (by rintro _ _ ⟨_, rfl, _⟩; rfl) (fun cdv A outer s H E hr ds res hF => ?_)
  refine ⟨_, (pss_cons (ps_expr (pe_call G_ask_points (hr.mono (by decide)) (by rfl) T.g_ask_points T.F_ask_points.kp T.b_ask_points .nil pass0 (pa_cons (pv 0) pa_nil)))
      (pss_one (ps_ret (pe_join pe_str (pe_lcA (own := [("point", 1)]) rfl sc_shown.nd (pi_list (pv 0)) (blkOk_by (own := [("point", 1)]) (N := N_shown) (sc := defScope s_shown) (by decide +kernel)) (fun _ _ _ _ _ => (pg_name (i := 1) sc_shown.nd rfl (Or.inl rfl) (hf := Or.inr rfl))) (fun _ _ _ _ _ => pts_nil) (fun _ _ _ _ _ => (pe_op op_add_str (pe_op op_add_str (pe_callTy call_str_int (by rfl) T.n_str (by decide +kernel) (pa_cons (pe_ix ix_seq (pv 1) pe_int (fun _ _ => rfl)) pa_nil)) pe_str) (pe_callTy call_str_int (by rfl) T.n_str (by decide +kernel) (pa_cons (pe_ix ix_seq (pv 1) pe_int (fun _ _ => rfl)) pa_nil))))))))), ?_⟩
  obtain ⟨ps, rfl, hl, hn, rfl⟩ := hF
  refine rx_seq (rx_drop (ex_call (ea_cons (ex_var rfl) ea_nil) ⟨⟨ps, rfl, hl, hn⟩, rfl⟩)) ?_
  have hs := sum_len hn
  have hb : (" " : Str).length = 1 := by decide +kernel
  refine rx_ret (ex_join (ys := ps.map ptxt) ex_str (ex_new (xf_is (xf_lc ps ptD (fun _ => true) (fun p => .str (ptxt p)) (fun p => [.dat (ptsD ps), .dat (ptD p)]) (ex_var rfl) rfl (by omega) (fun p _ => cg_name (by decide) rfl) (fun p _ => xt_true) (fun p hp _ => ex_ptxt (i := 1) rfl (hn p hp)) (fun _ _ _ => rfl)) (lc_txt ps))) ?_)
  rw [List.length_map, hb]
  omega

/-! ### the law's own words -/
def cell (ns : List Int) (k : Nat) : Int := ns.getD k 0
def F__law_cell_at : List PyData → PyData → Prop := fun ds d => ∃ (ns : List Int) (s : PyData) (k : Nat), ds = [s, .int (k : Nat)] ∧ SeqI ns s ∧ d = .int (cell ns k)
theorem ok__law_cell_at {P : Program} {w : World} {K : PySem.W.Frag} {mg : Str → Option Value} {base : Heap} {ad : Ad} (T : Txt K mg ad) : FnOk P w K mg base CX0 1 ad.a__law_cell_at ad.d__law_cell_at ["script", "k"] (spD K F__law_cell_at) := by
  refine ok_D (k := 0) T.F__law_cell_at sc__law_cell_at (by rintro _ _ ⟨_, _, _, rfl, _⟩; rfl) (fun cdv A outer s H E hr ds res hF => ?_)
  refine ⟨_, (pss_cons (ps_if (pt_cmpR op_lt (pv 1) (pe_callB call_len (by rfl) T.n_len PySem.boot_len (pa_cons (pv 0) pa_nil)) (nomark _)) (pss_one (ps_ret (pe_ix ix_seq (pv 0) (pv 1) (fun _ _ => rfl)))) pss_nil)
      (pss_one (ps_ret pe_int))), ?_⟩
  obtain ⟨ns, sd, k, rfl, hs, rfl⟩ := hF
  refine rx_ifS (b := decide ((k : Int) < (ns.length : Nat))) (xt_test (ex_B0 (g := fun i j => decide (i < j)) (ex_var rfl) (ex_lenI hs (ex_var rfl)))) (fun e => ?_) (fun e => rx_nextS ?_)
  · have hk : k < ns.length := by have := of_decide_eq_true e; omega
    refine rx_end (rx_ret (ex_ixI hs (ex_var rfl) (ex_var rfl) ?_)) rfl
    refine atI_nat ?_
    unfold cell
    rw [List.getD_eq_getElem?_getD, List.getElem?_eq_getElem hk]
    rfl
  · have hk : ns.length ≤ k := by have := of_decide_eq_false e; omega
    refine rx_ret (ex_is ex_int ?_)
    unfold cell
    rw [List.getD_eq_getElem?_getD, List.getElem?_eq_none hk]
    rfl

def nextL (s : Int) : Int := (((s + 7919) % 2147483647) * ((s + 7919) % 2147483647) + 48271 * ((s + 7919) % 2147483647) + 12345) % 2147483629
def F__law_next : List PyData → PyData → Prop := fun ds d => ∃ s : Int, ds = [.int s] ∧ d = .int (nextL s)
theorem ok__law_next {P : Program} {w : World} {K : PySem.W.Frag} {mg : Str → Option Value} {base : Heap} {ad : Ad} (T : Txt K mg ad) : FnOk P w K mg base CX0 1 ad.a__law_next ad.d__law_next ["seed"] (spD K F__law_next) := by
  refine ok_D (k := 0) T.F__law_next sc__law_next (by rintro _ _ ⟨_, rfl, _⟩; rfl) (fun cdv A outer s H E hr ds res hF => ?_)
  refine ⟨_, (pss_cons (ps_set (i := 0) sc__law_next.nd rfl (Or.inl rfl) (pe_op op_mod (pe_op op_add (pv 0) pe_int) pe_int))
      (pss_one (ps_ret (pe_op op_mod (pe_op op_add (pe_op op_add (pe_op op_mul (pv 0) (pv 0)) (pe_op op_mul pe_int (pv 0))) pe_int) pe_int)))), ?_⟩
  obtain ⟨s, rfl, rfl⟩ := hF
  refine rx_seq (e1 := [.dat (.int ((s + 7919) % 2147483647))]) (rx_asg (by wtm_at "ev") rfl) ?_
  refine rx_ret (ex_is (by wtm_at "ev") rfl)

def spanL (c : Int) : Int := if c % 4 = 0 then 2 else if c % 4 = 1 then 4 else if c % 4 = 2 then 1000 else 1
def lawPt (ns : List Int) (at_ : Nat) (k : Nat) : HP.Pt :=
  (nextL (cell ns (at_ + 2 + k % 8) + 5003 * k) / 7 % (2 * spanL (cell ns (at_ + 1)) + 1) - spanL (cell ns (at_ + 1)), nextL (cell ns (at_ + 2 + k % 8) + 5003 * k) / 7 / (2 * spanL (cell ns (at_ + 1)) + 1) % (2 * spanL (cell ns (at_ + 1)) + 1) - spanL (cell ns (at_ + 1)))
def lawBase (ns : List Int) (at_ most : Nat) : List HP.Pt := (List.range (cell ns at_ % (most + 1)).toNat).map (lawPt ns at_)
def lawPoints (ns : List Int) (at_ most : Nat) : List HP.Pt :=
  if cell ns (at_ + 1) / 4 % 5 = 1 then (lawBase ns at_ most).map fun p => (p.1, (cell ns (at_ + 2) % 3 - 1) * p.1) else lawBase ns at_ most
theorem span_bd (c : Int) : 1 ≤ spanL c ∧ spanL c ≤ 1000 := by
  unfold spanL
  by_cases h0 : c % 4 = 0
  · rw [if_pos h0]; omega
  · rw [if_neg h0]
    by_cases h1 : c % 4 = 1
    · rw [if_pos h1]; omega
    · rw [if_neg h1]
      by_cases h2 : c % 4 = 2
      · rw [if_pos h2]; omega
      · rw [if_neg h2]; omega
theorem lawPt_near (ns : List Int) (at_ k : Nat) : Near (lawPt ns at_ k) := by
  obtain ⟨h1, h2⟩ := span_bd (cell ns (at_ + 1))
  unfold lawPt Near
  generalize spanL (cell ns (at_ + 1)) = s at *
  generalize nextL _ = x
  have e1 := Int.emod_nonneg (x / 7) (show (2 * s + 1) ≠ 0 by omega)
  have e2 := Int.emod_lt_of_pos (x / 7) (show 0 < 2 * s + 1 by omega)
  have e3 := Int.emod_nonneg (x / 7 / (2 * s + 1)) (show (2 * s + 1) ≠ 0 by omega)
  have e4 := Int.emod_lt_of_pos (x / 7 / (2 * s + 1)) (show 0 < 2 * s + 1 by omega)
  generalize x / 7 % (2 * s + 1) = y at *
  generalize x / 7 / (2 * s + 1) % (2 * s + 1) = z at *
  simp only
  omega
theorem lawBase_near {ns : List Int} {at_ most : Nat} : ∀ p ∈ lawBase ns at_ most, Near p := fun p hp => by
  obtain ⟨k, _, rfl⟩ := List.mem_map.mp hp
  exact lawPt_near ns at_ k
theorem lawPoints_near {ns : List Int} {at_ most : Nat} : ∀ p ∈ lawPoints ns at_ most, Near p := fun p hp => by
  unfold lawPoints at hp
  split at hp
  · obtain ⟨q, hq, rfl⟩ := List.mem_map.mp hp
    have := lawBase_near q hq
    unfold Near at *
    have h3 : cell ns (at_ + 2) % 3 - 1 = -1 ∨ cell ns (at_ + 2) % 3 - 1 = 0 ∨ cell ns (at_ + 2) % 3 - 1 = 1 := by omega
    simp only
    rcases h3 with e | e | e <;> rw [e] <;> omega
  · exact lawBase_near p hp
theorem lawBase_len (ns : List Int) (at_ most : Nat) : (lawBase ns at_ most).length = (cell ns at_ % (most + 1)).toNat := by
  unfold lawBase
  rw [List.length_map, List.length_range]
theorem lawPoints_length (ns : List Int) (at_ most : Nat) : (lawPoints ns at_ most).length = (cell ns at_ % (most + 1)).toNat := by
  unfold lawPoints
  split
  · rw [List.length_map, lawBase_len]
  · rw [lawBase_len]
theorem cut_tail (ns : List Int) : (cutD ns (some 1) none).length ≤ ns.length := by
  unfold cutD
  rw [List.length_take, List.length_drop]
  omega
theorem lawPoints_len (ns : List Int) (at_ most : Nat) : (lawPoints ns at_ most).length ≤ most := by
  have h : (cell ns at_ % (most + 1)).toNat ≤ most := by
    have := Int.emod_lt_of_pos (cell ns at_) (show (0 : Int) < most + 1 by omega)
    omega
  unfold lawPoints
  split
  · rw [List.length_map, lawBase_len]; exact h
  · rw [lawBase_len]; exact h
theorem lawPoints_nears (ns : List Int) {at_ most : Nat} (h : most ≤ 60) : Nears (lawPoints ns at_ most) := ⟨by have := lawPoints_len ns at_ most; omega, lawPoints_near⟩
def F__law_points : List PyData → List PyData → Prop := fun ds es => ∃ (ns : List Int) (s : PyData) (at_ most : Nat), ds = [s, .int (at_ : Nat), .int (most : Nat)] ∧ SeqI ns s ∧ most ≤ 60 ∧ es = (lawPoints ns at_ most).map ptD
theorem fold_snoc {α β : Type} (f : α → β) : ∀ (l : List α) (s : List β), l.foldl (fun s a => s ++ [f a]) s = s ++ l.map f
  | [], s => by simp
  | a :: l, s => by
    rw [List.foldl_cons, fold_snoc f l]
    simp
theorem ok__law_points {P : Program} {w : World} {K : PySem.W.Frag} {mg : Str → Option Value} {base : Heap} {ad : Ad} (T : Txt K mg ad) : FnOk P w K mg base CX0 2 ad.a__law_points ad.d__law_points ["script", "at", "most"] (spF K F__law_points) := by
  have G__law_cell_at := ok__law_cell_at (P := P) (w := w) (base := base) T
  have G__law_next := ok__law_next (P := P) (w := w) (base := base) T
  refine ok_F (k := 1) T.F__law_points sc__law_points (by rintro _ _ ⟨_, _, _, _, rfl, _⟩; rfl) (fun cdv A outer s H E hr ds res hF => ?_)
  refine ⟨_, (pss_cons (ps_set (i := 3) sc__law_points.nd rfl (Or.inl rfl) (pe_op op_mod (pe_call G__law_cell_at (hr.mono (by decide)) (by rfl) T.g__law_cell_at T.F__law_cell_at.kp T.b__law_cell_at .nil pass0 (pa_cons (pv 0) (pa_cons (pv 1) pa_nil))) (pe_op op_add (pv 2) pe_int)))
      (pss_cons (ps_set (i := 4) sc__law_points.nd rfl (Or.inl rfl) (pe_ix ix_seq (pe_lst (pa_cons pe_int (pa_cons pe_int (pa_cons pe_int (pa_cons pe_int pa_nil))))) (pe_op op_mod (pe_call G__law_cell_at (hr.mono (by decide)) (by rfl) T.g__law_cell_at T.F__law_cell_at.kp T.b__law_cell_at .nil pass0 (pa_cons (pv 0) (pa_cons (pe_op op_add (pv 1) pe_int) pa_nil))) pe_int) (fun _ _ => rfl)))
      (pss_cons (ps_set (i := 5) sc__law_points.nd rfl (Or.inl rfl) (pe_lst pa_nil))
      (pss_cons (ps_for PassesOwn.never rfl (pi_range1 (by rfl) T.n_range (pa_cons (pv 3) pa_nil)) (pg_name (i := 6) sc__law_points.nd rfl (Or.inl rfl)) (pss_cons (ps_set (i := 7) sc__law_points.nd rfl (Or.inl rfl) (pe_call G__law_next (hr.mono (by decide)) (by rfl) T.g__law_next T.F__law_next.kp T.b__law_next .nil pass0 (pa_cons (pe_op op_add (pe_call G__law_cell_at (hr.mono (by decide)) (by rfl) T.g__law_cell_at T.F__law_cell_at.kp T.b__law_cell_at .nil pass0 (pa_cons (pv 0) (pa_cons (pe_op op_add (pe_op op_add (pv 1) pe_int) (pe_op op_mod (pv 6) pe_int)) pa_nil))) (pe_op op_mul pe_int (pv 6))) pa_nil)))
      (pss_cons (ps_set (i := 8) sc__law_points.nd rfl (Or.inl rfl) (pe_op op_add (pe_op op_mul pe_int (pv 4)) pe_int))
      (pss_one (ps_expr (pe_bm PySem.F.plainAttrs_list PySem.F.slot_list_append PySem.F.type_list_append mt_append (pv 5) (pa_cons (pe_tup (pa_cons (pe_op op_sub (pe_op op_mod (pe_op op_fdiv (pv 7) pe_int) (pv 8)) (pv 4)) (pa_cons (pe_op op_sub (pe_op op_mod (pe_op op_fdiv (pe_op op_fdiv (pv 7) pe_int) (pv 8)) (pv 8)) (pv 4)) pa_nil))) pa_nil)))))))
      (pss_cons (ps_if (pt_cmpR (op_eqD hr.units) (pe_op op_mod (pe_op op_fdiv (pe_call G__law_cell_at (hr.mono (by decide)) (by rfl) T.g__law_cell_at T.F__law_cell_at.kp T.b__law_cell_at .nil pass0 (pa_cons (pv 0) (pa_cons (pe_op op_add (pv 1) pe_int) pa_nil))) pe_int) pe_int) pe_int (nomark _)) (pss_cons (ps_set (i := 9) sc__law_points.nd rfl (Or.inr rfl) (pe_op op_sub (pe_op op_mod (pe_call G__law_cell_at (hr.mono (by decide)) (by rfl) T.g__law_cell_at T.F__law_cell_at.kp T.b__law_cell_at .nil pass0 (pa_cons (pv 0) (pa_cons (pe_op op_add (pv 1) pe_int) pa_nil))) pe_int) pe_int))
      (pss_one (ps_setLcA (i := 5) (own := [("point", 10)]) rfl sc__law_points.nd rfl rfl (sw_true rfl rfl rfl (by decide +kernel)) (pi_list (pv 5)) (blkOk_by (own := [("point", 10)]) (N := N__law_points) (sc := defScope s__law_points) (by decide +kernel)) (fun _ _ _ _ _ => (pg_name (i := 10) sc__law_points.nd rfl (Or.inl rfl) (hf := Or.inr rfl))) (fun _ _ _ _ _ => pts_nil) (fun _ _ _ _ _ => (pe_tup (pa_cons (pe_ix ix_seq (pv 10) pe_int (fun _ _ => rfl)) (pa_cons (pe_op op_mul (pv 9) (pe_ix ix_seq (pv 10) pe_int (fun _ _ => rfl))) pa_nil))))))) pss_nil)
      (pss_one (ps_ret (pv 5)))))))), ?_⟩
  obtain ⟨ns, sd, at_, most, rfl, hs, hm, rfl⟩ := hF
  have cl : ∀ (e : SE) (j : Int) (k : Nat) (te : TE), e[0]? = some (.dat sd) → EvX K te e (.int j) → j = (k : Nat) → EvX K (tCall (spD K F__law_cell_at) [] E0 (tCons (tVar 0) (tCons te tNil))) e (.int (cell ns k)) := fun e j k te h0 hj ek => ex_call (ea_cons (ex_var h0) (ea_cons hj ea_nil)) ⟨ns, sd, k, by rw [ek], hs, rfl⟩
  obtain ⟨s1, s2⟩ := span_bd (cell ns (at_ + 1))
  generalize hsp : spanL (cell ns (at_ + 1)) = span at *
  have hmany0 := Int.emod_nonneg (cell ns at_) (show ((most : Int) + 1) ≠ 0 by omega)
  have hmany1 := Int.emod_lt_of_pos (cell ns at_) (show (0 : Int) < most + 1 by omega)
  generalize hmn : cell ns at_ % (most + 1) = many at *
  refine rx_seq (e1 := [.dat sd, .dat (.int (at_ : Nat)), .dat (.int (most : Nat)), .dat (.int many), .no, .no, .no, .no, .no, .no, .no]) (rx_asg (ex_is (ex_I (g := fun i j => i % j) (cl _ _ at_ _ rfl (ex_var rfl) rfl) (ex_I0 (g := fun i j => i + j) (ex_var rfl) ex_int) (by omega)) (by rw [hmn])) rfl) ?_
  refine rx_seq (e1 := [.dat sd, .dat (.int (at_ : Nat)), .dat (.int (most : Nat)), .dat (.int many), .dat (.int span), .no, .no, .no, .no, .no, .no]) (rx_asg (ex_ixL (ex_new (xf_lst (ea_cons ex_int (ea_cons ex_int (ea_cons ex_int (ea_cons ex_int ea_nil)))) (Nat.le_of_ble_eq_true rfl))) (ex_I (g := fun i j => i % j) (cl _ _ (at_ + 1) _ rfl (ex_I0 (g := fun i j => i + j) (ex_var rfl) ex_int) (by omega)) ex_int (by omega)) ?_) rfl) ?_
  · rw [← hsp]
    have h4 : cell ns (at_ + 1) % 4 = 0 ∨ cell ns (at_ + 1) % 4 = 1 ∨ cell ns (at_ + 1) % 4 = 2 ∨ cell ns (at_ + 1) % 4 = 3 := by omega
    unfold spanL
    rcases h4 with e | e | e | e <;> rw [e] <;> rfl
  refine rx_seq (e1 := [.dat sd, .dat (.int (at_ : Nat)), .dat (.int (most : Nat)), .dat (.int many), .dat (.int span), .own [], .no, .no, .no, .no, .no]) (rx_asgF (xf_lst ea_nil (Nat.zero_le _)) rfl) ?_
  refine rx_seq (e1 := [.dat sd, .dat (.int (at_ : Nat)), .dat (.int (most : Nat)), .dat (.int many), .dat (.int span), .own ((lawBase ns at_ most).map ptD), .no, .no, .no, .no, .no]) ?_ ?_
  · refine rx_is (rx_forR1 (n := many) (ea_cons (ex_var rfl) ea_nil) (by omega) (fr_fold (fun i : Nat => PyData.int (0 + (i : Int))) (fun S : List HP.Pt => [.dat sd, .dat (.int (at_ : Nat)), .dat (.int (most : Nat)), .dat (.int many), .dat (.int span), .own (S.map ptD), .no, .no, .no, .no, .no]) (fun S k => S ++ [lawPt ns at_ k]) [] (List.range many.toNat) fun pre post k hp => ?_)) ?_
    rotate_left
    · rw [fold_snoc, List.nil_append]
      have e1 : lawBase ns at_ most = (List.range many.toNat).map (lawPt ns at_) := by unfold lawBase; rw [hmn]
      rw [e1]
    · rw [fold_snoc, List.nil_append]
      have hk : k < 61 := by
        have : k ∈ List.range many.toNat := by rw [hp]; simp
        have := List.mem_range.mp this
        omega
      have hpl : pre.length < 100 := by
        have := congrArg List.length hp
        rw [List.length_range, List.length_append, List.length_cons] at this
        omega
      have hsb : ∀ x : Int, 0 ≤ nextL x ∧ nextL x < 2147483629 := fun x => by
        unfold nextL
        exact ⟨Int.emod_nonneg _ (by omega), Int.emod_lt_of_pos _ (by omega)⟩
      have hb := hsb (cell ns (at_ + 2 + k % 8) + 5003 * k)
      generalize hsd : nextL (cell ns (at_ + 2 + k % 8) + 5003 * k) = seed at hb
      have hpt : lawPt ns at_ k = (seed / 7 % (2 * span + 1) - span, seed / 7 / (2 * span + 1) % (2 * span + 1) - span) := by
        unfold lawPt
        rw [hsd, hsp]
      refine ⟨_, tg_name' (e' := [.dat sd, .dat (.int (at_ : Nat)), .dat (.int (most : Nat)), .dat (.int many), .dat (.int span), .own ((pre.map (lawPt ns at_)).map ptD), .dat (.int (0 + (k : Int))), .no, .no, .no, .no]) rfl, ?_⟩
      refine rx_seq (e1 := [.dat sd, .dat (.int (at_ : Nat)), .dat (.int (most : Nat)), .dat (.int many), .dat (.int span), .own ((pre.map (lawPt ns at_)).map ptD), .dat (.int (0 + (k : Int))), .dat (.int seed), .no, .no, .no]) (rx_asg (ex_call (ea_cons (ex_I0 (g := fun i j => i + j) (cl _ _ (at_ + 2 + k % 8) _ rfl (ex_I0 (g := fun i j => i + j) (ex_I0 (g := fun i j => i + j) (ex_var rfl) ex_int) (ex_I (g := fun i j => i % j) (ex_var rfl) ex_int (by omega))) (by omega)) (ex_I (g := fun i j => i * j) ex_int (ex_var rfl) (by left; omega))) ea_nil) ⟨_, rfl, by rw [← hsd, show (0 : Int) + k = k by omega]⟩) rfl) ?_
      refine rx_seq (e1 := [.dat sd, .dat (.int (at_ : Nat)), .dat (.int (most : Nat)), .dat (.int many), .dat (.int span), .own ((pre.map (lawPt ns at_)).map ptD), .dat (.int (0 + (k : Int))), .dat (.int seed), .dat (.int (2 * span + 1)), .no, .no]) (rx_asg (by wtm_at "ev") rfl) ?_
      refine rx_post (rx_app (d := ptD (lawPt ns at_ k)) rfl (ex_is (ex_tup (ea_cons (by wtm_at "ev") (ea_cons (by wtm_at "ev") ea_nil)) (Nat.le_of_ble_eq_true rfl)) ?_) rfl ?_ rfl) ?_
      · rw [hpt]; rfl
      · rw [List.length_map, List.length_map]; omega
      · rw [List.map_append]
        exact .keep (.keep (.keep (.keep (.keep (.keep (.drop (.drop (.drop (.drop (.drop .nil))))))))))
  have test : EvX K (tOp (rEqD K) (tOp (rI (fun _ j => 0 < j) fun i j => V.int (i % j)) (tOp (rI CDiv fun i j => V.int (i / j)) (tCall (spD K F__law_cell_at) [] E0 (tCons (tVar 0) (tCons (tOp (rI0 fun i j => V.int (i + j)) (tVar 1) (tC (.int 1))) tNil))) (tC (.int 4))) (tC (.int 5))) (tC (.int 1))) [.dat sd, .dat (.int (at_ : Nat)), .dat (.int (most : Nat)), .dat (.int many), .dat (.int span), .own ((lawBase ns at_ most).map ptD), .no, .no, .no, .no, .no] (.bool (decide (cell ns (at_ + 1) / 4 % 5 = 1))) :=
    ex_is (ex_eq (ex_I (g := fun i j => i % j) (ex_I (g := fun i j => i / j) (cl _ _ (at_ + 1) _ rfl (ex_I0 (g := fun i j => i + j) (ex_var rfl) ex_int) (by omega)) ex_int (by constructor <;> omega)) ex_int (by omega)) ex_int rfl rfl) (by rw [eqv_int])
  unfold lawPoints
  refine rx_ifS (b := decide (cell ns (at_ + 1) / 4 % 5 = 1)) (xt_test test) (fun e => ?_) (fun e => ?_)
  · rw [if_pos (of_decide_eq_true e)]
    refine rx_settle (i := 5) rfl rfl ?_
    have h3 : -1 ≤ cell ns (at_ + 2) % 3 - 1 ∧ cell ns (at_ + 2) % 3 - 1 ≤ 1 := by omega
    refine rx_assoc1 (rx_seq (e1 := [.dat sd, .dat (.int (at_ : Nat)), .dat (.int (most : Nat)), .dat (.int many), .dat (.int span), .dat (ptsD (lawBase ns at_ most)), .no, .no, .no, .dat (.int (cell ns (at_ + 2) % 3 - 1)), .no]) (rx_asg (ex_I0 (g := fun i j => i - j) (ex_I (g := fun i j => i % j) (cl _ _ (at_ + 2) _ rfl (ex_I0 (g := fun i j => i + j) (ex_var rfl) ex_int) (by omega)) ex_int (by omega)) ex_int) rfl) (rx_asgF (ds := ((lawBase ns at_ most).map fun p => (p.1, (cell ns (at_ + 2) % 3 - 1) * p.1)).map ptD) (xf_is (xf_lc (lawBase ns at_ most) ptD (fun _ => true) (fun p => ptD (p.1, (cell ns (at_ + 2) % 3 - 1) * p.1)) (fun p => [.dat sd, .dat (.int (at_ : Nat)), .dat (.int (most : Nat)), .dat (.int many), .dat (.int span), .dat (ptsD (lawBase ns at_ most)), .no, .no, .no, .dat (.int (cell ns (at_ + 2) % 3 - 1)), .dat (ptD p)]) (ex_var rfl) rfl ?_ (fun p _ => cg_name (by decide) rfl) (fun p _ => xt_true) (fun p hp hf => ?_) (fun _ _ _ => rfl)) ?_) rfl)) (rx_retO rfl)
    · rw [lawBase_len, hmn]; omega
    · exact ex_is (ex_tup (ea_cons (ex_ixT (ds := [.int p.1, .int p.2]) (ex_var rfl) ex_int rfl) (ea_cons (ex_I (g := fun i j => i * j) (ex_var rfl) (ex_ixT (ds := [.int p.1, .int p.2]) (ex_var rfl) ex_int rfl) (by left; omega)) ea_nil)) (Nat.le_of_ble_eq_true rfl)) rfl
    · unfold lcRes
      rw [List.map_map, List.filter_eq_self.mpr fun _ _ => rfl]
      rfl
  · rw [if_neg (of_decide_eq_false e)]
    exact rx_nextS (rx_retO rfl)

def farC (c : Int) : Int := c / 64 % 10 ^ 20
def placeC (c : Int) : Int := if c / 16 % 4 = 0 then 1001 else if c / 16 % 4 = 1 then -1001 else if c / 16 % 4 = 2 then 1001 + farC c else -1001 - farC c
def pointC (c : Int) : HP.Pt := if c / 4 % 2 = 0 then (placeC c, 0) else (0, placeC c)
def atC (ps : List HP.Pt) (c : Int) : Int := c / 7 % ((ps.take 11).length + 1 : Nat)
def badPts (ps : List HP.Pt) (c : Int) : List HP.Pt := if c % 4 = 0 then (ps ++ (List.replicate 13 [((0 : Int), (0 : Int)), (1, 1)]).flatten).take (13 + c / 4 % 9).toNat else
  (ps.take 11).take (atC ps c).toNat ++ [pointC c] ++ (ps.take 11).drop (atC ps c).toNat
def F__law_bad : List PyData → List PyData → Prop := fun ds es => ∃ (ps : List HP.Pt) (c : Int), ds = [ptsD ps, .int c] ∧ ps.length ≤ 12 ∧ 0 ≤ c ∧ es = (badPts ps c).map ptD
theorem rep13 : (List.replicate 13 [ptD (0, 0), ptD (1, 1)]).flatten = ((List.replicate 13 [((0 : Int), (0 : Int)), (1, 1)]).flatten).map ptD := rfl
theorem cut_take (ps : List HP.Pt) (k : Int) (h : 0 ≤ k) : cutD (ps.map ptD) none (some k) = (ps.take k.toNat).map ptD := by
  unfold cutD
  rw [HT.sIx_none, List.drop_zero, Nat.sub_zero, List.map_take]
  obtain ⟨n, rfl⟩ : ∃ n : Nat, k = n := ⟨k.toNat, by omega⟩
  rw [HT.sIx_nat, Int.toNat_natCast]
  rcases Nat.le_total n (ps.map ptD).length with q | q
  · rw [Nat.min_eq_left q]
  · rw [Nat.min_eq_right q, List.take_of_length_le (Nat.le_refl _), List.take_of_length_le q]
theorem cut_drop (ps : List HP.Pt) (k : Int) (h : 0 ≤ k) : cutD (ps.map ptD) (some k) none = (ps.drop k.toNat).map ptD := by
  obtain ⟨n, rfl⟩ : ∃ n : Nat, k = n := ⟨k.toNat, by omega⟩
  unfold cutD
  rw [HT.sIx_none, HT.sIx_nat, Int.toNat_natCast, List.map_drop]
  rcases Nat.le_total n (ps.map ptD).length with q | q
  · rw [Nat.min_eq_left q, List.take_of_length_le (by rw [List.length_drop]; exact Nat.le_refl _)]
  · rw [Nat.min_eq_right q, Nat.sub_self, List.take_zero, List.drop_eq_nil_of_le q]
theorem ok__law_bad {P : Program} {w : World} {K : PySem.W.Frag} {mg : Str → Option Value} {base : Heap} {ad : Ad} (T : Txt K mg ad) : FnOk P w K mg base CX0 1 ad.a__law_bad ad.d__law_bad ["points", "cell"] (spF K F__law_bad) := by
  refine ok_F (k := 0) T.F__law_bad sc__law_bad (by rintro _ _ ⟨_, _, rfl, _⟩; rfl) (fun cdv A outer s H E hr ds res hF => ?_)
  refine ⟨_, (pss_cons (ps_set (i := 2) sc__law_bad.nd rfl (Or.inl rfl) (pe_op op_mod (pe_op op_fdiv (pv 1) pe_int) (pe_op op_pow pe_int pe_int)))
      (pss_cons (ps_if (pt_cmpR (op_eqD hr.units) (pe_op op_mod (pv 1) pe_int) pe_int (nomark _)) (pss_one (ps_ret (pe_slice sl_list (pe_op op_cat (pv 0) (pe_op op_rep (pe_lst (pa_cons (pe_tup (pa_cons pe_int (pa_cons pe_int pa_nil))) (pa_cons (pe_tup (pa_cons pe_int (pa_cons pe_int pa_nil))) pa_nil))) pe_int)) po_none (po_some (pe_op op_add pe_int (pe_op op_mod (pe_op op_fdiv (pv 1) pe_int) pe_int)))))) pss_nil)
      (pss_cons (ps_set (i := 3) sc__law_bad.nd rfl (Or.inl rfl) (pe_ix ix_seq (pe_lst (pa_cons pe_int (pa_cons (pe_un un_neg pe_int) (pa_cons (pe_op op_add pe_int (pv 2)) (pa_cons (pe_op op_sub (pe_un un_neg pe_int) (pv 2)) pa_nil))))) (pe_op op_mod (pe_op op_fdiv (pv 1) pe_int) pe_int) (fun _ _ => rfl)))
      (pss_cons (ps_set (i := 4) sc__law_bad.nd rfl (Or.inl rfl) (pe_ix ix_seq (pe_lst (pa_cons (pe_tup (pa_cons (pv 3) (pa_cons pe_int pa_nil))) (pa_cons (pe_tup (pa_cons pe_int (pa_cons (pv 3) pa_nil))) pa_nil))) (pe_op op_mod (pe_op op_fdiv (pv 1) pe_int) pe_int) (fun _ _ => rfl)))
      (pss_cons (ps_set (i := 5) sc__law_bad.nd rfl (Or.inl rfl) (pe_op op_mod (pe_op op_fdiv (pv 1) pe_int) (pe_op op_add (pe_callB call_len (by rfl) T.n_len PySem.boot_len (pa_cons (pe_slice sl_list (pv 0) po_none (po_some pe_int)) pa_nil)) pe_int)))
      (pss_one (ps_ret (pe_op op_cat (pe_op op_cat (pe_slice sl_list (pe_slice sl_list (pv 0) po_none (po_some pe_int)) po_none (po_some (pv 5))) (pe_lst (pa_cons (pv 4) pa_nil))) (pe_slice sl_list (pe_slice sl_list (pv 0) po_none (po_some pe_int)) (po_some (pv 5)) po_none))))))))), ?_⟩
  obtain ⟨ps, c, rfl, hl, hc, rfl⟩ := hF
  refine rx_seq (e1 := [.dat (ptsD ps), .dat (.int c), .dat (.int (farC c)), .no, .no, .no]) (rx_asg (ex_I (g := fun i j => i % j) (ex_I (g := fun i j => i / j) (ex_var rfl) ex_int (by constructor <;> omega)) (ex_I (C := CPow) (g := fun i j => i ^ j.toNat) ex_int ex_int (by unfold CPow; omega)) (by decide)) rfl) ?_
  refine rx_ifS (b := decide (c % 4 = 0)) (xt_is (xt_test (ex_eq (ex_I (g := fun i j => i % j) (ex_var rfl) ex_int (by omega)) ex_int rfl rfl)) (eqv_int _ _)) (fun e => ?_) (fun e => rx_nextS ?_)
  · unfold badPts
    rw [if_pos (of_decide_eq_true e)]
    have p2 : ∀ e : SE, EvX K (tLst (tCons (tTup (tCons (tC (.int 0)) (tCons (tC (.int 0)) tNil))) (tCons (tTup (tCons (tC (.int 1)) (tCons (tC (.int 1)) tNil))) tNil))) e (.list [ptD (0, 0), ptD (1, 1)]) := fun e => ex_new (xf_lst (ea_cons (ex_is (ex_tup (ea_cons ex_int (ea_cons ex_int ea_nil)) (Nat.le_of_ble_eq_true rfl)) rfl) (ea_cons (ex_is (ex_tup (ea_cons ex_int (ea_cons ex_int ea_nil)) (Nat.le_of_ble_eq_true rfl)) rfl) ea_nil)) (Nat.le_of_ble_eq_true rfl))
    have hz : (List.replicate ((13 : Int).toNat) [ptD (0, 0), ptD (1, 1)]).flatten.length = 26 := rfl
    refine rx_end (rx_retF (xf_is (xf_sl (ex_new (xf_cat (ex_var rfl) (ex_new (xf_rep (p2 _) ex_int (by omega) (Nat.le_of_ble_eq_true rfl))) ?_)) eo_no (eo_at (ex_I0 (g := fun i j => i + j) ex_int (ex_I (g := fun i j => i % j) (ex_I (g := fun i j => i / j) (ex_var rfl) ex_int (by constructor <;> omega)) ex_int (by omega))))) ?_)) rfl
    · rw [hz, List.length_map]; omega
    · show cutD (ps.map ptD ++ (List.replicate 13 [ptD (0, 0), ptD (1, 1)]).flatten) none (some (13 + c / 4 % 9)) = _
      rw [rep13, ← List.map_append]
      exact cut_take _ _ (by omega)
  · unfold badPts
    rw [if_neg (of_decide_eq_false e)]
    have f0 : 0 ≤ farC c := by unfold farC; exact Int.emod_nonneg _ (by decide)
    have e0 : (0 : Int) ≤ c / 16 % 4 ∧ c / 16 % 4 < 4 := by omega
    refine rx_seq (e1 := [.dat (ptsD ps), .dat (.int c), .dat (.int (farC c)), .dat (.int (placeC c)), .no, .no]) (rx_asg (ex_ixL (ds := [.int 1001, .int (-1001), .int (1001 + farC c), .int (-1001 - farC c)]) (ex_new (xf_lst (ea_cons ex_int (ea_cons (ex_U (g := fun i => -i) ex_int) (ea_cons (ex_I0 (g := fun i j => i + j) ex_int (ex_var rfl)) (ea_cons (ex_I0 (g := fun i j => i - j) (ex_U (g := fun i => -i) ex_int) (ex_var rfl)) ea_nil)))) (Nat.le_of_ble_eq_true rfl))) (ex_I (g := fun i j => i % j) (ex_I (g := fun i j => i / j) (ex_var rfl) ex_int (by constructor <;> omega)) ex_int (by omega)) ?_) rfl) ?_
    · unfold placeC
      generalize c / 16 % 4 = j at e0 ⊢
      obtain rfl | rfl | rfl | rfl : j = 0 ∨ j = 1 ∨ j = 2 ∨ j = 3 := by omega
      all_goals rfl
    have e2 : (0 : Int) ≤ c / 4 % 2 ∧ c / 4 % 2 < 2 := by omega
    refine rx_seq (e1 := [.dat (ptsD ps), .dat (.int c), .dat (.int (farC c)), .dat (.int (placeC c)), .dat (ptD (pointC c)), .no]) (rx_asg (ex_ixL (ds := [ptD (placeC c, 0), ptD (0, placeC c)]) (ex_new (xf_lst (ea_cons (ex_is (ex_tup (ea_cons (ex_var rfl) (ea_cons ex_int ea_nil)) (Nat.le_of_ble_eq_true rfl)) rfl) (ea_cons (ex_is (ex_tup (ea_cons ex_int (ea_cons (ex_var rfl) ea_nil)) (Nat.le_of_ble_eq_true rfl)) rfl) ea_nil)) (Nat.le_of_ble_eq_true rfl))) (ex_I (g := fun i j => i % j) (ex_I (g := fun i j => i / j) (ex_var rfl) ex_int (by constructor <;> omega)) ex_int (by omega)) ?_) rfl) ?_
    · unfold pointC
      generalize c / 4 % 2 = j at e2 ⊢
      obtain rfl | rfl : j = 0 ∨ j = 1 := by omega
      all_goals rfl
    have p11 : ∀ e : SE, e[0]? = some (.dat (ptsD ps)) → EvX K (tSl (rSlL K) (tVar 0) tNoPart (tPart (tC (.int 11)))) e (ptsD (ps.take 11)) := fun e h => ex_new (xf_is (xf_sl (ex_var h) eo_no (eo_at ex_int)) (cut_take ps 11 (by omega)))
    have la : (ps.take 11).length ≤ 11 := by rw [List.length_take]; omega
    have lp : (0 : Int) < ((ps.take 11).length + 1 : Nat) := by omega
    have hat : 0 ≤ atC ps c := Int.emod_nonneg _ (by omega)
    refine rx_seq (e1 := [.dat (ptsD ps), .dat (.int c), .no, .no, .dat (ptD (pointC c)), .dat (.int (atC ps c))]) (rx_post (rx_asg (d := .int (atC ps c)) (ex_I (g := fun i j => i % j) (ex_I (g := fun i j => i / j) (ex_var rfl) ex_int (by constructor <;> omega)) (ex_is (ex_I0 (g := fun i j => i + j) (ex_len (p11 _ rfl) rfl) ex_int) (congrArg PyData.int (by rw [List.length_map]; push_cast; rfl))) lp) rfl) (.keep (.keep (.drop (.drop (.keep (.keep .nil))))))) ?_
    generalize ps.take 11 = rs at la p11 ⊢
    generalize atC ps c = a at hat ⊢
    refine rx_retF (xf_is (xf_cat (ds := (rs.take a.toNat).map ptD ++ [ptD (pointC c)]) (es := (rs.drop a.toNat).map ptD) (ex_new (xf_cat (ex_new (xf_is (xf_sl (p11 _ rfl) eo_no (eo_at (ex_var rfl))) (cut_take rs a hat))) (ex_new (xf_lst (ea_cons (ex_var rfl) ea_nil) (Nat.le_of_ble_eq_true rfl))) ?_)) (ex_new (xf_is (xf_sl (p11 _ rfl) (eo_at (ex_var rfl)) eo_no) (cut_drop rs a hat))) ?_) ?_)
    · rw [List.length_map, List.length_take]; simp only [List.length_cons, List.length_nil]; omega
    · rw [List.length_append, List.length_map, List.length_map, List.length_take, List.length_drop]; simp only [List.length_cons, List.length_nil]; omega
    · rw [List.map_append, List.map_append]; rfl

theorem ok__law_kind_NoPoint {P : Program} {w : World} {K : PySem.W.Frag} {mg : Str → Option Value} {base : Heap} {ad : Ad} (T : Txt K mg ad) : FnP P w K mg base 1 ad.a__law_kind ad.d__law_kind ["e"] (spKind K ad.c_NoPoint "point") := by
  refine fnP_of (k := 0) T.F__law_kind sc__law_kind (by rintro _ _ _ _ ⟨rfl, _⟩; rfl) (fun cdv p A outer s H vs Q hr h => ?_)
  obtain ⟨rfl, hz, hd, q⟩ := h
  refine ⟨_, (pss_cons (ps_set (i := 1) sc__law_kind.nd rfl (Or.inl rfl) (pe_lst (pa_cons (pe_callB (call_isP (a := p.1) (oe := p.2) List.mem_cons_self T.R_NoPoint.x hz hd) (by rfl) T.n_isinstance (by decide +kernel) (pa_cons (pv 0) (pa_cons (pe_glob (v := .ref ad.c_NoPoint) (by rfl) T.g_NoPoint rfl) pa_nil))) (pa_cons (pe_callB (call_isP (a := p.1) (oe := p.2) List.mem_cons_self T.R_NoPoint.x hz hd) (by rfl) T.n_isinstance (by decide +kernel) (pa_cons (pv 0) (pa_cons (pe_glob (v := .ref ad.c_NoSpot) (by rfl) T.g_NoSpot rfl) pa_nil))) (pa_cons (pe_callB (call_isP (a := p.1) (oe := p.2) List.mem_cons_self T.R_NoPoint.x hz hd) (by rfl) T.n_isinstance (by decide +kernel) (pa_cons (pv 0) (pa_cons (pe_glob (v := .ref ad.c_NoFour) (by rfl) T.g_NoFour rfl) pa_nil))) (pa_cons (pe_callB (call_isP (a := p.1) (oe := p.2) List.mem_cons_self T.R_NoPoint.x hz hd) (by rfl) T.n_isinstance (by decide +kernel) (pa_cons (pv 0) (pa_cons (pe_glob (v := .ref ad.c_NoMiddle) (by rfl) T.g_NoMiddle rfl) pa_nil))) pa_nil))))))
      (pss_cons (ps_expr (pe_bm PySem.F.plainAttrs_list PySem.F.slot_list_append PySem.F.type_list_append mt_append (pv 1) (pa_cons (pe_callB (call_isP (a := p.1) (oe := p.2) List.mem_cons_self T.R_NoPoint.x hz hd) (by rfl) T.n_isinstance (by decide +kernel) (pa_cons (pv 0) (pa_cons (pe_glob (v := .ref ad.c_NoNote) (by rfl) T.g_NoNote rfl) pa_nil))) pa_nil)))
      (pss_cons (ps_if (PW.pt (pw_or (pt_not (pt_val (pe_callB (call_isP (a := p.1) (oe := p.2) List.mem_cons_self T.R_NoPoint.x hz hd) (by rfl) T.n_isinstance (by decide +kernel) (pa_cons (pv 0) (pa_cons (pe_bltn (v := .ty "ValueError") (by rfl) T.n_ValueError (by decide +kernel) rfl) pa_nil))))) (pw_or1 (pt_cmpR (op_neD (un64H hr)) (pe_bm PySem.F.plainAttrs_list PySem.F.slot_list_count PySem.F.type_list_count mt_lcountB (pv 1) (pa_cons pe_bl pa_nil)) pe_int (nomark _))))) (pss_one (ps_ret pe_str)) pss_nil)
      (pss_one (ps_ret (pe_ix ix_seq (pe_lst (pa_cons pe_str (pa_cons pe_str (pa_cons pe_str (pa_cons pe_str (pa_cons pe_str pa_nil)))))) (pe_bm PySem.F.plainAttrs_list PySem.F.slot_list_index PySem.F.type_list_index (mt_indexD (by exact un65H hr)) (pv 1) (pa_cons pe_bl pa_nil)) (fun _ _ => rfl))))))), ?_⟩
  exact kind_run (j := 0) kit_self (kit_no T.R_NoSpot T.s_NoPoint_NoSpot) (kit_no T.R_NoFour T.s_NoPoint_NoFour) (kit_no T.R_NoMiddle T.s_NoPoint_NoMiddle) (kit_no T.R_NoNote T.s_NoPoint_NoNote) (kit_ve T.R_NoPoint) rfl rfl rfl rfl q

def F__law_asked (K : PySem.W.Frag) : List PyData → (Hp → V → Hp → Prop) → Prop := fun ds R => ∃ (k : Int) (ps : List HP.Pt), ds = [.int k, ptsD ps] ∧ ps.length ≤ 12 ∧ (∀ q ∈ ps, Near q) ∧ 1 ≤ ps.length ∧ (k = 0 ∨ k = 1 ∨ k = 2 ∨ k = 3 ∨ k = 7 ∨ k = 8) ∧ R = RAny
theorem last_at {ps : List HP.Pt} (h : 1 ≤ ps.length) : ∃ q, q ∈ ps ∧ atI (ps.map ptD) (-1) = some (ptD q) := by
  rcases List.eq_nil_or_concat ps with e | ⟨qs, q, e⟩
  · subst e; simp at h
  · subst e
    refine ⟨q, by simp, ?_⟩
    rw [List.concat_eq_append, List.map_append]
    exact atI_last _ _
theorem ok__law_asked {P : Program} {w : World} {K : PySem.W.Frag} {mg : Str → Option Value} {base : Heap} {ad : Ad} (T : Txt K mg ad) : FnOk P w K mg base CX0 10 ad.a__law_asked ad.d__law_asked ["which", "points"] (spR K (F__law_asked K)) := by
  have G_corners := ok_corners (P := P) (w := w) (base := base) T
  have G_placed := ok_placed (P := P) (w := w) (base := base) T
  have G_parted := ok_parted (P := P) (w := w) (base := base) T
  have G_four_parted := ok_four_parted (P := P) (w := w) (base := base) T
  have G_depth := ok_depth (P := P) (w := w) (base := base) T
  have G_middle := ok_middle (P := P) (w := w) (base := base) T
  have G_shown := ok_shown (P := P) (w := w) (base := base) T
  refine ok_R (k := 9) T.F__law_asked sc__law_asked (by rintro _ _ ⟨_, _, rfl, _⟩; rfl) (fun cdv A outer s H E hr ds res hF => ?_)
  refine ⟨_, (pss_cons (ps_if (pt_cmpR (op_eqD hr.units) (pv 0) pe_int (nomark _)) (pss_one (ps_ret (pe_call G_corners (hr.mono (by decide)) (by rfl) T.g_corners T.F_corners.kp T.b_corners .nil pass0 (pa_cons (pv 1) pa_nil)))) pss_nil)
      (pss_cons (ps_if (pt_cmpR (op_eqD hr.units) (pv 0) pe_int (nomark _)) (pss_one (ps_ret (pe_call G_placed (hr.mono (by decide)) (by rfl) T.g_placed T.F_placed.kp T.b_placed .nil pass0 (pa_cons (pv 1) (pa_cons (pe_tup (pa_cons pe_int (pa_cons pe_int pa_nil))) pa_nil))))) pss_nil)
      (pss_cons (ps_if (pt_cmpR (op_eqD hr.units) (pv 0) pe_int (nomark _)) (pss_one (ps_ret (pe_call G_parted (hr.mono (by decide)) (by rfl) T.g_parted T.F_parted.kp T.b_parted .nil pass0 (pa_cons (pv 1) (pa_cons (pe_lst pa_nil) pa_nil))))) pss_nil)
      (pss_cons (ps_if (pt_cmpR (op_eqD hr.units) (pv 0) pe_int (nomark _)) (pss_one (ps_ret (pe_call G_parted (hr.mono (by decide)) (by rfl) T.g_parted T.F_parted.kp T.b_parted .nil pass0 (pa_cons (pe_lst (pa_cons (pe_tup (pa_cons pe_int (pa_cons pe_int pa_nil))) pa_nil)) (pa_cons (pv 1) pa_nil))))) pss_nil)
      (pss_cons (ps_if (pt_cmpR (op_eqD hr.units) (pv 0) pe_int (nomark _)) (pss_one (ps_ret (pe_call G_parted (hr.mono (by decide)) (by rfl) T.g_parted T.F_parted.kp T.b_parted .nil pass0 (pa_cons (pe_lst pa_nil) (pa_cons (pv 1) pa_nil))))) pss_nil)
      (pss_cons (ps_if (pt_cmpR (op_eqD hr.units) (pv 0) pe_int (nomark _)) (pss_one (ps_ret (pe_call G_placed (hr.mono (by decide)) (by rfl) T.g_placed T.F_placed.kp T.b_placed .nil pass0 (pa_cons (pe_lst pa_nil) (pa_cons (pe_ix ix_seq (pv 1) (pe_un un_neg pe_int) (fun _ _ => rfl)) pa_nil))))) pss_nil)
      (pss_cons (ps_if (pt_cmpR (op_eqD hr.units) (pv 0) pe_int (nomark _)) (pss_one (ps_ret (pe_call G_four_parted (hr.mono (by decide)) (by rfl) T.g_four_parted T.F_four_parted.kp T.b_four_parted .nil pass0 (pa_cons (pv 1) pa_nil)))) pss_nil)
      (pss_cons (ps_if (pt_cmpR (op_eqD hr.units) (pv 0) pe_int (nomark _)) (pss_one (ps_ret (pe_call G_depth (hr.mono (by decide)) (by rfl) T.g_depth T.F_depth.kp T.b_depth .nil pass0 (pa_cons (pv 1) (pa_cons (pe_tup (pa_cons pe_int (pa_cons pe_int (pa_cons pe_int pa_nil)))) pa_nil))))) pss_nil)
      (pss_cons (ps_if (pt_cmpR (op_eqD hr.units) (pv 0) pe_int (nomark _)) (pss_one (ps_ret (pe_call G_middle (hr.mono (by decide)) (by rfl) T.g_middle T.F_middle.kp T.b_middle .nil pass0 (pa_cons (pv 1) pa_nil)))) pss_nil)
      (pss_cons (ps_if (pt_cmpR (op_eqD hr.units) (pv 0) pe_int (nomark _)) (pss_one (ps_ret (pe_call G_shown (hr.mono (by decide)) (by rfl) T.g_shown T.F_shown.kp T.b_shown .nil pass0 (pa_cons (pv 1) pa_nil)))) pss_nil)
      (pss_one (ps_ret (pe_call G_placed (hr.mono (by decide)) (by rfl) T.g_placed T.F_placed.kp T.b_placed .nil pass0 (pa_cons (pe_lst (pa_cons (pe_tup (pa_cons pe_int (pa_cons pe_int pa_nil))) pa_nil)) (pa_cons (pe_ix ix_seq (pv 1) (pe_un un_neg pe_int) (fun _ _ => rfl)) pa_nil))))))))))))))), ?_⟩
  obtain ⟨k, ps, rfl, hl, hn, h1, hk, rfl⟩ := hF
  have wh : ∀ (e : SE) (j : Int) (b : Bool), e[0]? = some (.dat (.int k)) → decide (k = j) = b → EvTX K (tTest (tOp (rEqD K) (tVar 0) (tC (.int j)))) e b := fun e j b h hb => xt_is (xt_test (ex_eq (ex_var h) ex_int rfl rfl)) (by rw [eqv_int, hb])
  obtain ⟨q, hqm, hq⟩ := last_at h1
  have hqn := hn q hqm
  rcases hk with rfl | rfl | rfl | rfl | rfl | rfl
  · exact rx_ifS (b := true) (wh _ 0 _ rfl rfl) (fun _ => rx_end (rx_retR (er_anyF (xf_call (ea_cons (ex_var rfl) ea_nil) ⟨ps, rfl, hl, hn, rfl⟩))) rfl) (fun e => by cases e)
  · exact rx_ifS (b := false) (wh _ 0 _ rfl rfl) (fun e => by cases e) (fun _ => rx_nextS (rx_ifS (b := true) (wh _ 1 _ rfl rfl) (fun _ => rx_end (rx_retR (er_anyR (er_call (ea_cons (ex_var rfl) (ea_cons (ex_is (ex_tup (ea_cons ex_int (ea_cons ex_int ea_nil)) (Nat.le_of_ble_eq_true rfl)) (show _ = ptD (0, 0) from rfl)) ea_nil)) ⟨ps, (0, 0), rfl, hl, hn, (by unfold Near; simp), rfl⟩))) rfl) (fun e => by cases e)))
  · exact rx_ifS (b := false) (wh _ 0 _ rfl rfl) (fun e => by cases e) (fun _ => rx_nextS (rx_ifS (b := false) (wh _ 1 _ rfl rfl) (fun e => by cases e) (fun _ => rx_nextS (rx_ifS (b := true) (wh _ 2 _ rfl rfl) (fun _ => rx_end (rx_retR (er_anyR (er_call (ea_cons (ex_var rfl) (ea_cons (ex_is (ex_new (xf_lst ea_nil (Nat.le_of_ble_eq_true rfl))) (show _ = ptsD [] from rfl)) ea_nil)) ⟨ps, [], rfl, hl, by simp, hn, (by intro q hq; cases hq), rfl⟩))) rfl) (fun e => by cases e)))))
  · exact rx_ifS (b := false) (wh _ 0 _ rfl rfl) (fun e => by cases e) (fun _ => rx_nextS (rx_ifS (b := false) (wh _ 1 _ rfl rfl) (fun e => by cases e) (fun _ => rx_nextS (rx_ifS (b := false) (wh _ 2 _ rfl rfl) (fun e => by cases e) (fun _ => rx_nextS (rx_ifS (b := true) (wh _ 3 _ rfl rfl) (fun _ => rx_end (rx_retR (er_anyR (er_call (ea_cons (ex_is (ex_new (xf_lst (ea_cons (ex_is (ex_tup (ea_cons ex_int (ea_cons ex_int ea_nil)) (Nat.le_of_ble_eq_true rfl)) (show _ = ptD (0, 0) from rfl)) ea_nil) (Nat.le_of_ble_eq_true rfl))) (show _ = ptsD [(0, 0)] from rfl)) (ea_cons (ex_var rfl) ea_nil)) ⟨[(0, 0)], ps, rfl, by simp, hl, (by intro q hq; rw [List.mem_singleton.mp hq]; unfold Near; simp), hn, rfl⟩))) rfl) (fun e => by cases e)))))))
  · exact rx_ifS (b := false) (wh _ 0 _ rfl rfl) (fun e => by cases e) (fun _ => rx_nextS (rx_ifS (b := false) (wh _ 1 _ rfl rfl) (fun e => by cases e) (fun _ => rx_nextS (rx_ifS (b := false) (wh _ 2 _ rfl rfl) (fun e => by cases e) (fun _ => rx_nextS (rx_ifS (b := false) (wh _ 3 _ rfl rfl) (fun e => by cases e) (fun _ => rx_nextS (rx_ifS (b := false) (wh _ 9 _ rfl rfl) (fun e => by cases e) (fun _ => rx_nextS (rx_ifS (b := false) (wh _ 10 _ rfl rfl) (fun e => by cases e) (fun _ => rx_nextS (rx_ifS (b := false) (wh _ 4 _ rfl rfl) (fun e => by cases e) (fun _ => rx_nextS (rx_ifS (b := false) (wh _ 5 _ rfl rfl) (fun e => by cases e) (fun _ => rx_nextS (rx_ifS (b := false) (wh _ 6 _ rfl rfl) (fun e => by cases e) (fun _ => rx_nextS (rx_ifS (b := true) (wh _ 7 _ rfl rfl) (fun _ => rx_end (rx_retR (er_anyD (ex_call (ea_cons (ex_var rfl) ea_nil) ⟨ps, rfl, hl, hn, rfl⟩))) rfl) (fun e => by cases e)))))))))))))))))))
  · exact rx_ifS (b := false) (wh _ 0 _ rfl rfl) (fun e => by cases e) (fun _ => rx_nextS (rx_ifS (b := false) (wh _ 1 _ rfl rfl) (fun e => by cases e) (fun _ => rx_nextS (rx_ifS (b := false) (wh _ 2 _ rfl rfl) (fun e => by cases e) (fun _ => rx_nextS (rx_ifS (b := false) (wh _ 3 _ rfl rfl) (fun e => by cases e) (fun _ => rx_nextS (rx_ifS (b := false) (wh _ 9 _ rfl rfl) (fun e => by cases e) (fun _ => rx_nextS (rx_ifS (b := false) (wh _ 10 _ rfl rfl) (fun e => by cases e) (fun _ => rx_nextS (rx_ifS (b := false) (wh _ 4 _ rfl rfl) (fun e => by cases e) (fun _ => rx_nextS (rx_ifS (b := false) (wh _ 5 _ rfl rfl) (fun e => by cases e) (fun _ => rx_nextS (rx_ifS (b := false) (wh _ 6 _ rfl rfl) (fun e => by cases e) (fun _ => rx_nextS (rx_ifS (b := false) (wh _ 7 _ rfl rfl) (fun e => by cases e) (fun _ => rx_nextS (rx_retR (er_anyR (er_call (ea_cons (ex_is (ex_new (xf_lst (ea_cons (ex_is (ex_tup (ea_cons ex_int (ea_cons ex_int ea_nil)) (Nat.le_of_ble_eq_true rfl)) (show _ = ptD (0, 0) from rfl)) ea_nil) (Nat.le_of_ble_eq_true rfl))) (show _ = ptsD [(0, 0)] from rfl)) (ea_cons (ex_ixL (ex_var rfl) (ex_U (g := fun i => -i) ex_int) hq) ea_nil)) ⟨[(0, 0)], q, rfl, by simp, (by intro q hq; rw [List.mem_singleton.mp hq]; unfold Near; simp), hqn, rfl⟩))))))))))))))))))))))

def B_ask_point_point : List PyData → Prop := fun ds => ∃ p : HP.Pt, ds = [ptD p] ∧ ¬ Near p
theorem ok_ask_point_point {P : Program} {w : World} {K : PySem.W.Frag} {mg : Str → Option Value} {base : Heap} {ad : Ad} (T : Txt K mg ad) : FnOk P w K mg base (L2N.CX P w) 1 ad.a_ask_point ad.d_ask_point ["point"] (spB K ad.c_NoPoint B_ask_point_point) := by

  refine ok_B (k := 0) T.F_ask_point sc_ask_point (by rintro _ ⟨_, rfl, _⟩; rfl) (fun cdv A outer s H E hr ds hB => ?_)
  have tk : L2N.Takes (cxOf (L2N.CX P w) P w K mg base N_ask_point "ask_point" (defScope s_ask_point) ad.a_ask_point cdv A outer s H E) (fun cls d _ H => E cls d H) := L2N.takes_of rfl rfl rfl rfl
  have own := passes_of (X := cxOf (L2N.CX P w) P w K mg base N_ask_point "ask_point" (defScope s_ask_point) ad.a_ask_point cdv A outer s H E) (K := fun e s'' => L2N.CX P w outer H s E e s'') rfl
  refine ⟨_, (pss_one (ps_for own rfl (pi_tup (pv 0)) (pg_name (i := 1) sc_ask_point.nd rfl (Or.inl rfl)) (pss_one (ps_if (pt_not (pt_chain op_le op_le (pe_un un_neg (pe_glob (v := .int 1000) (by rfl) T.c_FAR ⟨_, rfl⟩)) (pv 1) (pe_glob (v := .int 1000) (by rfl) T.c_FAR ⟨_, rfl⟩))) (pss_one (L2N.ps_raise rfl tk (L2N.pmk_own PySem.F.excBase_ValueError T.R_NoPoint.e T.g_NoPoint T.R_NoPoint.k (raises_own T.R_NoPoint.b T.R_NoPoint.t) (by rfl)))) pss_nil)))), ?_⟩
  obtain ⟨p, rfl, h⟩ := hB
  refine rx_forT (ex_var rfl) rfl ?_
  unfold Near at h
  by_cases h1 : -1000 ≤ p.1 ∧ p.1 ≤ 1000
  · refine .turn (tg_name' (e' := [.dat (ptD p), .dat (.int p.1)]) rfl) (rx_if (b := false) (xt_is (xt_not (xt_test (by wtm_at "ev"))) ?_) (fun e => by cases e) (fun _ => rx_next)) (.ex (tg_name' (e' := [.dat (ptD p), .dat (.int p.2)]) rfl) (rx_if (b := true) (xt_is (xt_not (xt_test (by wtm_at "ev"))) ?_) (fun _ => re_raise rfl) (fun e => by cases e)))
    · simp [h1.1, h1.2]
    · rw [← Bool.decide_and, decide_eq_false (by omega)]; rfl
  · refine .ex (tg_name' (e' := [.dat (ptD p), .dat (.int p.1)]) rfl) (rx_if (b := true) (xt_is (xt_not (xt_test (by wtm_at "ev"))) ?_) (fun _ => re_raise rfl) (fun e => by cases e))
    rw [← Bool.decide_and, decide_eq_false (by omega)]; rfl

def BadPs (ps : List HP.Pt) : Prop := 12 < ps.length ∨ ∃ p ∈ ps, ¬ Near p
def B_ask_points_points : List PyData → Prop := fun ds => ∃ ps : List HP.Pt, ds = [ptsD ps] ∧ BadPs ps
theorem fr_bad {K : PySem.W.Frag} {α : Type} {g : TG} {tb : TS} {W : Hp → Prop} (inj : α → PyData) (env : SE) (Bd : α → Prop) : ∀ (items : List α), (∀ a ∈ items, ¬ Bd a → ∃ e1, TgX K g env (inj a) e1 ∧ RunX K tb e1 (.nx env)) → (∀ a ∈ items, Bd a → ∃ e1, TgX K g env (inj a) e1 ∧ RunX K tb e1 (.ex W)) → (∃ a ∈ items, Bd a) → Fr K g tb (items.map inj) env (.ex W)
  | [], _, _, h => by obtain ⟨_, h, _⟩ := h; cases h
  | a :: items, h1, h2, h => by
    by_cases hb : Bd a
    · obtain ⟨e1, t, r⟩ := h2 a (by simp) hb
      exact .ex t r
    · obtain ⟨e1, t, r⟩ := h1 a (by simp) hb
      refine .turn t r (fr_bad inj env Bd items (fun x hx => h1 x (List.mem_cons_of_mem _ hx)) (fun x hx => h2 x (List.mem_cons_of_mem _ hx)) ?_)
      obtain ⟨x, hx, hxb⟩ := h
      rcases List.mem_cons.mp hx with e | e
      · subst e; exact absurd hxb hb
      · exact ⟨x, e, hxb⟩
theorem ok_ask_points_points {P : Program} {w : World} {K : PySem.W.Frag} {mg : Str → Option Value} {base : Heap} {ad : Ad} (T : Txt K mg ad) : FnOk P w K mg base (L2N.CX P w) 2 ad.a_ask_points ad.d_ask_points ["points"] (spB K ad.c_NoPoint B_ask_points_points) := by
  have G_X_ask_point := FnOk.either (ok_ask_point (P := P) (w := w) (base := base) T) (ok_ask_point_point T)
  refine ok_B (k := 1) T.F_ask_points sc_ask_points (by rintro _ ⟨_, rfl, _⟩; rfl) (fun cdv A outer s H E hr ds hB => ?_)
  have tk : L2N.Takes (cxOf (L2N.CX P w) P w K mg base N_ask_points "ask_points" (defScope s_ask_points) ad.a_ask_points cdv A outer s H E) (fun cls d _ H => E cls d H) := L2N.takes_of rfl rfl rfl rfl
  have own := passes_of (X := cxOf (L2N.CX P w) P w K mg base N_ask_points "ask_points" (defScope s_ask_points) ad.a_ask_points cdv A outer s H E) (K := fun e s'' => L2N.CX P w outer H s E e s'') rfl
  refine ⟨_, (pss_cons (ps_if (pt_cmpR op_gt (pe_callB call_len (by rfl) T.n_len PySem.boot_len (pa_cons (pv 0) pa_nil)) (pe_glob (v := .int 12) (by rfl) T.c_MOST ⟨_, rfl⟩) (nomark _)) (pss_one (L2N.ps_raise rfl tk (L2N.pmk_own PySem.F.excBase_ValueError T.R_NoPoint.e T.g_NoPoint T.R_NoPoint.k (raises_own T.R_NoPoint.b T.R_NoPoint.t) (by rfl)))) pss_nil)
      (pss_one (ps_for own rfl (pi_list (pv 0)) (pg_name (i := 1) sc_ask_points.nd rfl (Or.inl rfl)) (pss_one (ps_expr (pe_callS G_X_ask_point (hr.mono (by decide)) (by rfl) T.g_ask_point T.F_ask_point.kp T.b_ask_point (fun σ => L2N.passAt tk σ) (pa_cons (pv 1) pa_nil))))))), ?_⟩
  obtain ⟨ps, rfl, h⟩ := hB
  by_cases hl : 12 < ps.length
  · refine re_ifS (b := true) (xt_is (xt_test (by wtm_at "ev")) ?_) (fun _ => re_end (re_raise rfl)) (fun e => by cases e)
    simp only [List.length_map]
    exact decide_eq_true (by omega)
  · refine re_ifS (b := false) (xt_is (xt_test (by wtm_at "ev")) ?_) (fun e => by cases e) (fun _ => re_nextS ?_)
    · simp only [List.length_map]
      exact decide_eq_false (by omega)
    · refine rx_forV rfl (fr_bad ptD [.dat (ptsD ps), .no] (fun p => ¬ Near p) ps (fun p hp hn => ⟨_, tg_name' (e' := [.dat (ptsD ps), .dat (ptD p)]) rfl, ?_⟩) (fun p hp hn => ⟨_, tg_name' (e' := [.dat (ptsD ps), .dat (ptD p)]) rfl, ?_⟩) (h.resolve_left hl))
      · exact rx_post (rx_drop (ex_callX (ea_cons (ex_var rfl) ea_nil) ⟨⟨p, rfl, Classical.not_not.mp hn⟩, rfl⟩)) (.keep (.drop .nil))
      · exact re_drop (ee_callX (ea_cons (ex_var rfl) ea_nil) ⟨p, rfl, hn⟩ rfl)

def B_corners_points : List PyData → Prop := fun ds => ∃ ps : List HP.Pt, ds = [ptsD ps] ∧ BadPs ps
theorem ok_corners_points {P : Program} {w : World} {K : PySem.W.Frag} {mg : Str → Option Value} {base : Heap} {ad : Ad} (T : Txt K mg ad) : FnOk P w K mg base (L2N.CX P w) 4 ad.a_corners ad.d_corners ["points"] (spB K ad.c_NoPoint B_corners_points) := by
  have G_ask_points_points := ok_ask_points_points (P := P) (w := w) (base := base) T
  refine ok_B (k := 3) T.F_corners sc_corners (by rintro _ ⟨_, rfl, _⟩; rfl) (fun cdv A outer s H E hr ds hB => ?_)
  have tk : L2N.Takes (cxOf (L2N.CX P w) P w K mg base N_corners "corners" (defScope s_corners) ad.a_corners cdv A outer s H E) (fun cls d _ H => E cls d H) := L2N.takes_of rfl rfl rfl rfl
  have own := passes_of (X := cxOf (L2N.CX P w) P w K mg base N_corners "corners" (defScope s_corners) ad.a_corners cdv A outer s H E) (K := fun e s'' => L2N.CX P w outer H s E e s'') rfl
  refine ⟨_, (pss_cons (ps_expr (pe_callS G_ask_points_points (hr.mono (by decide)) (by rfl) T.g_ask_points T.F_ask_points.kp T.b_ask_points (fun σ => L2N.passAt tk σ) (pa_cons (pv 0) pa_nil)))
      pss_never), ?_⟩
  obtain ⟨ps, rfl, h⟩ := hB
  exact re_end (re_drop (ee_call (ea_cons (ex_var rfl) ea_nil) ⟨ps, rfl, h⟩ rfl))

def B_placed_points : List PyData → Prop := fun ds => ∃ (ps : List HP.Pt) (d : PyData), ds = [ptsD ps, d] ∧ BadPs ps
theorem ok_placed_points {P : Program} {w : World} {K : PySem.W.Frag} {mg : Str → Option Value} {base : Heap} {ad : Ad} (T : Txt K mg ad) : FnOk P w K mg base (L2N.CX P w) 6 ad.a_placed ad.d_placed ["points", "point"] (spB K ad.c_NoPoint B_placed_points) := by
  have G_ask_points_points := ok_ask_points_points (P := P) (w := w) (base := base) T
  refine ok_B (k := 5) T.F_placed sc_placed (by rintro _ ⟨_, _, rfl, _⟩; rfl) (fun cdv A outer s H E hr ds hB => ?_)
  have tk : L2N.Takes (cxOf (L2N.CX P w) P w K mg base N_placed "placed" (defScope s_placed) ad.a_placed cdv A outer s H E) (fun cls d _ H => E cls d H) := L2N.takes_of rfl rfl rfl rfl
  have own := passes_of (X := cxOf (L2N.CX P w) P w K mg base N_placed "placed" (defScope s_placed) ad.a_placed cdv A outer s H E) (K := fun e s'' => L2N.CX P w outer H s E e s'') rfl
  refine ⟨_, (pss_cons (ps_expr (pe_callS G_ask_points_points (hr.mono (by decide)) (by rfl) T.g_ask_points T.F_ask_points.kp T.b_ask_points (fun σ => L2N.passAt tk σ) (pa_cons (pv 0) pa_nil)))
      pss_never), ?_⟩
  obtain ⟨ps, d, rfl, h⟩ := hB
  exact re_end (re_drop (ee_call (ea_cons (ex_var rfl) ea_nil) ⟨ps, rfl, h⟩ rfl))

def B_placed_point : List PyData → Prop := fun ds => ∃ (ps : List HP.Pt) (p : HP.Pt), ds = [ptsD ps, ptD p] ∧ ps.length ≤ 12 ∧ (∀ q ∈ ps, Near q) ∧ ¬ Near p
theorem ok_placed_point {P : Program} {w : World} {K : PySem.W.Frag} {mg : Str → Option Value} {base : Heap} {ad : Ad} (T : Txt K mg ad) : FnOk P w K mg base (L2N.CX P w) 6 ad.a_placed ad.d_placed ["points", "point"] (spB K ad.c_NoPoint B_placed_point) := by
  have G_ask_points := ok_ask_points (P := P) (w := w) (base := base) T
  have G_ask_point_point := ok_ask_point_point (P := P) (w := w) (base := base) T
  refine ok_B (k := 5) T.F_placed sc_placed (by rintro _ ⟨_, _, rfl, _⟩; rfl) (fun cdv A outer s H E hr ds hB => ?_)
  have tk : L2N.Takes (cxOf (L2N.CX P w) P w K mg base N_placed "placed" (defScope s_placed) ad.a_placed cdv A outer s H E) (fun cls d _ H => E cls d H) := L2N.takes_of rfl rfl rfl rfl
  have own := passes_of (X := cxOf (L2N.CX P w) P w K mg base N_placed "placed" (defScope s_placed) ad.a_placed cdv A outer s H E) (K := fun e s'' => L2N.CX P w outer H s E e s'') rfl
  refine ⟨_, (pss_cons (LD.PS.nox (ps_expr (pe_call G_ask_points (hr.mono (by decide)) (by rfl) T.g_ask_points T.F_ask_points.kp T.b_ask_points .nil pass0 (pa_cons (pv 0) pa_nil))))
      (pss_cons (ps_expr (pe_callS G_ask_point_point (hr.mono (by decide)) (by rfl) T.g_ask_point T.F_ask_point.kp T.b_ask_point (fun σ => L2N.passAt tk σ) (pa_cons (pv 1) pa_nil)))
      pss_never)), ?_⟩
  obtain ⟨ps, p, rfl, hl, hn, h⟩ := hB
  exact re_seq (rx_drop (ex_call (ea_cons (ex_var rfl) ea_nil) ⟨⟨ps, rfl, hl, hn⟩, rfl⟩)) (re_end (re_drop (ee_call (ea_cons (ex_var rfl) ea_nil) ⟨p, rfl, h⟩ rfl)))

def B_parted_ones : List PyData → Prop := fun ds => ∃ (ps : List HP.Pt) (d : PyData), ds = [ptsD ps, d] ∧ BadPs ps
theorem ok_parted_ones {P : Program} {w : World} {K : PySem.W.Frag} {mg : Str → Option Value} {base : Heap} {ad : Ad} (T : Txt K mg ad) : FnOk P w K mg base (L2N.CX P w) 7 ad.a_parted ad.d_parted ["ones", "others"] (spB K ad.c_NoPoint B_parted_ones) := by
  have G_ask_points_points := ok_ask_points_points (P := P) (w := w) (base := base) T
  refine ok_B (k := 6) T.F_parted sc_parted (by rintro _ ⟨_, _, rfl, _⟩; rfl) (fun cdv A outer s H E hr ds hB => ?_)
  have tk : L2N.Takes (cxOf (L2N.CX P w) P w K mg base N_parted "parted" (defScope s_parted) ad.a_parted cdv A outer s H E) (fun cls d _ H => E cls d H) := L2N.takes_of rfl rfl rfl rfl
  have own := passes_of (X := cxOf (L2N.CX P w) P w K mg base N_parted "parted" (defScope s_parted) ad.a_parted cdv A outer s H E) (K := fun e s'' => L2N.CX P w outer H s E e s'') rfl
  refine ⟨_, (pss_cons (ps_expr (pe_callS G_ask_points_points (hr.mono (by decide)) (by rfl) T.g_ask_points T.F_ask_points.kp T.b_ask_points (fun σ => L2N.passAt tk σ) (pa_cons (pv 0) pa_nil)))
      pss_never), ?_⟩
  obtain ⟨ps, d, rfl, h⟩ := hB
  exact re_end (re_drop (ee_call (ea_cons (ex_var rfl) ea_nil) ⟨ps, rfl, h⟩ rfl))

def B_parted_others : List PyData → Prop := fun ds => ∃ ps qs : List HP.Pt, ds = [ptsD ps, ptsD qs] ∧ ps.length ≤ 12 ∧ (∀ q ∈ ps, Near q) ∧ BadPs qs
theorem ok_parted_others {P : Program} {w : World} {K : PySem.W.Frag} {mg : Str → Option Value} {base : Heap} {ad : Ad} (T : Txt K mg ad) : FnOk P w K mg base (L2N.CX P w) 7 ad.a_parted ad.d_parted ["ones", "others"] (spB K ad.c_NoPoint B_parted_others) := by
  have G_X_ask_points := FnOk.either (ok_ask_points (P := P) (w := w) (base := base) T) (ok_ask_points_points T)
  refine ok_B (k := 6) T.F_parted sc_parted (by rintro _ ⟨_, _, rfl, _⟩; rfl) (fun cdv A outer s H E hr ds hB => ?_)
  have tk : L2N.Takes (cxOf (L2N.CX P w) P w K mg base N_parted "parted" (defScope s_parted) ad.a_parted cdv A outer s H E) (fun cls d _ H => E cls d H) := L2N.takes_of rfl rfl rfl rfl
  have own := passes_of (X := cxOf (L2N.CX P w) P w K mg base N_parted "parted" (defScope s_parted) ad.a_parted cdv A outer s H E) (K := fun e s'' => L2N.CX P w outer H s E e s'') rfl
  refine ⟨_, (pss_cons (ps_expr (pe_callS G_X_ask_points (hr.mono (by decide)) (by rfl) T.g_ask_points T.F_ask_points.kp T.b_ask_points (fun σ => L2N.passAt tk σ) (pa_cons (pv 0) pa_nil)))
      (pss_cons (ps_expr (pe_callS G_X_ask_points (hr.mono (by decide)) (by rfl) T.g_ask_points T.F_ask_points.kp T.b_ask_points (fun σ => L2N.passAt tk σ) (pa_cons (pv 1) pa_nil)))
      pss_never)), ?_⟩
  obtain ⟨ps, qs, rfl, hl, hn, h⟩ := hB
  exact re_seq (rx_drop (ex_callX (ea_cons (ex_var rfl) ea_nil) ⟨⟨ps, rfl, hl, hn⟩, rfl⟩)) (re_end (re_drop (ee_callX (ea_cons (ex_var rfl) ea_nil) ⟨qs, rfl, h⟩ rfl)))

def B_four_parted_points : List PyData → Prop := fun ds => ∃ ps : List HP.Pt, ds = [ptsD ps] ∧ BadPs ps
theorem ok_four_parted_points {P : Program} {w : World} {K : PySem.W.Frag} {mg : Str → Option Value} {base : Heap} {ad : Ad} (T : Txt K mg ad) : FnOk P w K mg base (L2N.CX P w) 8 ad.a_four_parted ad.d_four_parted ["points"] (spB K ad.c_NoPoint B_four_parted_points) := by
  have G_ask_points_points := ok_ask_points_points (P := P) (w := w) (base := base) T
  refine ok_B (k := 7) T.F_four_parted sc_four_parted (by rintro _ ⟨_, rfl, _⟩; rfl) (fun cdv A outer s H E hr ds hB => ?_)
  have tk : L2N.Takes (cxOf (L2N.CX P w) P w K mg base N_four_parted "four_parted" (defScope s_four_parted) ad.a_four_parted cdv A outer s H E) (fun cls d _ H => E cls d H) := L2N.takes_of rfl rfl rfl rfl
  have own := passes_of (X := cxOf (L2N.CX P w) P w K mg base N_four_parted "four_parted" (defScope s_four_parted) ad.a_four_parted cdv A outer s H E) (K := fun e s'' => L2N.CX P w outer H s E e s'') rfl
  refine ⟨_, (pss_cons (ps_expr (pe_callS G_ask_points_points (hr.mono (by decide)) (by rfl) T.g_ask_points T.F_ask_points.kp T.b_ask_points (fun σ => L2N.passAt tk σ) (pa_cons (pv 0) pa_nil)))
      pss_never), ?_⟩
  obtain ⟨ps, rfl, h⟩ := hB
  exact re_end (re_drop (ee_call (ea_cons (ex_var rfl) ea_nil) ⟨ps, rfl, h⟩ rfl))

def B_depth_points : List PyData → Prop := fun ds => ∃ (ps : List HP.Pt) (d : PyData), ds = [ptsD ps, d] ∧ BadPs ps
theorem ok_depth_points {P : Program} {w : World} {K : PySem.W.Frag} {mg : Str → Option Value} {base : Heap} {ad : Ad} (T : Txt K mg ad) : FnOk P w K mg base (L2N.CX P w) 3 ad.a_depth ad.d_depth ["points", "spot"] (spB K ad.c_NoPoint B_depth_points) := by
  have G_ask_points_points := ok_ask_points_points (P := P) (w := w) (base := base) T
  refine ok_B (k := 2) T.F_depth sc_depth (by rintro _ ⟨_, _, rfl, _⟩; rfl) (fun cdv A outer s H E hr ds hB => ?_)
  have tk : L2N.Takes (cxOf (L2N.CX P w) P w K mg base N_depth "depth" (defScope s_depth) ad.a_depth cdv A outer s H E) (fun cls d _ H => E cls d H) := L2N.takes_of rfl rfl rfl rfl
  have own := passes_of (X := cxOf (L2N.CX P w) P w K mg base N_depth "depth" (defScope s_depth) ad.a_depth cdv A outer s H E) (K := fun e s'' => L2N.CX P w outer H s E e s'') rfl
  refine ⟨_, (pss_cons (ps_expr (pe_callS G_ask_points_points (hr.mono (by decide)) (by rfl) T.g_ask_points T.F_ask_points.kp T.b_ask_points (fun σ => L2N.passAt tk σ) (pa_cons (pv 0) pa_nil)))
      pss_never), ?_⟩
  obtain ⟨ps, d, rfl, h⟩ := hB
  exact re_end (re_drop (ee_call (ea_cons (ex_var rfl) ea_nil) ⟨ps, rfl, h⟩ rfl))

def B_middle_points : List PyData → Prop := fun ds => ∃ ps : List HP.Pt, ds = [ptsD ps] ∧ BadPs ps
theorem ok_middle_points {P : Program} {w : World} {K : PySem.W.Frag} {mg : Str → Option Value} {base : Heap} {ad : Ad} (T : Txt K mg ad) : FnOk P w K mg base (L2N.CX P w) 9 ad.a_middle ad.d_middle ["points"] (spB K ad.c_NoPoint B_middle_points) := by
  have G_ask_points_points := ok_ask_points_points (P := P) (w := w) (base := base) T
  refine ok_B (k := 8) T.F_middle sc_middle (by rintro _ ⟨_, rfl, _⟩; rfl) (fun cdv A outer s H E hr ds hB => ?_)
  have tk : L2N.Takes (cxOf (L2N.CX P w) P w K mg base N_middle "middle" (defScope s_middle) ad.a_middle cdv A outer s H E) (fun cls d _ H => E cls d H) := L2N.takes_of rfl rfl rfl rfl
  have own := passes_of (X := cxOf (L2N.CX P w) P w K mg base N_middle "middle" (defScope s_middle) ad.a_middle cdv A outer s H E) (K := fun e s'' => L2N.CX P w outer H s E e s'') rfl
  refine ⟨_, (pss_cons (ps_expr (pe_callS G_ask_points_points (hr.mono (by decide)) (by rfl) T.g_ask_points T.F_ask_points.kp T.b_ask_points (fun σ => L2N.passAt tk σ) (pa_cons (pv 0) pa_nil)))
      pss_never), ?_⟩
  obtain ⟨ps, rfl, h⟩ := hB
  exact re_end (re_drop (ee_call (ea_cons (ex_var rfl) ea_nil) ⟨ps, rfl, h⟩ rfl))

def B_shown_points : List PyData → Prop := fun ds => ∃ ps : List HP.Pt, ds = [ptsD ps] ∧ BadPs ps
theorem ok_shown_points {P : Program} {w : World} {K : PySem.W.Frag} {mg : Str → Option Value} {base : Heap} {ad : Ad} (T : Txt K mg ad) : FnOk P w K mg base (L2N.CX P w) 3 ad.a_shown ad.d_shown ["points"] (spB K ad.c_NoPoint B_shown_points) := by
  have G_ask_points_points := ok_ask_points_points (P := P) (w := w) (base := base) T
  refine ok_B (k := 2) T.F_shown sc_shown (by rintro _ ⟨_, rfl, _⟩; rfl) (fun cdv A outer s H E hr ds hB => ?_)
  have tk : L2N.Takes (cxOf (L2N.CX P w) P w K mg base N_shown "shown" (defScope s_shown) ad.a_shown cdv A outer s H E) (fun cls d _ H => E cls d H) := L2N.takes_of rfl rfl rfl rfl
  have own := passes_of (X := cxOf (L2N.CX P w) P w K mg base N_shown "shown" (defScope s_shown) ad.a_shown cdv A outer s H E) (K := fun e s'' => L2N.CX P w outer H s E e s'') rfl
  refine ⟨_, (pss_cons (ps_expr (pe_callS G_ask_points_points (hr.mono (by decide)) (by rfl) T.g_ask_points T.F_ask_points.kp T.b_ask_points (fun σ => L2N.passAt tk σ) (pa_cons (pv 0) pa_nil)))
      pss_never), ?_⟩
  obtain ⟨ps, rfl, h⟩ := hB
  exact re_end (re_drop (ee_call (ea_cons (ex_var rfl) ea_nil) ⟨ps, rfl, h⟩ rfl))

def B__law_asked_point : List PyData → Prop := fun ds => ∃ (k : Int) (ps : List HP.Pt), ds = [.int k, ptsD ps] ∧ (((k = 0 ∨ k = 1 ∨ k = 2 ∨ k = 3 ∨ k = 9 ∨ k = 4 ∨ k = 5 ∨ k = 6 ∨ k = 7) ∧ BadPs ps) ∨ ((k = 10 ∨ k = 8) ∧ ∃ p, ps = [p] ∧ ¬ Near p))
theorem ok__law_asked_point {P : Program} {w : World} {K : PySem.W.Frag} {mg : Str → Option Value} {base : Heap} {ad : Ad} (T : Txt K mg ad) : FnOk P w K mg base (L2N.CX P w) 10 ad.a__law_asked ad.d__law_asked ["which", "points"] (spB K ad.c_NoPoint B__law_asked_point) := by
  have G_corners_points := ok_corners_points (P := P) (w := w) (base := base) T
  have G_four_parted_points := ok_four_parted_points (P := P) (w := w) (base := base) T
  have G_depth_points := ok_depth_points (P := P) (w := w) (base := base) T
  have G_middle_points := ok_middle_points (P := P) (w := w) (base := base) T
  have G_shown_points := ok_shown_points (P := P) (w := w) (base := base) T
  have G_X_placed := FnOk.bothB (ok_placed_points (P := P) (w := w) (base := base) T) (ok_placed_point T)
  have G_X_parted := FnOk.bothB (ok_parted_ones (P := P) (w := w) (base := base) T) (ok_parted_others T)
  refine ok_B (k := 9) T.F__law_asked sc__law_asked (by rintro _ ⟨_, _, rfl, _⟩; rfl) (fun cdv A outer s H E hr ds hB => ?_)
  have tk : L2N.Takes (cxOf (L2N.CX P w) P w K mg base N__law_asked "_law_asked" (defScope s__law_asked) ad.a__law_asked cdv A outer s H E) (fun cls d _ H => E cls d H) := L2N.takes_of rfl rfl rfl rfl
  have own := passes_of (X := cxOf (L2N.CX P w) P w K mg base N__law_asked "_law_asked" (defScope s__law_asked) ad.a__law_asked cdv A outer s H E) (K := fun e s'' => L2N.CX P w outer H s E e s'') rfl
  refine ⟨_, (pss_cons (ps_if (pt_cmpR (op_eqD hr.units) (pv 0) pe_int (nomark _)) (pss_one (ps_ret (pe_callS G_corners_points (hr.mono (by decide)) (by rfl) T.g_corners T.F_corners.kp T.b_corners (fun σ => L2N.passAt tk σ) (pa_cons (pv 1) pa_nil)))) pss_nil)
      (pss_cons (ps_if (pt_cmpR (op_eqD hr.units) (pv 0) pe_int (nomark _)) (pss_one (ps_ret (pe_callS G_X_placed (hr.mono (by decide)) (by rfl) T.g_placed T.F_placed.kp T.b_placed (fun σ => L2N.passAt tk σ) (pa_cons (pv 1) (pa_cons (pe_tup (pa_cons pe_int (pa_cons pe_int pa_nil))) pa_nil))))) pss_nil)
      (pss_cons (ps_if (pt_cmpR (op_eqD hr.units) (pv 0) pe_int (nomark _)) (pss_one (ps_ret (pe_callS G_X_parted (hr.mono (by decide)) (by rfl) T.g_parted T.F_parted.kp T.b_parted (fun σ => L2N.passAt tk σ) (pa_cons (pv 1) (pa_cons (pe_lst pa_nil) pa_nil))))) pss_nil)
      (pss_cons (ps_if (pt_cmpR (op_eqD hr.units) (pv 0) pe_int (nomark _)) (pss_one (ps_ret (pe_callS G_X_parted (hr.mono (by decide)) (by rfl) T.g_parted T.F_parted.kp T.b_parted (fun σ => L2N.passAt tk σ) (pa_cons (pe_lst (pa_cons (pe_tup (pa_cons pe_int (pa_cons pe_int pa_nil))) pa_nil)) (pa_cons (pv 1) pa_nil))))) pss_nil)
      (pss_cons (ps_if (pt_cmpR (op_eqD hr.units) (pv 0) pe_int (nomark _)) (pss_one (ps_ret (pe_callS G_X_parted (hr.mono (by decide)) (by rfl) T.g_parted T.F_parted.kp T.b_parted (fun σ => L2N.passAt tk σ) (pa_cons (pe_lst pa_nil) (pa_cons (pv 1) pa_nil))))) pss_nil)
      (pss_cons (ps_if (pt_cmpR (op_eqD hr.units) (pv 0) pe_int (nomark _)) (pss_one (ps_ret (pe_callS G_X_placed (hr.mono (by decide)) (by rfl) T.g_placed T.F_placed.kp T.b_placed (fun σ => L2N.passAt tk σ) (pa_cons (pe_lst pa_nil) (pa_cons (pe_ix ix_seq (pv 1) (pe_un un_neg pe_int) (fun _ _ => rfl)) pa_nil))))) pss_nil)
      (pss_cons (ps_if (pt_cmpR (op_eqD hr.units) (pv 0) pe_int (nomark _)) (pss_one (ps_ret (pe_callS G_four_parted_points (hr.mono (by decide)) (by rfl) T.g_four_parted T.F_four_parted.kp T.b_four_parted (fun σ => L2N.passAt tk σ) (pa_cons (pv 1) pa_nil)))) pss_nil)
      (pss_cons (ps_if (pt_cmpR (op_eqD hr.units) (pv 0) pe_int (nomark _)) (pss_one (ps_ret (pe_callS G_depth_points (hr.mono (by decide)) (by rfl) T.g_depth T.F_depth.kp T.b_depth (fun σ => L2N.passAt tk σ) (pa_cons (pv 1) (pa_cons (pe_tup (pa_cons pe_int (pa_cons pe_int (pa_cons pe_int pa_nil)))) pa_nil))))) pss_nil)
      (pss_cons (ps_if (pt_cmpR (op_eqD hr.units) (pv 0) pe_int (nomark _)) (pss_one (ps_ret (pe_callS G_middle_points (hr.mono (by decide)) (by rfl) T.g_middle T.F_middle.kp T.b_middle (fun σ => L2N.passAt tk σ) (pa_cons (pv 1) pa_nil)))) pss_nil)
      (pss_cons (ps_if (pt_cmpR (op_eqD hr.units) (pv 0) pe_int (nomark _)) (pss_one (ps_ret (pe_callS G_shown_points (hr.mono (by decide)) (by rfl) T.g_shown T.F_shown.kp T.b_shown (fun σ => L2N.passAt tk σ) (pa_cons (pv 1) pa_nil)))) pss_nil)
      (pss_one (ps_ret (pe_callS G_X_placed (hr.mono (by decide)) (by rfl) T.g_placed T.F_placed.kp T.b_placed (fun σ => L2N.passAt tk σ) (pa_cons (pe_lst (pa_cons (pe_tup (pa_cons pe_int (pa_cons pe_int pa_nil))) pa_nil)) (pa_cons (pe_ix ix_seq (pv 1) (pe_un un_neg pe_int) (fun _ _ => rfl)) pa_nil))))))))))))))), ?_⟩
  obtain ⟨k, ps, rfl, h⟩ := hB
  have wh : ∀ (e : SE) (j : Int) (b : Bool), e[0]? = some (.dat (.int k)) → decide (k = j) = b → EvTX K (tTest (tOp (rEqD K) (tVar 0) (tC (.int j)))) e b := fun e j b h hb => xt_is (xt_test (ex_eq (ex_var h) ex_int rfl rfl)) (by rw [eqv_int, hb])
  rcases h with ⟨rfl | rfl | rfl | rfl | rfl | rfl | rfl | rfl | rfl, h⟩ | ⟨rfl | rfl, p, rfl, h⟩
  · exact re_ifS (b := true) (wh _ 0 _ rfl rfl) (fun _ => re_end (re_ret (ee_call (ea_cons (ex_var rfl) ea_nil) ⟨ps, rfl, h⟩ rfl))) (fun e => by cases e)
  · exact re_ifS (b := false) (wh _ 0 _ rfl rfl) (fun e => by cases e) (fun _ => re_nextS (re_ifS (b := true) (wh _ 1 _ rfl rfl) (fun _ => re_end (re_ret (ee_call (ea_cons (ex_var rfl) (ea_cons (ex_is (ex_tup (ea_cons ex_int (ea_cons ex_int ea_nil)) (Nat.le_of_ble_eq_true rfl)) (show _ = ptD (0, 0) from rfl)) ea_nil)) (.inl ⟨ps, _, rfl, h⟩) rfl))) (fun e => by cases e)))
  · exact re_ifS (b := false) (wh _ 0 _ rfl rfl) (fun e => by cases e) (fun _ => re_nextS (re_ifS (b := false) (wh _ 1 _ rfl rfl) (fun e => by cases e) (fun _ => re_nextS (re_ifS (b := true) (wh _ 2 _ rfl rfl) (fun _ => re_end (re_ret (ee_call (ea_cons (ex_var rfl) (ea_cons (ex_is (ex_new (xf_lst ea_nil (Nat.le_of_ble_eq_true rfl))) (show _ = ptsD [] from rfl)) ea_nil)) (.inl ⟨ps, _, rfl, h⟩) rfl))) (fun e => by cases e)))))
  · exact re_ifS (b := false) (wh _ 0 _ rfl rfl) (fun e => by cases e) (fun _ => re_nextS (re_ifS (b := false) (wh _ 1 _ rfl rfl) (fun e => by cases e) (fun _ => re_nextS (re_ifS (b := false) (wh _ 2 _ rfl rfl) (fun e => by cases e) (fun _ => re_nextS (re_ifS (b := true) (wh _ 3 _ rfl rfl) (fun _ => re_end (re_ret (ee_call (ea_cons (ex_is (ex_new (xf_lst (ea_cons (ex_is (ex_tup (ea_cons ex_int (ea_cons ex_int ea_nil)) (Nat.le_of_ble_eq_true rfl)) (show _ = ptD (0, 0) from rfl)) ea_nil) (Nat.le_of_ble_eq_true rfl))) (show _ = ptsD [(0, 0)] from rfl)) (ea_cons (ex_var rfl) ea_nil)) (.inr ⟨[(0, 0)], ps, rfl, by simp, (by intro q hq; rw [List.mem_singleton.mp hq]; unfold Near; simp), h⟩) rfl))) (fun e => by cases e)))))))
  · exact re_ifS (b := false) (wh _ 0 _ rfl rfl) (fun e => by cases e) (fun _ => re_nextS (re_ifS (b := false) (wh _ 1 _ rfl rfl) (fun e => by cases e) (fun _ => re_nextS (re_ifS (b := false) (wh _ 2 _ rfl rfl) (fun e => by cases e) (fun _ => re_nextS (re_ifS (b := false) (wh _ 3 _ rfl rfl) (fun e => by cases e) (fun _ => re_nextS (re_ifS (b := true) (wh _ 9 _ rfl rfl) (fun _ => re_end (re_ret (ee_call (ea_cons (ex_is (ex_new (xf_lst ea_nil (Nat.le_of_ble_eq_true rfl))) (show _ = ptsD [] from rfl)) (ea_cons (ex_var rfl) ea_nil)) (.inr ⟨[], ps, rfl, by simp, (by intro q hq; cases hq), h⟩) rfl))) (fun e => by cases e)))))))))
  · exact re_ifS (b := false) (wh _ 0 _ rfl rfl) (fun e => by cases e) (fun _ => re_nextS (re_ifS (b := false) (wh _ 1 _ rfl rfl) (fun e => by cases e) (fun _ => re_nextS (re_ifS (b := false) (wh _ 2 _ rfl rfl) (fun e => by cases e) (fun _ => re_nextS (re_ifS (b := false) (wh _ 3 _ rfl rfl) (fun e => by cases e) (fun _ => re_nextS (re_ifS (b := false) (wh _ 9 _ rfl rfl) (fun e => by cases e) (fun _ => re_nextS (re_ifS (b := false) (wh _ 10 _ rfl rfl) (fun e => by cases e) (fun _ => re_nextS (re_ifS (b := true) (wh _ 4 _ rfl rfl) (fun _ => re_end (re_ret (ee_call (ea_cons (ex_var rfl) ea_nil) ⟨ps, rfl, h⟩ rfl))) (fun e => by cases e)))))))))))))
  · exact re_ifS (b := false) (wh _ 0 _ rfl rfl) (fun e => by cases e) (fun _ => re_nextS (re_ifS (b := false) (wh _ 1 _ rfl rfl) (fun e => by cases e) (fun _ => re_nextS (re_ifS (b := false) (wh _ 2 _ rfl rfl) (fun e => by cases e) (fun _ => re_nextS (re_ifS (b := false) (wh _ 3 _ rfl rfl) (fun e => by cases e) (fun _ => re_nextS (re_ifS (b := false) (wh _ 9 _ rfl rfl) (fun e => by cases e) (fun _ => re_nextS (re_ifS (b := false) (wh _ 10 _ rfl rfl) (fun e => by cases e) (fun _ => re_nextS (re_ifS (b := false) (wh _ 4 _ rfl rfl) (fun e => by cases e) (fun _ => re_nextS (re_ifS (b := true) (wh _ 5 _ rfl rfl) (fun _ => re_end (re_ret (ee_call (ea_cons (ex_var rfl) (ea_cons (ex_tup (ea_cons ex_int (ea_cons ex_int (ea_cons ex_int ea_nil))) (Nat.le_of_ble_eq_true rfl)) ea_nil)) ⟨ps, _, rfl, h⟩ rfl))) (fun e => by cases e)))))))))))))))
  · exact re_ifS (b := false) (wh _ 0 _ rfl rfl) (fun e => by cases e) (fun _ => re_nextS (re_ifS (b := false) (wh _ 1 _ rfl rfl) (fun e => by cases e) (fun _ => re_nextS (re_ifS (b := false) (wh _ 2 _ rfl rfl) (fun e => by cases e) (fun _ => re_nextS (re_ifS (b := false) (wh _ 3 _ rfl rfl) (fun e => by cases e) (fun _ => re_nextS (re_ifS (b := false) (wh _ 9 _ rfl rfl) (fun e => by cases e) (fun _ => re_nextS (re_ifS (b := false) (wh _ 10 _ rfl rfl) (fun e => by cases e) (fun _ => re_nextS (re_ifS (b := false) (wh _ 4 _ rfl rfl) (fun e => by cases e) (fun _ => re_nextS (re_ifS (b := false) (wh _ 5 _ rfl rfl) (fun e => by cases e) (fun _ => re_nextS (re_ifS (b := true) (wh _ 6 _ rfl rfl) (fun _ => re_end (re_ret (ee_call (ea_cons (ex_var rfl) ea_nil) ⟨ps, rfl, h⟩ rfl))) (fun e => by cases e)))))))))))))))))
  · exact re_ifS (b := false) (wh _ 0 _ rfl rfl) (fun e => by cases e) (fun _ => re_nextS (re_ifS (b := false) (wh _ 1 _ rfl rfl) (fun e => by cases e) (fun _ => re_nextS (re_ifS (b := false) (wh _ 2 _ rfl rfl) (fun e => by cases e) (fun _ => re_nextS (re_ifS (b := false) (wh _ 3 _ rfl rfl) (fun e => by cases e) (fun _ => re_nextS (re_ifS (b := false) (wh _ 9 _ rfl rfl) (fun e => by cases e) (fun _ => re_nextS (re_ifS (b := false) (wh _ 10 _ rfl rfl) (fun e => by cases e) (fun _ => re_nextS (re_ifS (b := false) (wh _ 4 _ rfl rfl) (fun e => by cases e) (fun _ => re_nextS (re_ifS (b := false) (wh _ 5 _ rfl rfl) (fun e => by cases e) (fun _ => re_nextS (re_ifS (b := false) (wh _ 6 _ rfl rfl) (fun e => by cases e) (fun _ => re_nextS (re_ifS (b := true) (wh _ 7 _ rfl rfl) (fun _ => re_end (re_ret (ee_call (ea_cons (ex_var rfl) ea_nil) ⟨ps, rfl, h⟩ rfl))) (fun e => by cases e)))))))))))))))))))
  · exact re_ifS (b := false) (wh _ 0 _ rfl rfl) (fun e => by cases e) (fun _ => re_nextS (re_ifS (b := false) (wh _ 1 _ rfl rfl) (fun e => by cases e) (fun _ => re_nextS (re_ifS (b := false) (wh _ 2 _ rfl rfl) (fun e => by cases e) (fun _ => re_nextS (re_ifS (b := false) (wh _ 3 _ rfl rfl) (fun e => by cases e) (fun _ => re_nextS (re_ifS (b := false) (wh _ 9 _ rfl rfl) (fun e => by cases e) (fun _ => re_nextS (re_ifS (b := true) (wh _ 10 _ rfl rfl) (fun _ => re_end (re_ret (ee_call (ea_cons (ex_is (ex_new (xf_lst ea_nil (Nat.le_of_ble_eq_true rfl))) (show _ = ptsD [] from rfl)) (ea_cons (ex_ixL (ds := [ptD p]) (ex_var rfl) (ex_U (g := fun i => -i) ex_int) rfl) ea_nil)) (.inr ⟨[], p, rfl, by simp, (by intro q hq; cases hq), h⟩) rfl))) (fun e => by cases e)))))))))))
  · exact re_ifS (b := false) (wh _ 0 _ rfl rfl) (fun e => by cases e) (fun _ => re_nextS (re_ifS (b := false) (wh _ 1 _ rfl rfl) (fun e => by cases e) (fun _ => re_nextS (re_ifS (b := false) (wh _ 2 _ rfl rfl) (fun e => by cases e) (fun _ => re_nextS (re_ifS (b := false) (wh _ 3 _ rfl rfl) (fun e => by cases e) (fun _ => re_nextS (re_ifS (b := false) (wh _ 9 _ rfl rfl) (fun e => by cases e) (fun _ => re_nextS (re_ifS (b := false) (wh _ 10 _ rfl rfl) (fun e => by cases e) (fun _ => re_nextS (re_ifS (b := false) (wh _ 4 _ rfl rfl) (fun e => by cases e) (fun _ => re_nextS (re_ifS (b := false) (wh _ 5 _ rfl rfl) (fun e => by cases e) (fun _ => re_nextS (re_ifS (b := false) (wh _ 6 _ rfl rfl) (fun e => by cases e) (fun _ => re_nextS (re_ifS (b := false) (wh _ 7 _ rfl rfl) (fun e => by cases e) (fun _ => re_nextS (re_ret (ee_call (ea_cons (ex_is (ex_new (xf_lst (ea_cons (ex_is (ex_tup (ea_cons ex_int (ea_cons ex_int ea_nil)) (Nat.le_of_ble_eq_true rfl)) (show _ = ptD (0, 0) from rfl)) ea_nil) (Nat.le_of_ble_eq_true rfl))) (show _ = ptsD [(0, 0)] from rfl)) (ea_cons (ex_ixL (ds := [ptD p]) (ex_var rfl) (ex_U (g := fun i => -i) ex_int) rfl) ea_nil)) (.inr ⟨[(0, 0)], p, rfl, by simp, (by intro q hq; rw [List.mem_singleton.mp hq]; unfold Near; simp), h⟩) rfl)))))))))))))))))))))

def F__law_tried : List PyData → PyData → Prop := fun ds d => ∃ (k : Int) (ps : List HP.Pt), ds = [.int k, ptsD ps] ∧
  ((ps.length ≤ 12 ∧ (∀ q ∈ ps, Near q) ∧ 1 ≤ ps.length ∧ (k = 0 ∨ k = 1 ∨ k = 2 ∨ k = 3 ∨ k = 7 ∨ k = 8) ∧ d = .str "done") ∨ (B__law_asked_point [.int k, ptsD ps] ∧ d = .str "point"))
theorem ok__law_tried {P : Program} {w : World} {K : PySem.W.Frag} {mg : Str → Option Value} {base : Heap} {ad : Ad} (T : Txt K mg ad) : FnOk P w K mg base CX0 11 ad.a__law_tried ad.d__law_tried ["which", "points"] (spD K F__law_tried) := by
  have G__law_asked := ok__law_asked (P := P) (w := w) (base := base) T
  have G__law_asked_point := ok__law_asked_point (P := P) (w := w) (base := base) T
  have G__law_kind_NoPoint := ok__law_kind_NoPoint (P := P) (w := w) (base := base) T
  refine ok_D (k := 10) T.F__law_tried sc__law_tried (by rintro _ _ ⟨_, _, rfl, _⟩; rfl) (fun cdv A outer s H E hr ds res hF => ?_)
  obtain ⟨k, ps, rfl, ⟨hl, hn, h1, hk, rfl⟩ | ⟨hB, rfl⟩⟩ := hF
  · refine ⟨_, (pss_cons (ps_try_thru0 (pss_one (ps_expr (pe_call G__law_asked (hr.mono (by decide)) (by rfl) T.g__law_asked T.F__law_asked.kp T.b__law_asked .nil pass0 (pa_cons (pv 0) (pa_cons (pv 1) pa_nil))))))
      (pss_one (ps_ret pe_str))), ?_⟩
    exact rx_seq (rx_dropR (er_call (ea_cons (ex_var rfl) (ea_cons (ex_var rfl) ea_nil)) ⟨k, ps, rfl, hl, hn, h1, hk, rfl⟩)) (rx_ret ex_str)
  · refine ⟨_, (pss_cons (ps_tried (cH := ad.c_HullError) (C := ad.c_NoPoint) (i := 2) rfl rfl sc__law_tried.nd rfl rfl (by rfl) T.g_HullError (fun W pn xe tk own => (pss_one (ps_expr (pe_callS G__law_asked_point (hr.mono (by decide)) (by rfl) T.g__law_asked T.F__law_asked.kp T.b__law_asked (fun σ => L2N.passAt tk σ) (pa_cons (pv 0) (pa_cons (pv 1) pa_nil))))))
      (fun a oe pn hz hd => (pss_one (ps_ret (pe_kind G__law_kind_NoPoint ⟨(hr.mono (show 1 ≤ 10 by decide)).dp, (hr.mono (show 1 ≤ 10 by decide)).un⟩ (by rfl) T.g__law_kind T.F__law_kind.kp T.b__law_kind hz hd (pv 2)))))) pss_never), ?_⟩
    exact rx_end (rx_triedK (fun W => re_drop (ee_call (ea_cons (ex_var rfl) (ea_cons (ex_var rfl) ea_nil)) hB rfl)) (Nat.le_of_ble_eq_true rfl) (exm_own T.R_HullError T.s_NoPoint_HullError)) rfl

def F_law : List PyData → PyData → Prop := fun ds d => ∃ ns : List Int, ds = [scrD ns] ∧ ns.length ≤ 63 ∧ d = .bool true
theorem placeC_out {c : Int} (h : 0 ≤ c) : ¬ (-1000 ≤ placeC c ∧ placeC c ≤ 1000) := by
  have f0 : 0 ≤ farC c := by unfold farC; exact Int.emod_nonneg _ (by decide)
  unfold placeC
  generalize farC c = f at f0 ⊢
  split
  · omega
  · split
    · omega
    · split <;> omega
theorem pointC_out {c : Int} (h : 0 ≤ c) : ¬ Near (pointC c) := by
  have := placeC_out h
  unfold pointC Near
  split <;> simp only <;> omega
theorem badPts_bad {ps : List HP.Pt} {c : Int} (h : 0 ≤ c) : BadPs (badPts ps c) := by
  unfold badPts
  split
  · left
    have e : (List.replicate 13 [((0 : Int), (0 : Int)), (1, 1)]).flatten.length = 26 := rfl
    rw [List.length_take, List.length_append, e]
    omega
  · right
    exact ⟨pointC c, by simp, pointC_out h⟩
def edgeP : List HP.Pt := [(1000, -1000), (-1000, 1000), (1000, 1000)]
theorem edge_near : ∀ q ∈ edgeP, Near q := by
  intro q hq
  unfold edgeP at hq
  simp only [List.mem_cons, List.not_mem_nil, or_false] at hq
  unfold Near
  rcases hq with e | e | e <;> subst e <;> simp
theorem ok_law {P : Program} {w : World} {K : PySem.W.Frag} {mg : Str → Option Value} {base : Heap} {ad : Ad} (T : Txt K mg ad) : FnOk P w K mg base CX0 12 ad.a_law ad.d_law ["script"] (spD K F_law) := by
  have G__law_points := ok__law_points (P := P) (w := w) (base := base) T
  have G__law_cell_at := ok__law_cell_at (P := P) (w := w) (base := base) T
  have G__law_bad := ok__law_bad (P := P) (w := w) (base := base) T
  have G__law_tried := ok__law_tried (P := P) (w := w) (base := base) T
  refine ok_D (k := 11) T.F_law sc_law (by rintro _ _ ⟨_, rfl, _⟩; rfl) (fun cdv A outer s H E hr ds res hF => ?_)
  refine ⟨_, (pss_cons (ps_set (i := 1) sc_law.nd rfl (Or.inl rfl) (pe_call G__law_points (hr.mono (by decide)) (by rfl) T.g__law_points T.F__law_points.kp T.b__law_points .nil pass0 (pa_cons (pv 0) (pa_cons pe_int (pa_cons pe_int pa_nil)))))
      (pss_cons (ps_set (i := 2) sc_law.nd rfl (Or.inl rfl) (pe_op op_mod (pe_call G__law_cell_at (hr.mono (by decide)) (by rfl) T.g__law_cell_at T.F__law_cell_at.kp T.b__law_cell_at .nil pass0 (pa_cons (pv 0) (pa_cons pe_int pa_nil))) (pe_op op_pow pe_int pe_int)))
      (pss_cons (ps_set (i := 3) sc_law.nd rfl (Or.inl rfl) (pe_call G__law_bad (hr.mono (by decide)) (by rfl) T.g__law_bad T.F__law_bad.kp T.b__law_bad .nil pass0 (pa_cons (pv 1) (pa_cons (pv 2) pa_nil))))
      (pss_cons (ps_for PassesOwn.never rfl (pi_range1 (by rfl) T.n_range (pa_cons pe_int pa_nil)) (pg_name (i := 4) sc_law.nd rfl (Or.inl rfl)) (pss_one (ps_if (pt_cmpR (op_neD hr.units) (pe_call G__law_tried (hr.mono (by decide)) (by rfl) T.g__law_tried T.F__law_tried.kp T.b__law_tried .nil pass0 (pa_cons (pv 4) (pa_cons (pe_callTy call_list_of (by rfl) T.n_list (by decide +kernel) (pa_cons (pv 3) pa_nil)) pa_nil))) pe_str (nomark _)) (pss_one (ps_ret pe_bl)) pss_nil)))
      (pss_cons (ps_if (PW.pt (pw_or (pt_cmpR (op_neD hr.units) (pe_call G__law_tried (hr.mono (by decide)) (by rfl) T.g__law_tried T.F__law_tried.kp T.b__law_tried .nil pass0 (pa_cons pe_int (pa_cons (pe_lst (pa_cons (pe_tup (pa_cons (pe_op op_add pe_int (pe_op op_fdiv (pv 2) pe_int)) (pa_cons pe_int pa_nil))) pa_nil)) pa_nil))) pe_str (nomark _)) (pw_or1 (pt_cmpR (op_neD hr.units) (pe_call G__law_tried (hr.mono (by decide)) (by rfl) T.g__law_tried T.F__law_tried.kp T.b__law_tried .nil pass0 (pa_cons pe_int (pa_cons (pe_lst (pa_cons (pe_tup (pa_cons pe_int (pa_cons (pe_un un_neg pe_int) pa_nil))) pa_nil)) pa_nil))) pe_str (nomark _))))) (pss_one (ps_ret pe_bl)) pss_nil)
      (pss_cons (ps_if (PW.pt (pw_or (pt_cmpR (op_neD hr.units) (pe_call G__law_tried (hr.mono (by decide)) (by rfl) T.g__law_tried T.F__law_tried.kp T.b__law_tried .nil pass0 (pa_cons pe_int (pa_cons (pe_callTy call_list_of (by rfl) T.n_list (by decide +kernel) (pa_cons (pv 3) pa_nil)) pa_nil))) pe_str (nomark _)) (pw_or1 (pt_cmpR (op_neD hr.units) (pe_call G__law_tried (hr.mono (by decide)) (by rfl) T.g__law_tried T.F__law_tried.kp T.b__law_tried .nil pass0 (pa_cons pe_int (pa_cons (pe_lst (pa_cons (pe_tup (pa_cons pe_int (pa_cons (pe_op op_add pe_int (pe_op op_fdiv (pv 2) pe_int)) pa_nil))) pa_nil)) pa_nil))) pe_str (nomark _))))) (pss_one (ps_ret pe_bl)) pss_nil)
      (pss_cons (ps_set (i := 5) sc_law.nd rfl (Or.inl rfl) (pe_lst (pa_cons (pe_tup (pa_cons pe_int (pa_cons (pe_un un_neg pe_int) pa_nil))) (pa_cons (pe_tup (pa_cons (pe_un un_neg pe_int) (pa_cons pe_int pa_nil))) (pa_cons (pe_tup (pa_cons pe_int (pa_cons pe_int pa_nil))) pa_nil)))))
      (pss_cons (ps_for PassesOwn.never rfl (pi_list (pe_lst (pa_cons pe_int (pa_cons pe_int (pa_cons pe_int (pa_cons pe_int (pa_cons pe_int (pa_cons pe_int pa_nil)))))))) (pg_name (i := 4) sc_law.nd rfl (Or.inl rfl)) (pss_one (ps_if (pt_cmpR (op_neD hr.units) (pe_call G__law_tried (hr.mono (by decide)) (by rfl) T.g__law_tried T.F__law_tried.kp T.b__law_tried .nil pass0 (pa_cons (pv 4) (pa_cons (pe_op op_cat (pe_op op_cat (pe_lst (pa_cons (pe_tup (pa_cons pe_int (pa_cons pe_int pa_nil))) pa_nil)) (pe_slice sl_list (pv 1) po_none (po_some pe_int))) (pv 5)) pa_nil))) pe_str (nomark _)) (pss_one (ps_ret pe_bl)) pss_nil)))
      (pss_one (ps_ret (pe_cmpR (op_eqD hr.units) (pe_call G__law_tried (hr.mono (by decide)) (by rfl) T.g__law_tried T.F__law_tried.kp T.b__law_tried .nil pass0 (pa_cons pe_int (pa_cons (pv 5) pa_nil))) pe_str (nomark _)))))))))))), ?_⟩
  obtain ⟨ns, rfl, hns, rfl⟩ := hF
  have cl : ∀ (e : SE) (k : Nat), e[0]? = some (.dat (scrD ns)) → EvX K (tCall (spD K F__law_cell_at) [] E0 (tCons (tVar 0) (tCons (tC (.int (k : Nat))) tNil))) e (.int (cell ns k)) := fun e k h0 => ex_call (ea_cons (ex_var h0) (ea_cons ex_int ea_nil)) ⟨ns, _, k, rfl, .inl rfl, rfl⟩
  have hlen := lawPoints_len (ns := ns) (at_ := 0) (most := 12)
  have hn := lawPoints_near (ns := ns) (at_ := 0) (most := 12)
  refine rx_seq (e1 := [.dat (scrD ns), .dat (ptsD (lawPoints ns 0 12)), .no, .no, .no, .no]) (rx_asg (ex_new (xf_call (ea_cons (ex_var rfl) (ea_cons ex_int (ea_cons ex_int ea_nil))) ⟨ns, _, 0, 12, rfl, .inl rfl, by omega, rfl⟩)) rfl) ?_
  generalize lawPoints ns 0 12 = ps at hlen hn ⊢
  have c0 : 0 ≤ cell ns 11 % 10 ^ 24 := Int.emod_nonneg _ (by decide)
  refine rx_seq (e1 := [.dat (scrD ns), .dat (ptsD ps), .dat (.int (cell ns 11 % 10 ^ 24)), .no, .no, .no]) (rx_asg (ex_I (g := fun i j => i % j) (cl _ 11 rfl) (ex_I (C := CPow) (g := fun i j => i ^ j.toNat) ex_int ex_int (by unfold CPow; omega)) (by decide)) rfl) ?_
  generalize cell ns 11 % 10 ^ 24 = c at c0 ⊢
  have hb := badPts_bad (ps := ps) c0
  refine rx_seq (e1 := [.dat (scrD ns), .dat (ptsD ps), .dat (.int c), .dat (ptsD (badPts ps c)), .no, .no]) (rx_asg (ex_new (xf_call (ea_cons (ex_var rfl) (ea_cons (ex_var rfl) ea_nil)) ⟨ps, c, rfl, by omega, c0, rfl⟩)) rfl) ?_
  generalize badPts ps c = bs at hb ⊢
  have neS : ∀ a : Str, (!PyData.eqv (.str a) (.str a)) = false := fun a => by simp only [PyData.eqv, beq_self_eq_true, Bool.not_true]
  -- a call that is refused, a call that is not
  have no : ∀ (e : SE) (t1 t2 : TE) (k : Int) (qs : List HP.Pt), EvX K t1 e (.int k) → EvX K t2 e (ptsD qs) → B__law_asked_point [.int k, ptsD qs] → EvTX K (tTest (tOp (rNeD K) (tCall (spD K F__law_tried) [] E0 (tCons t1 (tCons t2 tNil))) (tC (.str "point")))) e false := fun e t1 t2 k qs h1 h2 hB =>
    xt_is (xt_test (ex_ne (ex_call (ea_cons h1 (ea_cons h2 ea_nil)) ⟨k, qs, rfl, .inr ⟨hB, rfl⟩⟩) ex_str (by decide +kernel) (by decide +kernel))) (neS _)
  have lst : ∀ e : SE, e[3]? = some (.dat (ptsD bs)) → EvX K (tCB (fun xs H Q => ∃ p ys, xs = [.ref p] ∧ (SqL K H p ys ∨ SqT K H p ys) ∧ ∀ l, H l = none → Q (.ref l) (upd H l (.lst ys))) (tCons (tVar 3) tNil)) e (ptsD bs) := fun e h => ex_new (xf_list (ex_var h))
  have one : ∀ (e : SE) (t1 t2 : TE) (x y : Int), EvX K t1 e (.int x) → EvX K t2 e (.int y) → EvX K (tLst (tCons (tTup (tCons t1 (tCons t2 tNil))) tNil)) e (ptsD [(x, y)]) := fun e t1 t2 x y h1 h2 =>
    ex_is (ex_new (xf_lst (ea_cons (ex_is (ex_tup (ea_cons h1 (ea_cons h2 ea_nil)) (Nat.le_of_ble_eq_true rfl)) (show _ = ptD (x, y) from rfl)) ea_nil) (Nat.le_of_ble_eq_true rfl))) rfl
  refine rx_seq (e1 := [.dat (scrD ns), .dat (ptsD ps), .dat (.int c), .dat (ptsD bs), .no, .no]) (rx_forR1 (ea_cons ex_int ea_nil) (by omega) (fr_all (fun i : Nat => PyData.int (0 + (i : Nat))) [.dat (scrD ns), .dat (ptsD ps), .dat (.int c), .dat (ptsD bs), .no, .no] (List.range 8) fun i hi => ⟨_, tg_name' (e' := [.dat (scrD ns), .dat (ptsD ps), .dat (.int c), .dat (ptsD bs), .dat (.int (0 + (i : Nat))), .no]) rfl, ?_⟩)) ?_
  · have hi' := List.mem_range.mp hi
    exact rx_post (rx_if (b := false) (no _ _ _ (0 + (i : Nat)) bs (ex_var rfl) (lst _ rfl) ⟨_, bs, rfl, .inl ⟨by omega, hb⟩⟩) (fun e => by cases e) (fun _ => rx_next)) (.keep (.keep (.keep (.keep (.drop (.drop .nil))))))
  have far : ∀ e : SE, e[2]? = some (.dat (.int c)) → EvX K (tOp (rI0 fun i j => V.int (i + j)) (tC (.int 1001)) (tOp (rI CDiv fun i j => V.int (i / j)) (tVar 2) (tC (.int 64)))) e (.int (1001 + c / 64)) := fun e h => ex_I0 (g := fun i j => i + j) ex_int (ex_I (g := fun i j => i / j) (ex_var h) ex_int (by constructor <;> omega))
  refine rx_ifS (b := false) (xt_is (xt_or (a := false) (b := false) (no _ _ _ 8 [(1001 + c / 64, 0)] ex_int (one _ _ _ _ _ (far _ rfl) ex_int) ⟨_, _, rfl, .inr ⟨.inr rfl, _, rfl, ?_⟩⟩) fun _ => no _ _ _ 8 [(0, -1001)] ex_int (one _ _ _ _ _ ex_int (ex_U (g := fun i => -i) ex_int)) ⟨_, _, rfl, .inr ⟨.inr rfl, _, rfl, ?_⟩⟩) rfl) (fun e => by cases e) (fun _ => rx_nextS ?_)
  · unfold Near; simp only; omega
  · unfold Near; simp only; omega
  refine rx_ifS (b := false) (xt_is (xt_or (a := false) (b := false) (no _ _ _ 9 bs ex_int (lst _ rfl) ⟨_, _, rfl, .inl ⟨by omega, hb⟩⟩) fun _ => no _ _ _ 10 [(0, 1001 + c / 64)] ex_int (one _ _ _ _ _ ex_int (far _ rfl)) ⟨_, _, rfl, .inr ⟨.inl rfl, _, rfl, ?_⟩⟩) rfl) (fun e => by cases e) (fun _ => rx_nextS ?_)
  · unfold Near; simp only; omega
  have pt : ∀ (e : SE) (t1 t2 : TE) (x y : Int), EvX K t1 e (.int x) → EvX K t2 e (.int y) → EvX K (tTup (tCons t1 (tCons t2 tNil))) e (ptD (x, y)) := fun e t1 t2 x y h1 h2 => ex_is (ex_tup (ea_cons h1 (ea_cons h2 ea_nil)) (Nat.le_of_ble_eq_true rfl)) rfl
  refine rx_seq (e1 := [.dat (scrD ns), .dat (ptsD ps), .dat (.int c), .dat (ptsD bs), .no, .dat (ptsD edgeP)]) (rx_asg (ex_is (ex_new (xf_lst (ea_cons (pt _ _ _ 1000 (-1000) ex_int (ex_U (g := fun i => -i) ex_int)) (ea_cons (pt _ _ _ (-1000) 1000 (ex_U (g := fun i => -i) ex_int) ex_int) (ea_cons (pt _ _ _ 1000 1000 ex_int ex_int) ea_nil))) (Nat.le_of_ble_eq_true rfl))) (show _ = ptsD edgeP from rfl)) rfl) ?_
  have yes : ∀ (e : SE) (t1 t2 : TE) (k : Int) (qs : List HP.Pt), EvX K t1 e (.int k) → EvX K t2 e (ptsD qs) → qs.length ≤ 12 → (∀ q ∈ qs, Near q) → 1 ≤ qs.length → (k = 0 ∨ k = 1 ∨ k = 2 ∨ k = 3 ∨ k = 7 ∨ k = 8) → EvX K (tCall (spD K F__law_tried) [] E0 (tCons t1 (tCons t2 tNil))) e (.str "done") := fun e t1 t2 k qs h1 h2 q1 q2 q3 q4 =>
    ex_call (ea_cons h1 (ea_cons h2 ea_nil)) ⟨k, qs, rfl, .inl ⟨q1, q2, q3, q4, rfl⟩⟩
  refine rx_seq (e1 := [.dat (scrD ns), .dat (ptsD ps), .dat (.int c), .dat (ptsD bs), .no, .dat (ptsD edgeP)]) (rx_forF (ds := ([0, 1, 2, 3, 7, 8] : List Int).map .int) (xf_lst (ea_cons ex_int (ea_cons ex_int (ea_cons ex_int (ea_cons ex_int (ea_cons ex_int (ea_cons ex_int ea_nil)))))) (Nat.le_of_ble_eq_true rfl)) rfl (fr_all (fun i : Int => PyData.int i) [.dat (scrD ns), .dat (ptsD ps), .dat (.int c), .dat (ptsD bs), .no, .dat (ptsD edgeP)] [0, 1, 2, 3, 7, 8] fun i hi => ⟨_, tg_name' (e' := [.dat (scrD ns), .dat (ptsD ps), .dat (.int c), .dat (ptsD bs), .dat (.int i), .dat (ptsD edgeP)]) rfl, ?_⟩)) ?_
  · simp only [List.mem_cons, List.not_mem_nil, or_false] at hi
    refine rx_post (rx_if (b := false) (xt_is (xt_test (ex_ne (yes _ _ _ i ([(0, 0)] ++ ps.take 8 ++ edgeP) (ex_var rfl) (ex_is (ex_new (xf_cat (ex_new (xf_cat (ex_new (xf_lst (ea_cons (pt _ _ _ 0 0 ex_int ex_int) ea_nil) (Nat.le_of_ble_eq_true rfl))) (ex_new (xf_is (xf_sl (ex_var rfl) eo_no (eo_at ex_int)) (cut_take ps 8 (by omega)))) ?_)) (ex_var rfl) ?_)) ?_) ?_ ?_ ?_ hi) ex_str (by decide +kernel) (by decide +kernel))) (neS _)) (fun e => by cases e) (fun _ => rx_next)) (.keep (.keep (.keep (.keep (.drop (.keep .nil))))))
    · rw [List.length_map, List.length_take]; simp only [List.length_cons, List.length_nil]; omega
    · rw [List.length_append, List.length_map, List.length_map, List.length_take]; unfold edgeP; simp only [List.length_cons, List.length_nil]; omega
    · unfold ptsD; rw [List.map_append, List.map_append]; rfl
    · rw [List.length_append, List.length_append, List.length_take]; unfold edgeP; simp only [List.length_cons, List.length_nil]; omega
    · intro q hq
      rw [List.mem_append, List.mem_append, List.mem_singleton] at hq
      rcases hq with (e | e) | e
      · subst e; unfold Near; simp
      · exact hn q (List.mem_of_mem_take e)
      · exact edge_near q e
    · rw [List.length_append, List.length_append]; unfold edgeP; simp only [List.length_cons, List.length_nil]; omega
  exact rx_ret (ex_is (ex_eq (yes _ _ _ 8 edgeP ex_int (ex_var rfl) (by unfold edgeP; simp) edge_near (by unfold edgeP; simp) (by omega)) ex_str (by decide +kernel) (by decide +kernel)) (congrArg PyData.bool (by simp only [PyData.eqv, beq_self_eq_true])))

/-! ### the end -/
theorem all_mk {l : PySem.W.OpenLaw} {w : World} {K : PySem.W.Frag} {h : Heap} {mg : Str → Option Value} {fa f0 f1 f2 f3 f4 f5 f6 f7 f8 f9 f10 f11 f12 f13 f14 f15 f16 f17 f18 f19 f20 f21 f22 f23 f24 f25 f26 f27 f28 f29 f30 f31 f32 f33 f34 f35 f36 f37 f38 f39 : Addr} {t0 : Tok} {t1 : Tok} {y0 y1 y2 y3 y4 y5 : Addr} (X : K.In h) (G : h.Ns mainGlobals mg) (hfa : mg "law" = some (.ref fa)) {od0 an0 : Option Addr} {sl0 : Array (Option Value)} {oc0 kV0 dc0 pm0 cd0 ct0 : Value} {od1 an1 : Option Addr} {sl1 : Array (Option Value)} {oc1 kV1 dc1 pm1 cd1 ct1 : Value} {od2 an2 : Option Addr} {sl2 : Array (Option Value)} {oc2 kV2 dc2 pm2 cd2 ct2 : Value} {od3 an3 : Option Addr} {sl3 : Array (Option Value)} {oc3 kV3 dc3 pm3 cd3 ct3 : Value} {od4 an4 : Option Addr} {sl4 : Array (Option Value)} {oc4 kV4 dc4 pm4 cd4 ct4 : Value} {od5 an5 : Option Addr} {sl5 : Array (Option Value)} {oc5 kV5 dc5 pm5 cd5 ct5 : Value} {od6 an6 : Option Addr} {sl6 : Array (Option Value)} {oc6 kV6 dc6 pm6 cd6 ct6 : Value} {od7 an7 : Option Addr} {sl7 : Array (Option Value)} {oc7 kV7 dc7 pm7 cd7 ct7 : Value} {od8 an8 : Option Addr} {sl8 : Array (Option Value)} {oc8 kV8 dc8 pm8 cd8 ct8 : Value} {od9 an9 : Option Addr} {sl9 : Array (Option Value)} {oc9 kV9 dc9 pm9 cd9 ct9 : Value} {od10 an10 : Option Addr} {sl10 : Array (Option Value)} {oc10 kV10 dc10 pm10 cd10 ct10 : Value} {od11 an11 : Option Addr} {sl11 : Array (Option Value)} {oc11 kV11 dc11 pm11 cd11 ct11 : Value} {od12 an12 : Option Addr} {sl12 : Array (Option Value)} {oc12 kV12 dc12 pm12 cd12 ct12 : Value} {od13 an13 : Option Addr} {sl13 : Array (Option Value)} {oc13 kV13 dc13 pm13 cd13 ct13 : Value} {od14 an14 : Option Addr} {sl14 : Array (Option Value)} {oc14 kV14 dc14 pm14 cd14 ct14 : Value} {od15 an15 : Option Addr} {sl15 : Array (Option Value)} {oc15 kV15 dc15 pm15 cd15 ct15 : Value} {od16 an16 : Option Addr} {sl16 : Array (Option Value)} {oc16 kV16 dc16 pm16 cd16 ct16 : Value} {od17 an17 : Option Addr} {sl17 : Array (Option Value)} {oc17 kV17 dc17 pm17 cd17 ct17 : Value} {od18 an18 : Option Addr} {sl18 : Array (Option Value)} {oc18 kV18 dc18 pm18 cd18 ct18 : Value} {od19 an19 : Option Addr} {sl19 : Array (Option Value)} {oc19 kV19 dc19 pm19 cd19 ct19 : Value} {od20 an20 : Option Addr} {sl20 : Array (Option Value)} {oc20 kV20 dc20 pm20 cd20 ct20 : Value} {od21 an21 : Option Addr} {sl21 : Array (Option Value)} {oc21 kV21 dc21 pm21 cd21 ct21 : Value} {od22 an22 : Option Addr} {sl22 : Array (Option Value)} {oc22 kV22 dc22 pm22 cd22 ct22 : Value} {od23 an23 : Option Addr} {sl23 : Array (Option Value)} {oc23 kV23 dc23 pm23 cd23 ct23 : Value} {od24 an24 : Option Addr} {sl24 : Array (Option Value)} {oc24 kV24 dc24 pm24 cd24 ct24 : Value} {od25 an25 : Option Addr} {sl25 : Array (Option Value)} {oc25 kV25 dc25 pm25 cd25 ct25 : Value} {od26 an26 : Option Addr} {sl26 : Array (Option Value)} {oc26 kV26 dc26 pm26 cd26 ct26 : Value} {od27 an27 : Option Addr} {sl27 : Array (Option Value)} {oc27 kV27 dc27 pm27 cd27 ct27 : Value} {od28 an28 : Option Addr} {sl28 : Array (Option Value)} {oc28 kV28 dc28 pm28 cd28 ct28 : Value} {od29 an29 : Option Addr} {sl29 : Array (Option Value)} {oc29 kV29 dc29 pm29 cd29 ct29 : Value} {od30 an30 : Option Addr} {sl30 : Array (Option Value)} {oc30 kV30 dc30 pm30 cd30 ct30 : Value} {od31 an31 : Option Addr} {sl31 : Array (Option Value)} {oc31 kV31 dc31 pm31 cd31 ct31 : Value} {od32 an32 : Option Addr} {sl32 : Array (Option Value)} {oc32 kV32 dc32 pm32 cd32 ct32 : Value} {od33 an33 : Option Addr} {sl33 : Array (Option Value)} {oc33 kV33 dc33 pm33 cd33 ct33 : Value} {od34 an34 : Option Addr} {sl34 : Array (Option Value)} {oc34 kV34 dc34 pm34 cd34 ct34 : Value} {od35 an35 : Option Addr} {sl35 : Array (Option Value)} {oc35 kV35 dc35 pm35 cd35 ct35 : Value} {od36 an36 : Option Addr} {sl36 : Array (Option Value)} {oc36 kV36 dc36 pm36 cd36 ct36 : Value} {od37 an37 : Option Addr} {sl37 : Array (Option Value)} {oc37 kV37 dc37 pm37 cd37 ct37 : Value} {od38 an38 : Option Addr} {sl38 : Array (Option Value)} {oc38 kV38 dc38 pm38 cd38 ct38 : Value} {od39 an39 : Option Addr} {sl39 : Array (Option Value)} {oc39 kV39 dc39 pm39 cd39 ct39 : Value}
    (a0 : PySem.W.nsIn K mainGlobals "ask_point" = some (some (.ref f0))) (l0 : K.lookup f0 = some ⟨oc0, od0, .func (PySem.W.fnOf "ask_point" "ask_point" (defArgs s_ask_point) (defBody s_ask_point) (defScope s_ask_point) .none kV0 dc0 pm0 an0 cd0 ct0), sl0⟩) (c0 : PySem.W.codeIn K cd0 "ask_point" = true) (k0 : PySem.W.keepIn K (.ref f0) = true)
    (a1 : PySem.W.nsIn K mainGlobals "ask_points" = some (some (.ref f1))) (l1 : K.lookup f1 = some ⟨oc1, od1, .func (PySem.W.fnOf "ask_points" "ask_points" (defArgs s_ask_points) (defBody s_ask_points) (defScope s_ask_points) .none kV1 dc1 pm1 an1 cd1 ct1), sl1⟩) (c1 : PySem.W.codeIn K cd1 "ask_points" = true) (k1 : PySem.W.keepIn K (.ref f1) = true)
    (a2 : PySem.W.nsIn K mainGlobals "common" = some (some (.ref f2))) (l2 : K.lookup f2 = some ⟨oc2, od2, .func (PySem.W.fnOf "common" "common" (defArgs s_common) (defBody s_common) (defScope s_common) .none kV2 dc2 pm2 an2 cd2 ct2), sl2⟩) (c2 : PySem.W.codeIn K cd2 "common" = true) (k2 : PySem.W.keepIn K (.ref f2) = true)
    (a3 : PySem.W.nsIn K mainGlobals "ask_spot" = some (some (.ref f3))) (l3 : K.lookup f3 = some ⟨oc3, od3, .func (PySem.W.fnOf "ask_spot" "ask_spot" (defArgs s_ask_spot) (defBody s_ask_spot) (defScope s_ask_spot) .none kV3 dc3 pm3 an3 cd3 ct3), sl3⟩) (c3 : PySem.W.codeIn K cd3 "ask_spot" = true) (k3 : PySem.W.keepIn K (.ref f3) = true)
    (a4 : PySem.W.nsIn K mainGlobals "spot_of" = some (some (.ref f4))) (l4 : K.lookup f4 = some ⟨oc4, od4, .func (PySem.W.fnOf "spot_of" "spot_of" (defArgs s_spot_of) (defBody s_spot_of) (defScope s_spot_of) .none kV4 dc4 pm4 an4 cd4 ct4), sl4⟩) (c4 : PySem.W.codeIn K cd4 "spot_of" = true) (k4 : PySem.W.keepIn K (.ref f4) = true)
    (a5 : PySem.W.nsIn K mainGlobals "weight" = some (some (.ref f5))) (l5 : K.lookup f5 = some ⟨oc5, od5, .func (PySem.W.fnOf "weight" "weight" (defArgs s_weight) (defBody s_weight) (defScope s_weight) .none kV5 dc5 pm5 an5 cd5 ct5), sl5⟩) (c5 : PySem.W.codeIn K cd5 "weight" = true) (k5 : PySem.W.keepIn K (.ref f5) = true)
    (a6 : PySem.W.nsIn K mainGlobals "turn" = some (some (.ref f6))) (l6 : K.lookup f6 = some ⟨oc6, od6, .func (PySem.W.fnOf "turn" "turn" (defArgs s_turn) (defBody s_turn) (defScope s_turn) .none kV6 dc6 pm6 an6 cd6 ct6), sl6⟩) (c6 : PySem.W.codeIn K cd6 "turn" = true) (k6 : PySem.W.keepIn K (.ref f6) = true)
    (a7 : PySem.W.nsIn K mainGlobals "line_through" = some (some (.ref f7))) (l7 : K.lookup f7 = some ⟨oc7, od7, .func (PySem.W.fnOf "line_through" "line_through" (defArgs s_line_through) (defBody s_line_through) (defScope s_line_through) .none kV7 dc7 pm7 an7 cd7 ct7), sl7⟩) (c7 : PySem.W.codeIn K cd7 "line_through" = true) (k7 : PySem.W.keepIn K (.ref f7) = true)
    (a8 : PySem.W.nsIn K mainGlobals "half_round" = some (some (.ref f8))) (l8 : K.lookup f8 = some ⟨oc8, od8, .func (PySem.W.fnOf "half_round" "half_round" (defArgs s_half_round) (defBody s_half_round) (defScope s_half_round) .none kV8 dc8 pm8 an8 cd8 ct8), sl8⟩) (c8 : PySem.W.codeIn K cd8 "half_round" = true) (k8 : PySem.W.keepIn K (.ref f8) = true)
    (a9 : PySem.W.nsIn K mainGlobals "corners_of" = some (some (.ref f9))) (l9 : K.lookup f9 = some ⟨oc9, od9, .func (PySem.W.fnOf "corners_of" "corners_of" (defArgs s_corners_of) (defBody s_corners_of) (defScope s_corners_of) .none kV9 dc9 pm9 an9 cd9 ct9), sl9⟩) (c9 : PySem.W.codeIn K cd9 "corners_of" = true) (k9 : PySem.W.keepIn K (.ref f9) = true)
    (a10 : PySem.W.nsIn K mainGlobals "corners" = some (some (.ref f10))) (l10 : K.lookup f10 = some ⟨oc10, od10, .func (PySem.W.fnOf "corners" "corners" (defArgs s_corners) (defBody s_corners) (defScope s_corners) .none kV10 dc10 pm10 an10 cd10 ct10), sl10⟩) (c10 : PySem.W.codeIn K cd10 "corners" = true) (k10 : PySem.W.keepIn K (.ref f10) = true)
    (a11 : PySem.W.nsIn K mainGlobals "on_segment" = some (some (.ref f11))) (l11 : K.lookup f11 = some ⟨oc11, od11, .func (PySem.W.fnOf "on_segment" "on_segment" (defArgs s_on_segment) (defBody s_on_segment) (defScope s_on_segment) .none kV11 dc11 pm11 an11 cd11 ct11), sl11⟩) (c11 : PySem.W.codeIn K cd11 "on_segment" = true) (k11 : PySem.W.keepIn K (.ref f11) = true)
    (a12 : PySem.W.nsIn K mainGlobals "weighed" = some (some (.ref f12))) (l12 : K.lookup f12 = some ⟨oc12, od12, .func (PySem.W.fnOf "weighed" "weighed" (defArgs s_weighed) (defBody s_weighed) (defScope s_weighed) .none kV12 dc12 pm12 an12 cd12 ct12), sl12⟩) (c12 : PySem.W.codeIn K cd12 "weighed" = true) (k12 : PySem.W.keepIn K (.ref f12) = true)
    (a13 : PySem.W.nsIn K mainGlobals "in_three" = some (some (.ref f13))) (l13 : K.lookup f13 = some ⟨oc13, od13, .func (PySem.W.fnOf "in_three" "in_three" (defArgs s_in_three) (defBody s_in_three) (defScope s_in_three) .none kV13 dc13 pm13 an13 cd13 ct13), sl13⟩) (c13 : PySem.W.codeIn K cd13 "in_three" = true) (k13 : PySem.W.keepIn K (.ref f13) = true)
    (a14 : PySem.W.nsIn K mainGlobals "within" = some (some (.ref f14))) (l14 : K.lookup f14 = some ⟨oc14, od14, .func (PySem.W.fnOf "within" "within" (defArgs s_within) (defBody s_within) (defScope s_within) .none kV14 dc14 pm14 an14 cd14 ct14), sl14⟩) (c14 : PySem.W.codeIn K cd14 "within" = true) (k14 : PySem.W.keepIn K (.ref f14) = true)
    (a15 : PySem.W.nsIn K mainGlobals "along" = some (some (.ref f15))) (l15 : K.lookup f15 = some ⟨oc15, od15, .func (PySem.W.fnOf "along" "along" (defArgs s_along) (defBody s_along) (defScope s_along) .none kV15 dc15 pm15 an15 cd15 ct15), sl15⟩) (c15 : PySem.W.codeIn K cd15 "along" = true) (k15 : PySem.W.keepIn K (.ref f15) = true)
    (a16 : PySem.W.nsIn K mainGlobals "shut_out" = some (some (.ref f16))) (l16 : K.lookup f16 = some ⟨oc16, od16, .func (PySem.W.fnOf "shut_out" "shut_out" (defArgs s_shut_out) (defBody s_shut_out) (defScope s_shut_out) .none kV16 dc16 pm16 an16 cd16 ct16), sl16⟩) (c16 : PySem.W.codeIn K cd16 "shut_out" = true) (k16 : PySem.W.keepIn K (.ref f16) = true)
    (a17 : PySem.W.nsIn K mainGlobals "placed" = some (some (.ref f17))) (l17 : K.lookup f17 = some ⟨oc17, od17, .func (PySem.W.fnOf "placed" "placed" (defArgs s_placed) (defBody s_placed) (defScope s_placed) .none kV17 dc17 pm17 an17 cd17 ct17), sl17⟩) (c17 : PySem.W.codeIn K cd17 "placed" = true) (k17 : PySem.W.keepIn K (.ref f17) = true)
    (a18 : PySem.W.nsIn K mainGlobals "sides" = some (some (.ref f18))) (l18 : K.lookup f18 = some ⟨oc18, od18, .func (PySem.W.fnOf "sides" "sides" (defArgs s_sides) (defBody s_sides) (defScope s_sides) .none kV18 dc18 pm18 an18 cd18 ct18), sl18⟩) (c18 : PySem.W.codeIn K cd18 "sides" = true) (k18 : PySem.W.keepIn K (.ref f18) = true)
    (a19 : PySem.W.nsIn K mainGlobals "ways_of" = some (some (.ref f19))) (l19 : K.lookup f19 = some ⟨oc19, od19, .func (PySem.W.fnOf "ways_of" "ways_of" (defArgs s_ways_of) (defBody s_ways_of) (defScope s_ways_of) .none kV19 dc19 pm19 an19 cd19 ct19), sl19⟩) (c19 : PySem.W.codeIn K cd19 "ways_of" = true) (k19 : PySem.W.keepIn K (.ref f19) = true)
    (a20 : PySem.W.nsIn K mainGlobals "parting_line" = some (some (.ref f20))) (l20 : K.lookup f20 = some ⟨oc20, od20, .func (PySem.W.fnOf "parting_line" "parting_line" (defArgs s_parting_line) (defBody s_parting_line) (defScope s_parting_line) .none kV20 dc20 pm20 an20 cd20 ct20), sl20⟩) (c20 : PySem.W.codeIn K cd20 "parting_line" = true) (k20 : PySem.W.keepIn K (.ref f20) = true)
    (a21 : PySem.W.nsIn K mainGlobals "crossing" = some (some (.ref f21))) (l21 : K.lookup f21 = some ⟨oc21, od21, .func (PySem.W.fnOf "crossing" "crossing" (defArgs s_crossing) (defBody s_crossing) (defScope s_crossing) .none kV21 dc21 pm21 an21 cd21 ct21), sl21⟩) (c21 : PySem.W.codeIn K cd21 "crossing" = true) (k21 : PySem.W.keepIn K (.ref f21) = true)
    (a22 : PySem.W.nsIn K mainGlobals "crossed" = some (some (.ref f22))) (l22 : K.lookup f22 = some ⟨oc22, od22, .func (PySem.W.fnOf "crossed" "crossed" (defArgs s_crossed) (defBody s_crossed) (defScope s_crossed) .none kV22 dc22 pm22 an22 cd22 ct22), sl22⟩) (c22 : PySem.W.codeIn K cd22 "crossed" = true) (k22 : PySem.W.keepIn K (.ref f22) = true)
    (a23 : PySem.W.nsIn K mainGlobals "meeting" = some (some (.ref f23))) (l23 : K.lookup f23 = some ⟨oc23, od23, .func (PySem.W.fnOf "meeting" "meeting" (defArgs s_meeting) (defBody s_meeting) (defScope s_meeting) .none kV23 dc23 pm23 an23 cd23 ct23), sl23⟩) (c23 : PySem.W.codeIn K cd23 "meeting" = true) (k23 : PySem.W.keepIn K (.ref f23) = true)
    (a24 : PySem.W.nsIn K mainGlobals "parted" = some (some (.ref f24))) (l24 : K.lookup f24 = some ⟨oc24, od24, .func (PySem.W.fnOf "parted" "parted" (defArgs s_parted) (defBody s_parted) (defScope s_parted) .none kV24 dc24 pm24 an24 cd24 ct24), sl24⟩) (c24 : PySem.W.codeIn K cd24 "parted" = true) (k24 : PySem.W.keepIn K (.ref f24) = true)
    (a25 : PySem.W.nsIn K mainGlobals "four_parted" = some (some (.ref f25))) (l25 : K.lookup f25 = some ⟨oc25, od25, .func (PySem.W.fnOf "four_parted" "four_parted" (defArgs s_four_parted) (defBody s_four_parted) (defScope s_four_parted) .none kV25 dc25 pm25 an25 cd25 ct25), sl25⟩) (c25 : PySem.W.codeIn K cd25 "four_parted" = true) (k25 : PySem.W.keepIn K (.ref f25) = true)
    (a26 : PySem.W.nsIn K mainGlobals "seen_from" = some (some (.ref f26))) (l26 : K.lookup f26 = some ⟨oc26, od26, .func (PySem.W.fnOf "seen_from" "seen_from" (defArgs s_seen_from) (defBody s_seen_from) (defScope s_seen_from) .none kV26 dc26 pm26 an26 cd26 ct26), sl26⟩) (c26 : PySem.W.codeIn K cd26 "seen_from" = true) (k26 : PySem.W.keepIn K (.ref f26) = true)
    (a27 : PySem.W.nsIn K mainGlobals "counted" = some (some (.ref f27))) (l27 : K.lookup f27 = some ⟨oc27, od27, .func (PySem.W.fnOf "counted" "counted" (defArgs s_counted) (defBody s_counted) (defScope s_counted) .none kV27 dc27 pm27 an27 cd27 ct27), sl27⟩) (c27 : PySem.W.codeIn K cd27 "counted" = true) (k27 : PySem.W.keepIn K (.ref f27) = true)
    (a28 : PySem.W.nsIn K mainGlobals "leanings" = some (some (.ref f28))) (l28 : K.lookup f28 = some ⟨oc28, od28, .func (PySem.W.fnOf "leanings" "leanings" (defArgs s_leanings) (defBody s_leanings) (defScope s_leanings) .none kV28 dc28 pm28 an28 cd28 ct28), sl28⟩) (c28 : PySem.W.codeIn K cd28 "leanings" = true) (k28 : PySem.W.keepIn K (.ref f28) = true)
    (a29 : PySem.W.nsIn K mainGlobals "depth" = some (some (.ref f29))) (l29 : K.lookup f29 = some ⟨oc29, od29, .func (PySem.W.fnOf "depth" "depth" (defArgs s_depth) (defBody s_depth) (defScope s_depth) .none kV29 dc29 pm29 an29 cd29 ct29), sl29⟩) (c29 : PySem.W.codeIn K cd29 "depth" = true) (k29 : PySem.W.keepIn K (.ref f29) = true)
    (a30 : PySem.W.nsIn K mainGlobals "middle" = some (some (.ref f30))) (l30 : K.lookup f30 = some ⟨oc30, od30, .func (PySem.W.fnOf "middle" "middle" (defArgs s_middle) (defBody s_middle) (defScope s_middle) .none kV30 dc30 pm30 an30 cd30 ct30), sl30⟩) (c30 : PySem.W.codeIn K cd30 "middle" = true) (k30 : PySem.W.keepIn K (.ref f30) = true)
    (a31 : PySem.W.nsIn K mainGlobals "shown" = some (some (.ref f31))) (l31 : K.lookup f31 = some ⟨oc31, od31, .func (PySem.W.fnOf "shown" "shown" (defArgs s_shown) (defBody s_shown) (defScope s_shown) .none kV31 dc31 pm31 an31 cd31 ct31), sl31⟩) (c31 : PySem.W.codeIn K cd31 "shown" = true) (k31 : PySem.W.keepIn K (.ref f31) = true)
    (a32 : PySem.W.nsIn K mainGlobals "_law_cell_at" = some (some (.ref f32))) (l32 : K.lookup f32 = some ⟨oc32, od32, .func (PySem.W.fnOf "_law_cell_at" "_law_cell_at" (defArgs s__law_cell_at) (defBody s__law_cell_at) (defScope s__law_cell_at) .none kV32 dc32 pm32 an32 cd32 ct32), sl32⟩) (c32 : PySem.W.codeIn K cd32 "_law_cell_at" = true) (k32 : PySem.W.keepIn K (.ref f32) = true)
    (a33 : PySem.W.nsIn K mainGlobals "_law_next" = some (some (.ref f33))) (l33 : K.lookup f33 = some ⟨oc33, od33, .func (PySem.W.fnOf "_law_next" "_law_next" (defArgs s__law_next) (defBody s__law_next) (defScope s__law_next) .none kV33 dc33 pm33 an33 cd33 ct33), sl33⟩) (c33 : PySem.W.codeIn K cd33 "_law_next" = true) (k33 : PySem.W.keepIn K (.ref f33) = true)
    (a34 : PySem.W.nsIn K mainGlobals "_law_points" = some (some (.ref f34))) (l34 : K.lookup f34 = some ⟨oc34, od34, .func (PySem.W.fnOf "_law_points" "_law_points" (defArgs s__law_points) (defBody s__law_points) (defScope s__law_points) .none kV34 dc34 pm34 an34 cd34 ct34), sl34⟩) (c34 : PySem.W.codeIn K cd34 "_law_points" = true) (k34 : PySem.W.keepIn K (.ref f34) = true)
    (a35 : PySem.W.nsIn K mainGlobals "_law_bad" = some (some (.ref f35))) (l35 : K.lookup f35 = some ⟨oc35, od35, .func (PySem.W.fnOf "_law_bad" "_law_bad" (defArgs s__law_bad) (defBody s__law_bad) (defScope s__law_bad) .none kV35 dc35 pm35 an35 cd35 ct35), sl35⟩) (c35 : PySem.W.codeIn K cd35 "_law_bad" = true) (k35 : PySem.W.keepIn K (.ref f35) = true)
    (a36 : PySem.W.nsIn K mainGlobals "_law_kind" = some (some (.ref f36))) (l36 : K.lookup f36 = some ⟨oc36, od36, .func (PySem.W.fnOf "_law_kind" "_law_kind" (defArgs s__law_kind) (defBody s__law_kind) (defScope s__law_kind) .none kV36 dc36 pm36 an36 cd36 ct36), sl36⟩) (c36 : PySem.W.codeIn K cd36 "_law_kind" = true) (k36 : PySem.W.keepIn K (.ref f36) = true)
    (a37 : PySem.W.nsIn K mainGlobals "_law_asked" = some (some (.ref f37))) (l37 : K.lookup f37 = some ⟨oc37, od37, .func (PySem.W.fnOf "_law_asked" "_law_asked" (defArgs s__law_asked) (defBody s__law_asked) (defScope s__law_asked) .none kV37 dc37 pm37 an37 cd37 ct37), sl37⟩) (c37 : PySem.W.codeIn K cd37 "_law_asked" = true) (k37 : PySem.W.keepIn K (.ref f37) = true)
    (a38 : PySem.W.nsIn K mainGlobals "_law_tried" = some (some (.ref f38))) (l38 : K.lookup f38 = some ⟨oc38, od38, .func (PySem.W.fnOf "_law_tried" "_law_tried" (defArgs s__law_tried) (defBody s__law_tried) (defScope s__law_tried) .none kV38 dc38 pm38 an38 cd38 ct38), sl38⟩) (c38 : PySem.W.codeIn K cd38 "_law_tried" = true) (k38 : PySem.W.keepIn K (.ref f38) = true)
    (a39 : PySem.W.nsIn K mainGlobals "law" = some (some (.ref f39))) (l39 : K.lookup f39 = some ⟨oc39, od39, .func (PySem.W.fnOf "law" "law" (defArgs s_law) (defBody s_law) (defScope s_law) .none kV39 dc39 pm39 an39 cd39 ct39), sl39⟩) (c39 : PySem.W.codeIn K cd39 "law" = true) (k39 : PySem.W.keepIn K (.ref f39) = true)
    (q0 : PySem.W.nsIn K mainGlobals "MOST" = some (some (.int 12 t0)))
    (q1 : PySem.W.nsIn K mainGlobals "FAR" = some (some (.int 1000 t1)))
    (z0 : PySem.W.nsIn K mainGlobals "len" = some none)
    (z1 : PySem.W.nsIn K mainGlobals "abs" = some none)
    (z2 : PySem.W.nsIn K mainGlobals "sorted" = some none)
    (z3 : PySem.W.nsIn K mainGlobals "set" = some none)
    (z4 : PySem.W.nsIn K mainGlobals "list" = some none)
    (z5 : PySem.W.nsIn K mainGlobals "reversed" = some none)
    (z6 : PySem.W.nsIn K mainGlobals "min" = some none)
    (z7 : PySem.W.nsIn K mainGlobals "range" = some none)
    (z8 : PySem.W.nsIn K mainGlobals "max" = some none)
    (z9 : PySem.W.nsIn K mainGlobals "str" = some none)
    (z10 : PySem.W.nsIn K mainGlobals "isinstance" = some none)
    (z11 : PySem.W.nsIn K mainGlobals "ValueError" = some none)
    (x5 : PySem.W.specialIn K (.builtin "object.__class__") "__get__" = some (some (.builtin "getset_descriptor.__get__"))) (x6 : PySem.W.takesIn K (.builtin "object.__class__") = some true)
    (yn0 : PySem.W.nsIn K mainGlobals "HullError" = some (some (.ref y0))) (ye0 : PySem.W.excIn K y0 veMro "ValueError.__new__" = true) (yk0 : PySem.W.keepIn K (.ref y0) = true) (yb0 : PySem.W.subIn K (.ref y0) (.type "BaseException") = some true) (yt0 : PySem.W.typeIn K (.ref y0) = some (.type "type")) (yi0 : PySem.W.isClsIn K y0 = true) (ys0 : PySem.W.subIn K (.ref y0) (.ref y0) = some true) (yv0 : PySem.W.subIn K (.ref y0) (.type "ValueError") = some true)
    (yg0 : PySem.W.findIn K (.ref y0) "__getattribute__" = some (some (.builtin "BaseException.__getattribute__"))) (yh0 : PySem.W.findIn K (.ref y0) "__getattr__" = some none) (yd0 : PySem.W.hasDictIn K y0 = true) (ya0 : PySem.W.findIn K (.ref y0) "__class__" = some (some (.builtin "object.__class__"))) (ym0 : PySem.W.mroIn K y0 (.type "object") = some true)
    (yn1 : PySem.W.nsIn K mainGlobals "NoPoint" = some (some (.ref y1))) (ye1 : PySem.W.excIn K y1 veMro "ValueError.__new__" = true) (yk1 : PySem.W.keepIn K (.ref y1) = true) (yb1 : PySem.W.subIn K (.ref y1) (.type "BaseException") = some true) (yt1 : PySem.W.typeIn K (.ref y1) = some (.type "type")) (yi1 : PySem.W.isClsIn K y1 = true) (ys1 : PySem.W.subIn K (.ref y1) (.ref y1) = some true) (yv1 : PySem.W.subIn K (.ref y1) (.type "ValueError") = some true)
    (yg1 : PySem.W.findIn K (.ref y1) "__getattribute__" = some (some (.builtin "BaseException.__getattribute__"))) (yh1 : PySem.W.findIn K (.ref y1) "__getattr__" = some none) (yd1 : PySem.W.hasDictIn K y1 = true) (ya1 : PySem.W.findIn K (.ref y1) "__class__" = some (some (.builtin "object.__class__"))) (ym1 : PySem.W.mroIn K y1 (.type "object") = some true)
    (yn2 : PySem.W.nsIn K mainGlobals "NoSpot" = some (some (.ref y2))) (ye2 : PySem.W.excIn K y2 veMro "ValueError.__new__" = true) (yk2 : PySem.W.keepIn K (.ref y2) = true) (yb2 : PySem.W.subIn K (.ref y2) (.type "BaseException") = some true) (yt2 : PySem.W.typeIn K (.ref y2) = some (.type "type")) (yi2 : PySem.W.isClsIn K y2 = true) (ys2 : PySem.W.subIn K (.ref y2) (.ref y2) = some true) (yv2 : PySem.W.subIn K (.ref y2) (.type "ValueError") = some true)
    (yg2 : PySem.W.findIn K (.ref y2) "__getattribute__" = some (some (.builtin "BaseException.__getattribute__"))) (yh2 : PySem.W.findIn K (.ref y2) "__getattr__" = some none) (yd2 : PySem.W.hasDictIn K y2 = true) (ya2 : PySem.W.findIn K (.ref y2) "__class__" = some (some (.builtin "object.__class__"))) (ym2 : PySem.W.mroIn K y2 (.type "object") = some true)
    (yn3 : PySem.W.nsIn K mainGlobals "NoFour" = some (some (.ref y3))) (ye3 : PySem.W.excIn K y3 veMro "ValueError.__new__" = true) (yk3 : PySem.W.keepIn K (.ref y3) = true) (yb3 : PySem.W.subIn K (.ref y3) (.type "BaseException") = some true) (yt3 : PySem.W.typeIn K (.ref y3) = some (.type "type")) (yi3 : PySem.W.isClsIn K y3 = true) (ys3 : PySem.W.subIn K (.ref y3) (.ref y3) = some true) (yv3 : PySem.W.subIn K (.ref y3) (.type "ValueError") = some true)
    (yg3 : PySem.W.findIn K (.ref y3) "__getattribute__" = some (some (.builtin "BaseException.__getattribute__"))) (yh3 : PySem.W.findIn K (.ref y3) "__getattr__" = some none) (yd3 : PySem.W.hasDictIn K y3 = true) (ya3 : PySem.W.findIn K (.ref y3) "__class__" = some (some (.builtin "object.__class__"))) (ym3 : PySem.W.mroIn K y3 (.type "object") = some true)
    (yn4 : PySem.W.nsIn K mainGlobals "NoMiddle" = some (some (.ref y4))) (ye4 : PySem.W.excIn K y4 veMro "ValueError.__new__" = true) (yk4 : PySem.W.keepIn K (.ref y4) = true) (yb4 : PySem.W.subIn K (.ref y4) (.type "BaseException") = some true) (yt4 : PySem.W.typeIn K (.ref y4) = some (.type "type")) (yi4 : PySem.W.isClsIn K y4 = true) (ys4 : PySem.W.subIn K (.ref y4) (.ref y4) = some true) (yv4 : PySem.W.subIn K (.ref y4) (.type "ValueError") = some true)
    (yg4 : PySem.W.findIn K (.ref y4) "__getattribute__" = some (some (.builtin "BaseException.__getattribute__"))) (yh4 : PySem.W.findIn K (.ref y4) "__getattr__" = some none) (yd4 : PySem.W.hasDictIn K y4 = true) (ya4 : PySem.W.findIn K (.ref y4) "__class__" = some (some (.builtin "object.__class__"))) (ym4 : PySem.W.mroIn K y4 (.type "object") = some true)
    (yn5 : PySem.W.nsIn K mainGlobals "NoNote" = some (some (.ref y5))) (ye5 : PySem.W.excIn K y5 veMro "ValueError.__new__" = true) (yk5 : PySem.W.keepIn K (.ref y5) = true) (yb5 : PySem.W.subIn K (.ref y5) (.type "BaseException") = some true) (yt5 : PySem.W.typeIn K (.ref y5) = some (.type "type")) (yi5 : PySem.W.isClsIn K y5 = true) (ys5 : PySem.W.subIn K (.ref y5) (.ref y5) = some true) (yv5 : PySem.W.subIn K (.ref y5) (.type "ValueError") = some true)
    (yg5 : PySem.W.findIn K (.ref y5) "__getattribute__" = some (some (.builtin "BaseException.__getattribute__"))) (yh5 : PySem.W.findIn K (.ref y5) "__getattr__" = some none) (yd5 : PySem.W.hasDictIn K y5 = true) (ya5 : PySem.W.findIn K (.ref y5) "__class__" = some (some (.builtin "object.__class__"))) (ym5 : PySem.W.mroIn K y5 (.type "object") = some true)
    (yp1_0 : PySem.W.subIn K (.ref y1) (.ref y0) = some true)
    (yp1_2 : PySem.W.subIn K (.ref y1) (.ref y2) = some false)
    (yp1_3 : PySem.W.subIn K (.ref y1) (.ref y3) = some false)
    (yp1_4 : PySem.W.subIn K (.ref y1) (.ref y4) = some false)
    (yp1_5 : PySem.W.subIn K (.ref y1) (.ref y5) = some false) :
    ∃ fd : FuncData, (∀ (s : Shared) (v : Value), BindsTo s fd ⟨[v], []⟩ [("script", v)]) ∧ ∀ base : Heap, K.In base → base.Ns mainGlobals mg → FnOk l.prog w K mg base CX0 12 fa fd ["script"] (spD K F_law) := by
  have e := hfa.symm.trans (PySem.W.mg_of X G a39)
  cases e
  have F0 := fun_mk (st := s_ask_point) l0 c0 k0
  have F1 := fun_mk (st := s_ask_points) l1 c1 k1
  have F2 := fun_mk (st := s_common) l2 c2 k2
  have F3 := fun_mk (st := s_ask_spot) l3 c3 k3
  have F4 := fun_mk (st := s_spot_of) l4 c4 k4
  have F5 := fun_mk (st := s_weight) l5 c5 k5
  have F6 := fun_mk (st := s_turn) l6 c6 k6
  have F7 := fun_mk (st := s_line_through) l7 c7 k7
  have F8 := fun_mk (st := s_half_round) l8 c8 k8
  have F9 := fun_mk (st := s_corners_of) l9 c9 k9
  have F10 := fun_mk (st := s_corners) l10 c10 k10
  have F11 := fun_mk (st := s_on_segment) l11 c11 k11
  have F12 := fun_mk (st := s_weighed) l12 c12 k12
  have F13 := fun_mk (st := s_in_three) l13 c13 k13
  have F14 := fun_mk (st := s_within) l14 c14 k14
  have F15 := fun_mk (st := s_along) l15 c15 k15
  have F16 := fun_mk (st := s_shut_out) l16 c16 k16
  have F17 := fun_mk (st := s_placed) l17 c17 k17
  have F18 := fun_mk (st := s_sides) l18 c18 k18
  have F19 := fun_mk (st := s_ways_of) l19 c19 k19
  have F20 := fun_mk (st := s_parting_line) l20 c20 k20
  have F21 := fun_mk (st := s_crossing) l21 c21 k21
  have F22 := fun_mk (st := s_crossed) l22 c22 k22
  have F23 := fun_mk (st := s_meeting) l23 c23 k23
  have F24 := fun_mk (st := s_parted) l24 c24 k24
  have F25 := fun_mk (st := s_four_parted) l25 c25 k25
  have F26 := fun_mk (st := s_seen_from) l26 c26 k26
  have F27 := fun_mk (st := s_counted) l27 c27 k27
  have F28 := fun_mk (st := s_leanings) l28 c28 k28
  have F29 := fun_mk (st := s_depth) l29 c29 k29
  have F30 := fun_mk (st := s_middle) l30 c30 k30
  have F31 := fun_mk (st := s_shown) l31 c31 k31
  have F32 := fun_mk (st := s__law_cell_at) l32 c32 k32
  have F33 := fun_mk (st := s__law_next) l33 c33 k33
  have F34 := fun_mk (st := s__law_points) l34 c34 k34
  have F35 := fun_mk (st := s__law_bad) l35 c35 k35
  have F36 := fun_mk (st := s__law_kind) l36 c36 k36
  have F37 := fun_mk (st := s__law_asked) l37 c37 k37
  have F38 := fun_mk (st := s__law_tried) l38 c38 k38
  have F39 := fun_mk (st := s_law) l39 c39 k39
  refine ⟨PySem.W.fnOf "law" "law" (defArgs s_law) (defBody s_law) (defScope s_law) .none kV39 dc39 pm39 an39 cd39 ct39, fun s v => .of_eq rfl, fun base _ _ => ?_⟩
  have T : Txt K mg ⟨f0, (PySem.W.fnOf "ask_point" "ask_point" (defArgs s_ask_point) (defBody s_ask_point) (defScope s_ask_point) .none kV0 dc0 pm0 an0 cd0 ct0), f1, (PySem.W.fnOf "ask_points" "ask_points" (defArgs s_ask_points) (defBody s_ask_points) (defScope s_ask_points) .none kV1 dc1 pm1 an1 cd1 ct1), f2, (PySem.W.fnOf "common" "common" (defArgs s_common) (defBody s_common) (defScope s_common) .none kV2 dc2 pm2 an2 cd2 ct2), f3, (PySem.W.fnOf "ask_spot" "ask_spot" (defArgs s_ask_spot) (defBody s_ask_spot) (defScope s_ask_spot) .none kV3 dc3 pm3 an3 cd3 ct3), f4, (PySem.W.fnOf "spot_of" "spot_of" (defArgs s_spot_of) (defBody s_spot_of) (defScope s_spot_of) .none kV4 dc4 pm4 an4 cd4 ct4), f5, (PySem.W.fnOf "weight" "weight" (defArgs s_weight) (defBody s_weight) (defScope s_weight) .none kV5 dc5 pm5 an5 cd5 ct5), f6, (PySem.W.fnOf "turn" "turn" (defArgs s_turn) (defBody s_turn) (defScope s_turn) .none kV6 dc6 pm6 an6 cd6 ct6), f7, (PySem.W.fnOf "line_through" "line_through" (defArgs s_line_through) (defBody s_line_through) (defScope s_line_through) .none kV7 dc7 pm7 an7 cd7 ct7), f8, (PySem.W.fnOf "half_round" "half_round" (defArgs s_half_round) (defBody s_half_round) (defScope s_half_round) .none kV8 dc8 pm8 an8 cd8 ct8), f9, (PySem.W.fnOf "corners_of" "corners_of" (defArgs s_corners_of) (defBody s_corners_of) (defScope s_corners_of) .none kV9 dc9 pm9 an9 cd9 ct9), f10, (PySem.W.fnOf "corners" "corners" (defArgs s_corners) (defBody s_corners) (defScope s_corners) .none kV10 dc10 pm10 an10 cd10 ct10), f11, (PySem.W.fnOf "on_segment" "on_segment" (defArgs s_on_segment) (defBody s_on_segment) (defScope s_on_segment) .none kV11 dc11 pm11 an11 cd11 ct11), f12, (PySem.W.fnOf "weighed" "weighed" (defArgs s_weighed) (defBody s_weighed) (defScope s_weighed) .none kV12 dc12 pm12 an12 cd12 ct12), f13, (PySem.W.fnOf "in_three" "in_three" (defArgs s_in_three) (defBody s_in_three) (defScope s_in_three) .none kV13 dc13 pm13 an13 cd13 ct13), f14, (PySem.W.fnOf "within" "within" (defArgs s_within) (defBody s_within) (defScope s_within) .none kV14 dc14 pm14 an14 cd14 ct14), f15, (PySem.W.fnOf "along" "along" (defArgs s_along) (defBody s_along) (defScope s_along) .none kV15 dc15 pm15 an15 cd15 ct15), f16, (PySem.W.fnOf "shut_out" "shut_out" (defArgs s_shut_out) (defBody s_shut_out) (defScope s_shut_out) .none kV16 dc16 pm16 an16 cd16 ct16), f17, (PySem.W.fnOf "placed" "placed" (defArgs s_placed) (defBody s_placed) (defScope s_placed) .none kV17 dc17 pm17 an17 cd17 ct17), f18, (PySem.W.fnOf "sides" "sides" (defArgs s_sides) (defBody s_sides) (defScope s_sides) .none kV18 dc18 pm18 an18 cd18 ct18), f19, (PySem.W.fnOf "ways_of" "ways_of" (defArgs s_ways_of) (defBody s_ways_of) (defScope s_ways_of) .none kV19 dc19 pm19 an19 cd19 ct19), f20, (PySem.W.fnOf "parting_line" "parting_line" (defArgs s_parting_line) (defBody s_parting_line) (defScope s_parting_line) .none kV20 dc20 pm20 an20 cd20 ct20), f21, (PySem.W.fnOf "crossing" "crossing" (defArgs s_crossing) (defBody s_crossing) (defScope s_crossing) .none kV21 dc21 pm21 an21 cd21 ct21), f22, (PySem.W.fnOf "crossed" "crossed" (defArgs s_crossed) (defBody s_crossed) (defScope s_crossed) .none kV22 dc22 pm22 an22 cd22 ct22), f23, (PySem.W.fnOf "meeting" "meeting" (defArgs s_meeting) (defBody s_meeting) (defScope s_meeting) .none kV23 dc23 pm23 an23 cd23 ct23), f24, (PySem.W.fnOf "parted" "parted" (defArgs s_parted) (defBody s_parted) (defScope s_parted) .none kV24 dc24 pm24 an24 cd24 ct24), f25, (PySem.W.fnOf "four_parted" "four_parted" (defArgs s_four_parted) (defBody s_four_parted) (defScope s_four_parted) .none kV25 dc25 pm25 an25 cd25 ct25), f26, (PySem.W.fnOf "seen_from" "seen_from" (defArgs s_seen_from) (defBody s_seen_from) (defScope s_seen_from) .none kV26 dc26 pm26 an26 cd26 ct26), f27, (PySem.W.fnOf "counted" "counted" (defArgs s_counted) (defBody s_counted) (defScope s_counted) .none kV27 dc27 pm27 an27 cd27 ct27), f28, (PySem.W.fnOf "leanings" "leanings" (defArgs s_leanings) (defBody s_leanings) (defScope s_leanings) .none kV28 dc28 pm28 an28 cd28 ct28), f29, (PySem.W.fnOf "depth" "depth" (defArgs s_depth) (defBody s_depth) (defScope s_depth) .none kV29 dc29 pm29 an29 cd29 ct29), f30, (PySem.W.fnOf "middle" "middle" (defArgs s_middle) (defBody s_middle) (defScope s_middle) .none kV30 dc30 pm30 an30 cd30 ct30), f31, (PySem.W.fnOf "shown" "shown" (defArgs s_shown) (defBody s_shown) (defScope s_shown) .none kV31 dc31 pm31 an31 cd31 ct31), f32, (PySem.W.fnOf "_law_cell_at" "_law_cell_at" (defArgs s__law_cell_at) (defBody s__law_cell_at) (defScope s__law_cell_at) .none kV32 dc32 pm32 an32 cd32 ct32), f33, (PySem.W.fnOf "_law_next" "_law_next" (defArgs s__law_next) (defBody s__law_next) (defScope s__law_next) .none kV33 dc33 pm33 an33 cd33 ct33), f34, (PySem.W.fnOf "_law_points" "_law_points" (defArgs s__law_points) (defBody s__law_points) (defScope s__law_points) .none kV34 dc34 pm34 an34 cd34 ct34), f35, (PySem.W.fnOf "_law_bad" "_law_bad" (defArgs s__law_bad) (defBody s__law_bad) (defScope s__law_bad) .none kV35 dc35 pm35 an35 cd35 ct35), f36, (PySem.W.fnOf "_law_kind" "_law_kind" (defArgs s__law_kind) (defBody s__law_kind) (defScope s__law_kind) .none kV36 dc36 pm36 an36 cd36 ct36), f37, (PySem.W.fnOf "_law_asked" "_law_asked" (defArgs s__law_asked) (defBody s__law_asked) (defScope s__law_asked) .none kV37 dc37 pm37 an37 cd37 ct37), f38, (PySem.W.fnOf "_law_tried" "_law_tried" (defArgs s__law_tried) (defBody s__law_tried) (defScope s__law_tried) .none kV38 dc38 pm38 an38 cd38 ct38), fa, (PySem.W.fnOf "law" "law" (defArgs s_law) (defBody s_law) (defScope s_law) .none kV39 dc39 pm39 an39 cd39 ct39), t0, t1, y0, y1, y2, y3, y4, y5⟩ := ⟨F0,
    PySem.W.mg_of X G a0,
    F0.binds (ps := ["point"]) (fun _ _ _ _ _ _ us hl => match us, hl with | [_], _ => rfl),
    F1,
    PySem.W.mg_of X G a1,
    F1.binds (ps := ["points"]) (fun _ _ _ _ _ _ us hl => match us, hl with | [_], _ => rfl),
    F2,
    PySem.W.mg_of X G a2,
    F2.binds (ps := ["one", "other"]) (fun _ _ _ _ _ _ us hl => match us, hl with | [_, _], _ => rfl),
    F3,
    PySem.W.mg_of X G a3,
    F3.binds (ps := ["spot"]) (fun _ _ _ _ _ _ us hl => match us, hl with | [_], _ => rfl),
    F4,
    PySem.W.mg_of X G a4,
    F4.binds (ps := ["first", "second", "below"]) (fun _ _ _ _ _ _ us hl => match us, hl with | [_, _, _], _ => rfl),
    F5,
    PySem.W.mg_of X G a5,
    F5.binds (ps := ["number", "above", "below"]) (fun _ _ _ _ _ _ us hl => match us, hl with | [_, _, _], _ => rfl),
    F6,
    PySem.W.mg_of X G a6,
    F6.binds (ps := ["one", "other", "third"]) (fun _ _ _ _ _ _ us hl => match us, hl with | [_, _, _], _ => rfl),
    F7,
    PySem.W.mg_of X G a7,
    F7.binds (ps := ["one", "other"]) (fun _ _ _ _ _ _ us hl => match us, hl with | [_, _], _ => rfl),
    F8,
    PySem.W.mg_of X G a8,
    F8.binds (ps := ["rows"]) (fun _ _ _ _ _ _ us hl => match us, hl with | [_], _ => rfl),
    F9,
    PySem.W.mg_of X G a9,
    F9.binds (ps := ["points"]) (fun _ _ _ _ _ _ us hl => match us, hl with | [_], _ => rfl),
    F10,
    PySem.W.mg_of X G a10,
    F10.binds (ps := ["points"]) (fun _ _ _ _ _ _ us hl => match us, hl with | [_], _ => rfl),
    F11,
    PySem.W.mg_of X G a11,
    F11.binds (ps := ["points", "one", "other", "point"]) (fun _ _ _ _ _ _ us hl => match us, hl with | [_, _, _, _], _ => rfl),
    F12,
    PySem.W.mg_of X G a12,
    F12.binds (ps := ["points", "parts", "whole"]) (fun _ _ _ _ _ _ us hl => match us, hl with | [_, _, _], _ => rfl),
    F13,
    PySem.W.mg_of X G a13,
    F13.binds (ps := ["points", "one", "other", "third", "point"]) (fun _ _ _ _ _ _ us hl => match us, hl with | [_, _, _, _, _], _ => rfl),
    F14,
    PySem.W.mg_of X G a14,
    F14.binds (ps := ["points", "point"]) (fun _ _ _ _ _ _ us hl => match us, hl with | [_, _], _ => rfl),
    F15,
    PySem.W.mg_of X G a15,
    F15.binds (ps := ["one", "other", "point"]) (fun _ _ _ _ _ _ us hl => match us, hl with | [_, _, _], _ => rfl),
    F16,
    PySem.W.mg_of X G a16,
    F16.binds (ps := ["points", "point"]) (fun _ _ _ _ _ _ us hl => match us, hl with | [_, _], _ => rfl),
    F17,
    PySem.W.mg_of X G a17,
    F17.binds (ps := ["points", "point"]) (fun _ _ _ _ _ _ us hl => match us, hl with | [_, _], _ => rfl),
    F18,
    PySem.W.mg_of X G a18,
    F18.binds (ps := ["ones", "others", "first", "second"]) (fun _ _ _ _ _ _ us hl => match us, hl with | [_, _, _, _], _ => rfl),
    F19,
    PySem.W.mg_of X G a19,
    F19.binds (ps := ["points"]) (fun _ _ _ _ _ _ us hl => match us, hl with | [_], _ => rfl),
    F20,
    PySem.W.mg_of X G a20,
    F20.binds (ps := ["ones", "others"]) (fun _ _ _ _ _ _ us hl => match us, hl with | [_, _], _ => rfl),
    F21,
    PySem.W.mg_of X G a21,
    F21.binds (ps := ["ones", "others"]) (fun _ _ _ _ _ _ us hl => match us, hl with | [_, _], _ => rfl),
    F22,
    PySem.W.mg_of X G a22,
    F22.binds (ps := ["ones", "others", "a", "b", "c", "d"]) (fun _ _ _ _ _ _ us hl => match us, hl with | [_, _, _, _, _, _], _ => rfl),
    F23,
    PySem.W.mg_of X G a23,
    F23.binds (ps := ["ones", "others"]) (fun _ _ _ _ _ _ us hl => match us, hl with | [_, _], _ => rfl),
    F24,
    PySem.W.mg_of X G a24,
    F24.binds (ps := ["ones", "others"]) (fun _ _ _ _ _ _ us hl => match us, hl with | [_, _], _ => rfl),
    F25,
    PySem.W.mg_of X G a25,
    F25.binds (ps := ["points"]) (fun _ _ _ _ _ _ us hl => match us, hl with | [_], _ => rfl),
    F26,
    PySem.W.mg_of X G a26,
    F26.binds (ps := ["points", "spot"]) (fun _ _ _ _ _ _ us hl => match us, hl with | [_, _], _ => rfl),
    F27,
    PySem.W.mg_of X G a27,
    F27.binds (ps := ["ways", "first", "second"]) (fun _ _ _ _ _ _ us hl => match us, hl with | [_, _, _], _ => rfl),
    F28,
    PySem.W.mg_of X G a28,
    F28.binds (ps := ["ways"]) (fun _ _ _ _ _ _ us hl => match us, hl with | [_], _ => rfl),
    F29,
    PySem.W.mg_of X G a29,
    F29.binds (ps := ["points", "spot"]) (fun _ _ _ _ _ _ us hl => match us, hl with | [_, _], _ => rfl),
    F30,
    PySem.W.mg_of X G a30,
    F30.binds (ps := ["points"]) (fun _ _ _ _ _ _ us hl => match us, hl with | [_], _ => rfl),
    F31,
    PySem.W.mg_of X G a31,
    F31.binds (ps := ["points"]) (fun _ _ _ _ _ _ us hl => match us, hl with | [_], _ => rfl),
    F32,
    PySem.W.mg_of X G a32,
    F32.binds (ps := ["script", "k"]) (fun _ _ _ _ _ _ us hl => match us, hl with | [_, _], _ => rfl),
    F33,
    PySem.W.mg_of X G a33,
    F33.binds (ps := ["seed"]) (fun _ _ _ _ _ _ us hl => match us, hl with | [_], _ => rfl),
    F34,
    PySem.W.mg_of X G a34,
    F34.binds (ps := ["script", "at", "most"]) (fun _ _ _ _ _ _ us hl => match us, hl with | [_, _, _], _ => rfl),
    F35,
    PySem.W.mg_of X G a35,
    F35.binds (ps := ["points", "cell"]) (fun _ _ _ _ _ _ us hl => match us, hl with | [_, _], _ => rfl),
    F36,
    PySem.W.mg_of X G a36,
    F36.binds (ps := ["e"]) (fun _ _ _ _ _ _ us hl => match us, hl with | [_], _ => rfl),
    F37,
    PySem.W.mg_of X G a37,
    F37.binds (ps := ["which", "points"]) (fun _ _ _ _ _ _ us hl => match us, hl with | [_, _], _ => rfl),
    F38,
    PySem.W.mg_of X G a38,
    F38.binds (ps := ["which", "points"]) (fun _ _ _ _ _ _ us hl => match us, hl with | [_, _], _ => rfl),
    F39,
    PySem.W.mg_of X G a39,
    F39.binds (ps := ["script"]) (fun _ _ _ _ _ _ us hl => match us, hl with | [_], _ => rfl),
    PySem.W.mg_of X G q0,
    PySem.W.mg_of X G q1,
    PySem.W.mg_none_of X G z0,
    PySem.W.mg_none_of X G z1,
    PySem.W.mg_none_of X G z2,
    PySem.W.mg_none_of X G z3,
    PySem.W.mg_none_of X G z4,
    PySem.W.mg_none_of X G z5,
    PySem.W.mg_none_of X G z6,
    PySem.W.mg_none_of X G z7,
    PySem.W.mg_none_of X G z8,
    PySem.W.mg_none_of X G z9,
    PySem.W.mg_none_of X G z10,
    PySem.W.mg_none_of X G z11,
    PySem.W.mg_of X G yn0,
    ⟨ye0, yk0, yb0, yt0, yi0, ys0, yv0, ⟨yg0, yh0, yb0, yd0, ya0, x5, x6, ym0⟩⟩,
    PySem.W.mg_of X G yn1,
    ⟨ye1, yk1, yb1, yt1, yi1, ys1, yv1, ⟨yg1, yh1, yb1, yd1, ya1, x5, x6, ym1⟩⟩,
    PySem.W.mg_of X G yn2,
    ⟨ye2, yk2, yb2, yt2, yi2, ys2, yv2, ⟨yg2, yh2, yb2, yd2, ya2, x5, x6, ym2⟩⟩,
    PySem.W.mg_of X G yn3,
    ⟨ye3, yk3, yb3, yt3, yi3, ys3, yv3, ⟨yg3, yh3, yb3, yd3, ya3, x5, x6, ym3⟩⟩,
    PySem.W.mg_of X G yn4,
    ⟨ye4, yk4, yb4, yt4, yi4, ys4, yv4, ⟨yg4, yh4, yb4, yd4, ya4, x5, x6, ym4⟩⟩,
    PySem.W.mg_of X G yn5,
    ⟨ye5, yk5, yb5, yt5, yi5, ys5, yv5, ⟨yg5, yh5, yb5, yd5, ya5, x5, x6, ym5⟩⟩,
    yp1_0,
    yp1_2,
    yp1_3,
    yp1_4,
    yp1_5⟩
  exact ok_law T
end HB
open PySem PySem.W PyProof.Rows
set_option maxHeartbeats 0 in
theorem PySem.Challenge.cw_hullpart_k11_no_point_holds : PySem.Challenge.rw_hullpart_k11_no_point.Holds := by
  w_on; o_law; k_head; (case hw => w_witness2)
  k_fill
  refine L2.walk_of (l := PySem.Challenge.rw_hullpart_k11_no_point) (n := 63) (k := 12) (x := "script") (CX := fun _ => L2.CX0) (sp := fun w => LD.spD _ HB.F_law) rfl (by decide) rfl ⟨rfl, by decide, by decide⟩ (fun w h Y => PySem.W.kIn_of Y) ?F (fun _ _ a ns hl _ hS => ⟨[LD.scrD ns], .bool true, .cons (.scr (by rw [LD.scrV_ints]; exact hS)) .nil, ⟨ns, rfl, hl, rfl⟩, fun v H' e r => r.bl_inv⟩) (fun _ _ _ _ _ h => h)
  case F =>
    intro w mg fa h KX G hmg
    refine' HB.all_mk KX G hmg ?a0 ?l0 ?c0 ?k0 ?a1 ?l1 ?c1 ?k1 ?a2 ?l2 ?c2 ?k2 ?a3 ?l3 ?c3 ?k3 ?a4 ?l4 ?c4 ?k4 ?a5 ?l5 ?c5 ?k5 ?a6 ?l6 ?c6 ?k6 ?a7 ?l7 ?c7 ?k7 ?a8 ?l8 ?c8 ?k8 ?a9 ?l9 ?c9 ?k9 ?a10 ?l10 ?c10 ?k10 ?a11 ?l11 ?c11 ?k11 ?a12 ?l12 ?c12 ?k12 ?a13 ?l13 ?c13 ?k13 ?a14 ?l14 ?c14 ?k14 ?a15 ?l15 ?c15 ?k15 ?a16 ?l16 ?c16 ?k16 ?a17 ?l17 ?c17 ?k17 ?a18 ?l18 ?c18 ?k18 ?a19 ?l19 ?c19 ?k19 ?a20 ?l20 ?c20 ?k20 ?a21 ?l21 ?c21 ?k21 ?a22 ?l22 ?c22 ?k22 ?a23 ?l23 ?c23 ?k23 ?a24 ?l24 ?c24 ?k24 ?a25 ?l25 ?c25 ?k25 ?a26 ?l26 ?c26 ?k26 ?a27 ?l27 ?c27 ?k27 ?a28 ?l28 ?c28 ?k28 ?a29 ?l29 ?c29 ?k29 ?a30 ?l30 ?c30 ?k30 ?a31 ?l31 ?c31 ?k31 ?a32 ?l32 ?c32 ?k32 ?a33 ?l33 ?c33 ?k33 ?a34 ?l34 ?c34 ?k34 ?a35 ?l35 ?c35 ?k35 ?a36 ?l36 ?c36 ?k36 ?a37 ?l37 ?c37 ?k37 ?a38 ?l38 ?c38 ?k38 ?a39 ?l39 ?c39 ?k39 ?q0 ?q1 ?z0 ?z1 ?z2 ?z3 ?z4 ?z5 ?z6 ?z7 ?z8 ?z9 ?z10 ?z11 ?x5 ?x6 ?yn0 ?ye0 ?yk0 ?yb0 ?yt0 ?yi0 ?ys0 ?yv0 ?yg0 ?yh0 ?yd0 ?ya0 ?ym0 ?yn1 ?ye1 ?yk1 ?yb1 ?yt1 ?yi1 ?ys1 ?yv1 ?yg1 ?yh1 ?yd1 ?ya1 ?ym1 ?yn2 ?ye2 ?yk2 ?yb2 ?yt2 ?yi2 ?ys2 ?yv2 ?yg2 ?yh2 ?yd2 ?ya2 ?ym2 ?yn3 ?ye3 ?yk3 ?yb3 ?yt3 ?yi3 ?ys3 ?yv3 ?yg3 ?yh3 ?yd3 ?ya3 ?ym3 ?yn4 ?ye4 ?yk4 ?yb4 ?yt4 ?yi4 ?ys4 ?yv4 ?yg4 ?yh4 ?yd4 ?ya4 ?ym4 ?yn5 ?ye5 ?yk5 ?yb5 ?yt5 ?yi5 ?ys5 ?yv5 ?yg5 ?yh5 ?yd5 ?ya5 ?ym5 ?yp1_0 ?yp1_2 ?yp1_3 ?yp1_4 ?yp1_5
    (case a0 => k_is)
    (case l0 => k_is)
    (case c0 => k_is)
    (case k0 => k_is)
    (case a1 => k_is)
    (case l1 => k_is)
    (case c1 => k_is)
    (case k1 => k_is)
    (case a2 => k_is)
    (case l2 => k_is)
    (case c2 => k_is)
    (case k2 => k_is)
    (case a3 => k_is)
    (case l3 => k_is)
    (case c3 => k_is)
    (case k3 => k_is)
    (case a4 => k_is)
    (case l4 => k_is)
    (case c4 => k_is)
    (case k4 => k_is)
    (case a5 => k_is)
    (case l5 => k_is)
    (case c5 => k_is)
    (case k5 => k_is)
    (case a6 => k_is)
    (case l6 => k_is)
    (case c6 => k_is)
    (case k6 => k_is)
    (case a7 => k_is)
    (case l7 => k_is)
    (case c7 => k_is)
    (case k7 => k_is)
    (case a8 => k_is)
    (case l8 => k_is)
    (case c8 => k_is)
    (case k8 => k_is)
    (case a9 => k_is)
    (case l9 => k_is)
    (case c9 => k_is)
    (case k9 => k_is)
    (case a10 => k_is)
    (case l10 => k_is)
    (case c10 => k_is)
    (case k10 => k_is)
    (case a11 => k_is)
    (case l11 => k_is)
    (case c11 => k_is)
    (case k11 => k_is)
    (case a12 => k_is)
    (case l12 => k_is)
    (case c12 => k_is)
    (case k12 => k_is)
    (case a13 => k_is)
    (case l13 => k_is)
    (case c13 => k_is)
    (case k13 => k_is)
    (case a14 => k_is)
    (case l14 => k_is)
    (case c14 => k_is)
    (case k14 => k_is)
    (case a15 => k_is)
    (case l15 => k_is)
    (case c15 => k_is)
    (case k15 => k_is)
    (case a16 => k_is)
    (case l16 => k_is)
    (case c16 => k_is)
    (case k16 => k_is)
    (case a17 => k_is)
    (case l17 => k_is)
    (case c17 => k_is)
    (case k17 => k_is)
    (case a18 => k_is)
    (case l18 => k_is)
    (case c18 => k_is)
    (case k18 => k_is)
    (case a19 => k_is)
    (case l19 => k_is)
    (case c19 => k_is)
    (case k19 => k_is)
    (case a20 => k_is)
    (case l20 => k_is)
    (case c20 => k_is)
    (case k20 => k_is)
    (case a21 => k_is)
    (case l21 => k_is)
    (case c21 => k_is)
    (case k21 => k_is)
    (case a22 => k_is)
    (case l22 => k_is)
    (case c22 => k_is)
    (case k22 => k_is)
    (case a23 => k_is)
    (case l23 => k_is)
    (case c23 => k_is)
    (case k23 => k_is)
    (case a24 => k_is)
    (case l24 => k_is)
    (case c24 => k_is)
    (case k24 => k_is)
    (case a25 => k_is)
    (case l25 => k_is)
    (case c25 => k_is)
    (case k25 => k_is)
    (case a26 => k_is)
    (case l26 => k_is)
    (case c26 => k_is)
    (case k26 => k_is)
    (case a27 => k_is)
    (case l27 => k_is)
    (case c27 => k_is)
    (case k27 => k_is)
    (case a28 => k_is)
    (case l28 => k_is)
    (case c28 => k_is)
    (case k28 => k_is)
    (case a29 => k_is)
    (case l29 => k_is)
    (case c29 => k_is)
    (case k29 => k_is)
    (case a30 => k_is)
    (case l30 => k_is)
    (case c30 => k_is)
    (case k30 => k_is)
    (case a31 => k_is)
    (case l31 => k_is)
    (case c31 => k_is)
    (case k31 => k_is)
    (case a32 => k_is)
    (case l32 => k_is)
    (case c32 => k_is)
    (case k32 => k_is)
    (case a33 => k_is)
    (case l33 => k_is)
    (case c33 => k_is)
    (case k33 => k_is)
    (case a34 => k_is)
    (case l34 => k_is)
    (case c34 => k_is)
    (case k34 => k_is)
    (case a35 => k_is)
    (case l35 => k_is)
    (case c35 => k_is)
    (case k35 => k_is)
    (case a36 => k_is)
    (case l36 => k_is)
    (case c36 => k_is)
    (case k36 => k_is)
    (case a37 => k_is)
    (case l37 => k_is)
    (case c37 => k_is)
    (case k37 => k_is)
    (case a38 => k_is)
    (case l38 => k_is)
    (case c38 => k_is)
    (case k38 => k_is)
    (case a39 => k_is)
    (case l39 => k_is)
    (case c39 => k_is)
    (case k39 => k_is)
    (case q0 => k_is)
    (case q1 => k_is)
    (case z0 => k_is)
    (case z1 => k_is)
    (case z2 => k_is)
    (case z3 => k_is)
    (case z4 => k_is)
    (case z5 => k_is)
    (case z6 => k_is)
    (case z7 => k_is)
    (case z8 => k_is)
    (case z9 => k_is)
    (case z10 => k_is)
    (case z11 => k_is)
    (case x5 => k_is)
    (case x6 => k_is)
    (case yn0 => k_is)
    (case ye0 => k_exc)
    (case yk0 => k_is)
    (case yb0 => k_is)
    (case yt0 => k_is)
    (case yi0 => k_is)
    (case ys0 => first | k_is | rfl)
    (case yv0 => k_is)
    (case yg0 => k_is)
    (case yh0 => k_is)
    (case yd0 => k_is)
    (case ya0 => k_is)
    (case ym0 => k_is)
    (case yn1 => k_is)
    (case ye1 => k_exc)
    (case yk1 => k_is)
    (case yb1 => k_is)
    (case yt1 => k_is)
    (case yi1 => k_is)
    (case ys1 => first | k_is | rfl)
    (case yv1 => k_is)
    (case yg1 => k_is)
    (case yh1 => k_is)
    (case yd1 => k_is)
    (case ya1 => k_is)
    (case ym1 => k_is)
    (case yn2 => k_is)
    (case ye2 => k_exc)
    (case yk2 => k_is)
    (case yb2 => k_is)
    (case yt2 => k_is)
    (case yi2 => k_is)
    (case ys2 => first | k_is | rfl)
    (case yv2 => k_is)
    (case yg2 => k_is)
    (case yh2 => k_is)
    (case yd2 => k_is)
    (case ya2 => k_is)
    (case ym2 => k_is)
    (case yn3 => k_is)
    (case ye3 => k_exc)
    (case yk3 => k_is)
    (case yb3 => k_is)
    (case yt3 => k_is)
    (case yi3 => k_is)
    (case ys3 => first | k_is | rfl)
    (case yv3 => k_is)
    (case yg3 => k_is)
    (case yh3 => k_is)
    (case yd3 => k_is)
    (case ya3 => k_is)
    (case ym3 => k_is)
    (case yn4 => k_is)
    (case ye4 => k_exc)
    (case yk4 => k_is)
    (case yb4 => k_is)
    (case yt4 => k_is)
    (case yi4 => k_is)
    (case ys4 => first | k_is | rfl)
    (case yv4 => k_is)
    (case yg4 => k_is)
    (case yh4 => k_is)
    (case yd4 => k_is)
    (case ya4 => k_is)
    (case ym4 => k_is)
    (case yn5 => k_is)
    (case ye5 => k_exc)
    (case yk5 => k_is)
    (case yb5 => k_is)
    (case yt5 => k_is)
    (case yi5 => k_is)
    (case ys5 => first | k_is | rfl)
    (case yv5 => k_is)
    (case yg5 => k_is)
    (case yh5 => k_is)
    (case yd5 => k_is)
    (case ya5 => k_is)
    (case ym5 => k_is)
    (case yp1_0 => first | k_is | rfl)
    (case yp1_2 => first | k_is | rfl)
    (case yp1_3 => first | k_is | rfl)
    (case yp1_4 => first | k_is | rfl)
    (case yp1_5 => first | k_is | rfl)
