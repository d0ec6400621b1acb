import PyProof.Rows.All
import Wide.All
import OpenK.AllK
import Wide.FinOn
import PySem.Challenge.RW_pq0274_01
open PySem PySem.W PySem.Calls PyProof.Rows
set_option Elab.async false
set_option maxRecDepth 100000
set_option maxHeartbeats 8000000
namespace Mine
open_top hd for PySem.Challenge.rw_pq0274_01
theorem nsub {h₀ h : Heap} {L : Addr} {a b : List (Addr × Obj)} (N : News h₀ L h a) (hs : ∀ p ∈ b, p ∈ a) : News h₀ L h b := fun p hp => N p (hs p hp)
theorem q_int {Q : Value → Shared → Prop} {i j : Int} {t : Tok} {s : Shared} (e : i = j) (h : Q (.int i t) s) : Q (.int j t) s := e ▸ h

theorem pop_first {prog : Program} {w : World} {A : Around} {E : Value → Shared → Prop} {s : Shared} {h₀ : Heap} {L D : Addr} {m : Str → Option Value} {news news' : List (Addr × Obj)} {n : Nat} {v : Value} {vs : List Value} {u : Tok} {Q : Value → Shared → Prop}
    (F : Fr h₀ L s.heap m) (N : News h₀ L s.heap news) (U : Upd D (listOf ⟨v :: vs⟩ n) (listOf ⟨vs⟩ (n + 1)) news news')
    (hz : vs.length < sizeLine) (h : ∀ h', Fr h₀ L h' m → News h₀ L h' news' → Q v { s with heap := h' }) : wpAny (model prog w) A (call (.builtin "list.pop") [.ref D, .int 0 u]) Q E s :=
  kl_popAt (k := 0) (p := []) (q := vs) F N rfl (by simp [seqIndex?]) rfl U hz h

/-- one entry of a ledger turned, others put in behind it -/
inductive UpdI (d : Addr) (o : Obj) : List (Addr × Obj) → (Obj → List (Addr × Obj) → List (Addr × Obj)) → Prop
  | head {r} : (∀ p ∈ r, p.1 ≠ d) → UpdI d o ((d, o) :: r) (fun o' w => (d, o') :: (w ++ r))
  | tail {p r g} : p.1 ≠ d → UpdI d o r g → UpdI d o (p :: r) (fun o' w => p :: g o' w)
theorem UpdI.norm {d : Addr} {o : Obj} {news : List (Addr × Obj)} {g : Obj → List (Addr × Obj) → List (Addr × Obj)} (U : UpdI d o news g) :
    ∃ fz, (∀ p ∈ (d, o) :: fz, p ∈ news) ∧ (∀ p ∈ fz, p.1 ≠ d) ∧ (∀ p ∈ news, p ∈ (d, o) :: fz) ∧ ∀ o' w, ∀ p ∈ g o' w, p ∈ (d, o') :: (w ++ fz) := by
  induction U with
  | @head r h => exact ⟨r, fun p hp => hp, h, fun p hp => hp, fun o' w p hp => hp⟩
  | @tail p r g h _ ih =>
    obtain ⟨fz, a, b, c, e⟩ := ih
    refine ⟨p :: fz, fun q hq => ?_, fun q hq => ?_, fun q hq => ?_, fun o' w q hq => ?_⟩
    · rcases List.mem_cons.mp hq with rfl | hq
      · exact .tail _ (a _ (.head _))
      · rcases List.mem_cons.mp hq with rfl | hq
        · exact .head _
        · exact .tail _ (a _ (.tail _ hq))
    · rcases List.mem_cons.mp hq with rfl | hq
      · exact h
      · exact b _ hq
    · rcases List.mem_cons.mp hq with rfl | hq
      · exact .tail _ (.head _)
      · rcases List.mem_cons.mp (c _ hq) with rfl | hq
        · exact .head _
        · exact .tail _ (.tail _ hq)
    · rcases List.mem_cons.mp hq with rfl | hq
      · exact .tail _ (List.mem_append_right _ (.head _))
      · rcases List.mem_cons.mp (e _ _ _ hq) with rfl | hq
        · exact .head _
        · rcases List.mem_append.mp hq with hq | hq
          · exact .tail _ (List.mem_append_left _ hq)
          · exact .tail _ (List.mem_append_right _ (.tail _ hq))

abbrev PG : Program := PySem.Challenge.rw_pq0274_01.row.prog

def wordOf (k : Int) : List Int := if k = 0 then [97] else if k = 1 then [98, 98] else if k = 2 then [99, 97] else [97, 97]
def gapOf (k : Int) : List Int := if k = 0 then [32] else if k = 1 then [10] else if k = 2 then [32, 32] else if k = 3 then [9, 32] else [10, 10]

theorem sub3 {x y : Addr × Obj} {N fz : List (Addr × Obj)} (hx : x ∈ N) (hy : y ∈ N) (hf : ∀ p ∈ fz, p ∈ N) : ∀ p ∈ x :: ([y] ++ fz), p ∈ N := by
  intro p hp
  rcases List.mem_cons.mp hp with rfl | hp
  · exact hx
  · rcases List.mem_cons.mp hp with rfl | hp
    · exact hy
    · exact hf p hp
theorem allLt_all {d : Addr} : ∀ {l : List (Addr × Obj)}, AllLt d l → ∀ p ∈ l, p.1 < d
  | [], _, _, h => nomatch h
  | p :: l, h, q, hq => by
    rcases List.mem_cons.mp hq with rfl | hq
    · exact h.1
    · exact allLt_all h.2 q hq

/-- a goal that stands still -/
structure Hold (P : Prop) : Prop where
  out : P
theorem fr_at {g h : Heap} {L : Addr} {m : Str → Option Value} {x : Str} {v : Value} (F : Fr g L h m) (e : m x = some v) : Fr g L h (fun y => if y = x then some v else m y) := by
  have q : (fun y => if y = x then some v else m y) = m := by
    funext y
    by_cases h : y = x
    · subst h; simp [e]
    · simp [h]
  rw [q]; exact F
theorem fr2 {g h : Heap} {L : Addr} {m : Str → Option Value} {x0 x1 : Str} {v0 v1 : Value} (F : Fr g L h m) (e0 : m x0 = some v0) (e1 : m x1 = some v1) : Fr g L h (fun y => if y = x0 then some v0 else if y = x1 then some v1 else m y) := by
  have q : (fun y => if y = x0 then some v0 else if y = x1 then some v1 else m y) = m := by
    funext y
    by_cases h0 : y = x0
    · subst h0; simp_all
    by_cases h1 : y = x1
    · subst h1; simp_all
    simp_all
  rw [q]; exact F
theorem fr3 {g h : Heap} {L : Addr} {m : Str → Option Value} {x0 x1 x2 : Str} {v0 v1 v2 : Value} (F : Fr g L h m) (e0 : m x0 = some v0) (e1 : m x1 = some v1) (e2 : m x2 = some v2) : Fr g L h (fun y => if y = x0 then some v0 else if y = x1 then some v1 else if y = x2 then some v2 else m y) := by
  have q : (fun y => if y = x0 then some v0 else if y = x1 then some v1 else if y = x2 then some v2 else m y) = m := by
    funext y
    by_cases h0 : y = x0
    · subst h0; simp_all
    by_cases h1 : y = x1
    · subst h1; simp_all
    by_cases h2 : y = x2
    · subst h2; simp_all
    simp_all
  rw [q]; exact F
theorem fr4 {g h : Heap} {L : Addr} {m : Str → Option Value} {x0 x1 x2 x3 : Str} {v0 v1 v2 v3 : Value} (F : Fr g L h m) (e0 : m x0 = some v0) (e1 : m x1 = some v1) (e2 : m x2 = some v2) (e3 : m x3 = some v3) : Fr g L h (fun y => if y = x0 then some v0 else if y = x1 then some v1 else if y = x2 then some v2 else if y = x3 then some v3 else m y) := by
  have q : (fun y => if y = x0 then some v0 else if y = x1 then some v1 else if y = x2 then some v2 else if y = x3 then some v3 else m y) = m := by
    funext y
    by_cases h0 : y = x0
    · subst h0; simp_all
    by_cases h1 : y = x1
    · subst h1; simp_all
    by_cases h2 : y = x2
    · subst h2; simp_all
    by_cases h3 : y = x3
    · subst h3; simp_all
    simp_all
  rw [q]; exact F
theorem fr5 {g h : Heap} {L : Addr} {m : Str → Option Value} {x0 x1 x2 x3 x4 : Str} {v0 v1 v2 v3 v4 : Value} (F : Fr g L h m) (e0 : m x0 = some v0) (e1 : m x1 = some v1) (e2 : m x2 = some v2) (e3 : m x3 = some v3) (e4 : m x4 = some v4) : Fr g L h (fun y => if y = x0 then some v0 else if y = x1 then some v1 else if y = x2 then some v2 else if y = x3 then some v3 else if y = x4 then some v4 else m y) := by
  have q : (fun y => if y = x0 then some v0 else if y = x1 then some v1 else if y = x2 then some v2 else if y = x3 then some v3 else if y = x4 then some v4 else m y) = m := by
    funext y
    by_cases h0 : y = x0
    · subst h0; simp_all
    by_cases h1 : y = x1
    · subst h1; simp_all
    by_cases h2 : y = x2
    · subst h2; simp_all
    by_cases h3 : y = x3
    · subst h3; simp_all
    by_cases h4 : y = x4
    · subst h4; simp_all
    simp_all
  rw [q]; exact F
theorem fr6 {g h : Heap} {L : Addr} {m : Str → Option Value} {x0 x1 x2 x3 x4 x5 : Str} {v0 v1 v2 v3 v4 v5 : Value} (F : Fr g L h m) (e0 : m x0 = some v0) (e1 : m x1 = some v1) (e2 : m x2 = some v2) (e3 : m x3 = some v3) (e4 : m x4 = some v4) (e5 : m x5 = some v5) : Fr g L h (fun y => if y = x0 then some v0 else if y = x1 then some v1 else if y = x2 then some v2 else if y = x3 then some v3 else if y = x4 then some v4 else if y = x5 then some v5 else m y) := by
  have q : (fun y => if y = x0 then some v0 else if y = x1 then some v1 else if y = x2 then some v2 else if y = x3 then some v3 else if y = x4 then some v4 else if y = x5 then some v5 else m y) = m := by
    funext y
    by_cases h0 : y = x0
    · subst h0; simp_all
    by_cases h1 : y = x1
    · subst h1; simp_all
    by_cases h2 : y = x2
    · subst h2; simp_all
    by_cases h3 : y = x3
    · subst h3; simp_all
    by_cases h4 : y = x4
    · subst h4; simp_all
    by_cases h5 : y = x5
    · subst h5; simp_all
    simp_all
  rw [q]; exact F
theorem fr7 {g h : Heap} {L : Addr} {m : Str → Option Value} {x0 x1 x2 x3 x4 x5 x6 : Str} {v0 v1 v2 v3 v4 v5 v6 : Value} (F : Fr g L h m) (e0 : m x0 = some v0) (e1 : m x1 = some v1) (e2 : m x2 = some v2) (e3 : m x3 = some v3) (e4 : m x4 = some v4) (e5 : m x5 = some v5) (e6 : m x6 = some v6) : Fr g L h (fun y => if y = x0 then some v0 else if y = x1 then some v1 else if y = x2 then some v2 else if y = x3 then some v3 else if y = x4 then some v4 else if y = x5 then some v5 else if y = x6 then some v6 else m y) := by
  have q : (fun y => if y = x0 then some v0 else if y = x1 then some v1 else if y = x2 then some v2 else if y = x3 then some v3 else if y = x4 then some v4 else if y = x5 then some v5 else if y = x6 then some v6 else m y) = m := by
    funext y
    by_cases h0 : y = x0
    · subst h0; simp_all
    by_cases h1 : y = x1
    · subst h1; simp_all
    by_cases h2 : y = x2
    · subst h2; simp_all
    by_cases h3 : y = x3
    · subst h3; simp_all
    by_cases h4 : y = x4
    · subst h4; simp_all
    by_cases h5 : y = x5
    · subst h5; simp_all
    by_cases h6 : y = x6
    · subst h6; simp_all
    simp_all
  rw [q]; exact F
theorem fr8 {g h : Heap} {L : Addr} {m : Str → Option Value} {x0 x1 x2 x3 x4 x5 x6 x7 : Str} {v0 v1 v2 v3 v4 v5 v6 v7 : Value} (F : Fr g L h m) (e0 : m x0 = some v0) (e1 : m x1 = some v1) (e2 : m x2 = some v2) (e3 : m x3 = some v3) (e4 : m x4 = some v4) (e5 : m x5 = some v5) (e6 : m x6 = some v6) (e7 : m x7 = some v7) : Fr g L h (fun y => if y = x0 then some v0 else if y = x1 then some v1 else if y = x2 then some v2 else if y = x3 then some v3 else if y = x4 then some v4 else if y = x5 then some v5 else if y = x6 then some v6 else if y = x7 then some v7 else m y) := by
  have q : (fun y => if y = x0 then some v0 else if y = x1 then some v1 else if y = x2 then some v2 else if y = x3 then some v3 else if y = x4 then some v4 else if y = x5 then some v5 else if y = x6 then some v6 else if y = x7 then some v7 else m y) = m := by
    funext y
    by_cases h0 : y = x0
    · subst h0; simp_all
    by_cases h1 : y = x1
    · subst h1; simp_all
    by_cases h2 : y = x2
    · subst h2; simp_all
    by_cases h3 : y = x3
    · subst h3; simp_all
    by_cases h4 : y = x4
    · subst h4; simp_all
    by_cases h5 : y = x5
    · subst h5; simp_all
    by_cases h6 : y = x6
    · subst h6; simp_all
    by_cases h7 : y = x7
    · subst h7; simp_all
    simp_all
  rw [q]; exact F
theorem fr9 {g h : Heap} {L : Addr} {m : Str → Option Value} {x0 x1 x2 x3 x4 x5 x6 x7 x8 : Str} {v0 v1 v2 v3 v4 v5 v6 v7 v8 : Value} (F : Fr g L h m) (e0 : m x0 = some v0) (e1 : m x1 = some v1) (e2 : m x2 = some v2) (e3 : m x3 = some v3) (e4 : m x4 = some v4) (e5 : m x5 = some v5) (e6 : m x6 = some v6) (e7 : m x7 = some v7) (e8 : m x8 = some v8) : Fr g L h (fun y => if y = x0 then some v0 else if y = x1 then some v1 else if y = x2 then some v2 else if y = x3 then some v3 else if y = x4 then some v4 else if y = x5 then some v5 else if y = x6 then some v6 else if y = x7 then some v7 else if y = x8 then some v8 else m y) := by
  have q : (fun y => if y = x0 then some v0 else if y = x1 then some v1 else if y = x2 then some v2 else if y = x3 then some v3 else if y = x4 then some v4 else if y = x5 then some v5 else if y = x6 then some v6 else if y = x7 then some v7 else if y = x8 then some v8 else m y) = m := by
    funext y
    by_cases h0 : y = x0
    · subst h0; simp_all
    by_cases h1 : y = x1
    · subst h1; simp_all
    by_cases h2 : y = x2
    · subst h2; simp_all
    by_cases h3 : y = x3
    · subst h3; simp_all
    by_cases h4 : y = x4
    · subst h4; simp_all
    by_cases h5 : y = x5
    · subst h5; simp_all
    by_cases h6 : y = x6
    · subst h6; simp_all
    by_cases h7 : y = x7
    · subst h7; simp_all
    by_cases h8 : y = x8
    · subst h8; simp_all
    simp_all
  rw [q]; exact F
theorem fr10 {g h : Heap} {L : Addr} {m : Str → Option Value} {x0 x1 x2 x3 x4 x5 x6 x7 x8 x9 : Str} {v0 v1 v2 v3 v4 v5 v6 v7 v8 v9 : Value} (F : Fr g L h m) (e0 : m x0 = some v0) (e1 : m x1 = some v1) (e2 : m x2 = some v2) (e3 : m x3 = some v3) (e4 : m x4 = some v4) (e5 : m x5 = some v5) (e6 : m x6 = some v6) (e7 : m x7 = some v7) (e8 : m x8 = some v8) (e9 : m x9 = some v9) : Fr g L h (fun y => if y = x0 then some v0 else if y = x1 then some v1 else if y = x2 then some v2 else if y = x3 then some v3 else if y = x4 then some v4 else if y = x5 then some v5 else if y = x6 then some v6 else if y = x7 then some v7 else if y = x8 then some v8 else if y = x9 then some v9 else m y) := by
  have q : (fun y => if y = x0 then some v0 else if y = x1 then some v1 else if y = x2 then some v2 else if y = x3 then some v3 else if y = x4 then some v4 else if y = x5 then some v5 else if y = x6 then some v6 else if y = x7 then some v7 else if y = x8 then some v8 else if y = x9 then some v9 else m y) = m := by
    funext y
    by_cases h0 : y = x0
    · subst h0; simp_all
    by_cases h1 : y = x1
    · subst h1; simp_all
    by_cases h2 : y = x2
    · subst h2; simp_all
    by_cases h3 : y = x3
    · subst h3; simp_all
    by_cases h4 : y = x4
    · subst h4; simp_all
    by_cases h5 : y = x5
    · subst h5; simp_all
    by_cases h6 : y = x6
    · subst h6; simp_all
    by_cases h7 : y = x7
    · subst h7; simp_all
    by_cases h8 : y = x8
    · subst h8; simp_all
    by_cases h9 : y = x9
    · subst h9; simp_all
    simp_all
  rw [q]; exact F
abbrev dI (xs : List Int) : Dat := .list (xs.map .int)
abbrev d2 (p : Int × Int) : Dat := .tuple [.int p.1, .int p.2]
theorem ints_of_dat {news : List (Addr × Obj)} : ∀ {vs : List Value} {xs : List Int}, DatAll news vs (xs.map .int) → IntsAre vs xs
  | [], [], _ => .nil
  | [], _ :: _, h => by cases h
  | v :: vs, [], h => by cases h
  | v :: vs, x :: xs, h => by
    cases h with
    | cons hv r =>
      cases hv
      exact .cons _ _ (ints_of_dat r)
theorem dat_of_ints {news : List (Addr × Obj)} : ∀ {vs : List Value} {xs : List Int}, IntsAre vs xs → DatAll news vs (xs.map .int)
  | _, _, .nil => .nil
  | _, _, .cons n t r => .cons (.int n t) (dat_of_ints r)
theorem dI_out {news : List (Addr × Obj)} {v : Value} {xs : List Int} (h : DatIn news v (dI xs)) : ∃ a vs n, v = .ref a ∧ (a, listOf vs.toArray n) ∈ news ∧ IntsAre vs xs := by
  cases h with
  | list hm r => exact ⟨_, _, _, rfl, hm, ints_of_dat r⟩
theorem dI_in {news : List (Addr × Obj)} {a n : Nat} {vs : List Value} {xs : List Int} (hm : (a, listOf vs.toArray n) ∈ news) (h : IntsAre vs xs) : DatIn news (.ref a) (dI xs) := .list hm (dat_of_ints h)
def Abv (own news : List (Addr × Obj)) : Prop := ∀ q ∈ own, ∀ p ∈ news, p.1 < q.1

def blank (x : Int) : Bool := x == 9 || x == 10 || x == 32
/-- the words' begins and ends of a text, a begin open or not -/
def scan : Int → Option Int → List Int → List (Int × Int)
  | _, none, [] => []
  | i, some b, [] => [(b, i)]
  | i, none, y :: ys => if blank y then scan (i + 1) none ys else scan (i + 1) (some i) ys
  | i, some b, y :: ys => if blank y then (b, i) :: scan (i + 1) none ys else scan (i + 1) (some b) ys

theorem any_blank (x : Int) : [9, 10, 32].any (· == x) = blank x := by
  simp only [List.any_cons, List.any_nil, Bool.or_false, blank, Bool.or_assoc]
  rw [BEq.comm (a := (9 : Int)), BEq.comm (a := (10 : Int)), BEq.comm (a := (32 : Int))]
theorem drop_getD (xs : List Int) (j : Nat) (h : j < xs.length) : xs.drop j = xs.getD j 0 :: xs.drop (j + 1) := by
  rw [List.drop_eq_getElem_cons h]; simp [h]
theorem listOf_push (fl : List Value) (v : Value) (k : Nat) : listOf (fl.toArray.push v) k = listOf (fl ++ [v]).toArray k := by simp

/-- behind a loop: what stands there -/
def MidE (h₀ : Heap) (L : Addr) (s : Shared) (X : (Str → Option Value) → List (Addr × Obj) → Prop) (f : Flow) (s' : Shared) : Prop :=
  f = .next ∧ ∃ h' tk m' news', s' = { s with heap := h', toks := tk } ∧ Fr h₀ L h' m' ∧ News h₀ L h' news' ∧ X m' news'
theorem MidE.intro {h₀ : Heap} {L : Addr} {s : Shared} {X : (Str → Option Value) → List (Addr × Obj) → Prop} {h' : Heap} {tk : Nat} {m' : Str → Option Value} {news' : List (Addr × Obj)} (F : Fr h₀ L h' m') (N : News h₀ L h' news') (hx : X m' news') :
    MidE h₀ L s X .next { s with heap := h', toks := tk } := ⟨rfl, h', tk, m', news', rfl, F, N, hx⟩
theorem while_mid {prog : Program} {w : World} {A : Around} {E : Value → Shared → Prop} {Q : Flow → Shared → Prop} {s : Shared} {env : Env} {h₀ : Heap} {L : Addr} {test : Expr} {body : List Stmt} {pos : Pos} {m : Str → Option Value} {news : List (Addr × Obj)}
    (J : Nat → (Str → Option Value) → List (Addr × Obj) → Prop) (X : (Str → Option Value) → List (Addr × Obj) → Prop) {n₀ : Nat}
    (F : Fr h₀ L s.heap m) (N : News h₀ L s.heap news) (hJ : J n₀ m news)
    (turn : ∀ n m₁ news₁ h₁ tk₁, Fr h₀ L h₁ m₁ → News h₀ L h₁ news₁ → J n m₁ news₁ →
      wpAny (model prog w) A (isTrue test env (eval test env)) (fun b s₂ =>
        if b = true then wpAny (model prog w) A (execs body env) (WhileStep h₀ L s J n) E s₂ else MidE h₀ L s X .next s₂) E { s with heap := h₁, toks := tk₁ })
    (fin : ∀ m₁ news₁ h₁ tk₁, Fr h₀ L h₁ m₁ → News h₀ L h₁ news₁ → X m₁ news₁ → Q .next { s with heap := h₁, toks := tk₁ })
    (hE : PassesOwn (model prog w) A env E := by passes_own) :
    wpAny (model prog w) A (exec (.While test body [] pos) env) Q E s := by
  refine wpAny_mono (While_inv (Q := MidE h₀ L s X) J F N hJ turn hE) (fun f s' h => ?_) fun _ _ x => x
  obtain ⟨rfl, h', tk, m', news', rfl, F', N', hx⟩ := h
  exact fin _ _ _ _ F' N' hx

section
variable {prog : Program} {w : World} {A : Around} {E : Value → Shared → Prop} {s : Shared} {env : Env} {h₀ : Heap} {target : Expr} {body : List Stmt} {Q : Flow → Shared → Prop}
/-- a for-turn's end: the word holds anew -/
def ForE (h₀ : Heap) (L : Addr) (s₁ : Shared) (it : Addr × Obj) (J : (Str → Option Value) → List (Addr × Obj) → Prop) (Q : Flow → Shared → Prop) (f : Flow) (s₂ : Shared) : Prop :=
  match f with
  | .ret v => Q (.ret v) s₂
  | .brk => Q .next s₂
  | _ => ∃ h' tk m' news', s₂ = { s₁ with heap := h', toks := tk } ∧ Fr h₀ L h' m' ∧ News h₀ L h' (it :: news') ∧ (∀ p ∈ news', p.1 ≠ it.1) ∧ J m' news'
theorem ForE.intro {L : Addr} {s₁ : Shared} {it : Addr × Obj} {J : (Str → Option Value) → List (Addr × Obj) → Prop} {h' : Heap} {tk : Nat} {m' : Str → Option Value} {news' : List (Addr × Obj)}
    (F : Fr h₀ L h' m') (N : News h₀ L h' (it :: news')) (hI : ∀ p ∈ news', p.1 ≠ it.1) (hJ : J m' news') : ForE h₀ L s₁ it J Q .next { s₁ with heap := h', toks := tk } := ⟨h', tk, m', news', rfl, F, N, hI, hJ⟩
theorem items_inv {I ax : Addr} {lo : Obj} {all : List Value} (J : Nat → (Str → Option Value) → List (Addr × Obj) → Prop)
    (keep : ∀ i m n, J i m n → (ax, lo) ∈ n)
    (turn : ∀ i v m n h tk o, all[i]? = some v → J i m n → Fr h₀ env.locals h m → News h₀ env.locals h ((I, o) :: n) → (∀ p ∈ n, p.1 ≠ I) →
      wpAny (model prog w) A (assign target env v) (fun _ s₂ => wpAny (model prog w) A (execs body env) (ForE h₀ env.locals { s with heap := h, toks := tk } (I, o) (J (i + 1)) Q) E s₂) E { s with heap := h, toks := tk })
    (done : ∀ m n h tk, J all.length m n → Fr h₀ env.locals h m → News h₀ env.locals h n → Q .next { s with heap := h, toks := tk }) :
    ∀ (r pre : List Value) (m : Str → Option Value) (n : List (Addr × Obj)), all = pre ++ r → J pre.length m n → (∀ p ∈ n, p.1 ≠ I) →
      ItemsRest prog w A E h₀ env target body Q s [(I, "list_iterator")] [(ax, lo)] (r.map .val) m n := by
  intro r
  induction r with
  | nil =>
    intro pre m n e hJ _ h tk F N
    rw [List.append_nil] at e
    subst e
    exact done m n h tk hJ F N
  | cons v r ih =>
    intro pre m n e hJ hI
    refine ItemsRest.val fun h tk F => AllObj.cons fun o hc => AllObj.nil fun N => ?_
    refine wpAny_mono (turn pre.length v m n h tk o (by rw [e]; simp) hJ F N hI) (fun _ s₂ h₂ => wpAny_mono h₂ (fun f s₃ h₃ => ?_) fun _ _ x => x) fun _ _ x => x
    have fin : (∃ h' tk' m' news', s₃ = { ({ s with heap := h, toks := tk } : Shared) with heap := h', toks := tk' } ∧ Fr h₀ env.locals h' m' ∧ News h₀ env.locals h' ((I, o) :: news') ∧ (∀ p ∈ news', p.1 ≠ I) ∧ J (pre.length + 1) m' news') →
        UnrEndW h₀ env.locals { s with heap := h, toks := tk } [(I, o)] (fun m' n' => SubL [(ax, lo)] n' ∧ ItemsRest prog w A E h₀ env target body Q s [(I, "list_iterator")] [(ax, lo)] (r.map .val) m' n') s₃ := by
      rintro ⟨h', tk', m', news', rfl, F', N', hI', hJ'⟩
      refine ⟨h', tk', m', news', rfl, F', N', fun p hp q hq => ?_, And.intro (keep _ _ _ hJ') trivial, ih (pre ++ [v]) m' news' (by rw [e]; simp) (by simpa using hJ') hI'⟩
      rw [List.mem_singleton.mp hq]
      exact hI' p hp
    cases f with
    | ret v => exact h₃
    | brk => exact h₃
    | next => exact fin h₃
    | cont => exact fin h₃
theorem for_inv {ax : Addr} {n : Nat} {vs : List Value} {m₀ : Str → Option Value} {news : List (Addr × Obj)} (J : Nat → (Str → Option Value) → List (Addr × Obj) → Prop)
    (hh : A.handled = none) (F : Fr h₀ env.locals s.heap m₀) (N : News h₀ env.locals s.heap news) (h0 : J 0 m₀ news)
    (keep : ∀ i m n', J i m n' → (ax, listOf vs.toArray n) ∈ n')
    (turn : ∀ I, (∀ p ∈ news, p.1 < I) → ∀ i v m n h tk o, vs[i]? = some v → J i m n → Fr h₀ env.locals h m → News h₀ env.locals h ((I, o) :: n) → (∀ p ∈ n, p.1 ≠ I) →
      wpAny (model prog w) A (assign target env v) (fun _ s₂ => wpAny (model prog w) A (execs body env) (ForE h₀ env.locals { s with heap := h, toks := tk } (I, o) (J (i + 1)) Q) E s₂) E { s with heap := h, toks := tk })
    (done : ∀ m n h tk, J vs.length m n → Fr h₀ env.locals h m → News h₀ env.locals h n → Q .next { s with heap := h, toks := tk }) :
    wpAny (model prog w) A (pyIter (.ref ax)) (fun it s₂ => TurnsAt prog w A h₀ env target body Q E it s₂) E s :=
  iter_listTurns hh F N (keep _ _ _ h0) rfl rfl fun I hI => items_inv J keep (turn I hI) done vs [] m₀ news rfl h0 fun p hp => Nat.ne_of_lt (hI p hp)
end

theorem dL_out {news : List (Addr × Obj)} {v : Value} {ds : List Dat} (h : DatIn news v (.list ds)) : ∃ a vs n, v = .ref a ∧ (a, listOf vs.toArray n) ∈ news ∧ DatAll news vs ds := by
  cases h with
  | list hm r => exact ⟨_, _, _, rfl, hm, r⟩
abbrev tupOf (vs : List Value) (n : Nat) : Obj := { cls := .type "tuple", data := .seq vs.toArray n }
theorem d2_out {news : List (Addr × Obj)} {v : Value} {p : Int × Int} (h : DatIn news v (d2 p)) : ∃ a t1 t2 n, v = .ref a ∧ (a, tupOf [.int p.1 t1, .int p.2 t2] n) ∈ news := by
  cases h with
  | tuple hm r =>
    cases r with
    | cons h1 r =>
      cases r with
      | cons h2 r =>
        cases r
        cases h1; cases h2
        exact ⟨_, _, _, _, rfl, hm⟩
theorem d2_get {news : List (Addr × Obj)} {vs : List Value} {sps : List (Int × Int)} (h : DatAll news vs (sps.map d2)) {k : Nat} {v : Value} (hv : vs[k]? = some v) : k < sps.length ∧ DatIn news v (d2 (sps.getD k (0, 0))) := by
  have hl := h.length
  have hk : k < vs.length := by
    rcases Nat.lt_or_ge k vs.length with h | h
    · exact h
    · rw [List.getElem?_eq_none h] at hv; cases hv
  rw [List.length_map] at hl
  obtain ⟨u, hu, hd⟩ := h.get (k := k) (by rw [List.length_map]; omega)
  rw [hu] at hv
  cases hv
  refine ⟨by omega, ?_⟩
  rw [List.getElem_map] at hd
  rw [List.getD_eq_getElem?_getD, List.getElem?_eq_getElem (by omega)]
  exact hd
def findF (P : Nat → Bool) : Nat → Nat → Nat
  | 0, i => i
  | f + 1, i => if P i then i else findF P f (i + 1)
def cut (xs : List Int) (b e : Int) : List Int := (xs.drop b.toNat).take (min e.toNat xs.length - b.toNat)
def keepF (xs ys : List Int) (sps : List (Int × Int)) : Nat → List (Int × Int) → List ((Int × Int) × (Int × Int))
  | _, [] => []
  | i, p :: r =>
    let lim := min sps.length (i + 4)
    let k := findF (fun k => decide (cut xs (sps.getD k (0, 0)).1 (sps.getD k (0, 0)).2 = cut ys p.1 p.2)) (lim - i) i
    if k < lim then (sps.getD k (0, 0), p) :: keepF xs ys sps (k + 1) r else keepF xs ys sps i r
abbrev d4 (p : (Int × Int) × (Int × Int)) : Dat := .tuple [d2 p.1, d2 p.2]
theorem datMono {nw news : List (Addr × Obj)} {v : Value} {d : Dat} (h : DatIn nw v d) (hs : ∀ p ∈ nw, p ∈ news) : DatIn news v d := h.mono hs
section
-- membership in a ledger
local macro_rules | `(tactic| ktr_rel) => `(tactic| first | with_reducible assumption | exact List.Mem.head _ | (refine' List.Mem.tail _ ?_; ktr_rel) | (refine' List.mem_append_left _ ?_; ktr_rel) | (refine' List.mem_append_right _ ?_; ktr_rel))
local macro_rules | `(tactic| k_mem) => `(tactic| ktr_rel)
local macro_rules | `(tactic| news_mem) => `(tactic| ktr_rel)
local macro_rules | `(tactic| k_all) => `(tactic| first | with_reducible assumption | (refine' List.forall_mem_append.mpr ⟨?a, ?b⟩; (case a => k_all); (case b => k_all)))
local macro_rules | `(tactic| ktr_unf) => `(tactic| first | (refine' UpdI.head ?ua; (case ua => k_all)) | (refine' UpdI.tail ?ua ?ub; (case ua => k_ne); (case ub => ktr_unf)))
-- rooms
local macro_rules | `(tactic| tb_start) => `(tactic| first | assumption | (simp only [depth_deeper, units_deeper, units_in1, depth_in1, ktrTop, cLine, List.length_tail, List.length_cons, List.length_nil] at *; omega))
-- loops stand still
local macro_rules | `(tactic| walk_at "exec While Compare cons nil") => `(tactic| refine Hold.out ?_)
local macro_rules | `(tactic| walk_at "exec While BoolOp cons nil") => `(tactic| refine Hold.out ?_)
local macro_rules | `(tactic| walk_at "exec For Tuple Call cons nil") => `(tactic| refine Hold.out ?_)
local macro_rules | `(tactic| walk_at "exec For Tuple BinOp cons nil") => `(tactic| refine Hold.out ?_)
local macro_rules | `(tactic| walk_at "exec For Tuple Subscript cons nil") => `(tactic| refine Hold.out ?_)
local macro_rules | `(tactic| walk_at "exec For Tuple Name cons nil") => `(tactic| refine Hold.out ?_)
local macro_rules | `(tactic| walk_at "exec For Name Name cons nil") => `(tactic| refine Hold.out ?_)
local macro_rules | `(tactic| walk_at "pyIter ref") => `(tactic| ((with_reducible show wpAny _ _ (pyIter (Value.ref _)) (fun it s₂ => TurnsAt _ _ _ _ _ _ _ _ _ it s₂) _ _); refine Hold.out ?_))
-- a ledger within a ledger
local macro_rules | `(tactic| kqd_sub) => `(tactic| ((repeat' (first | refine List.forall_mem_cons.mpr ⟨?_, ?_⟩ | refine List.forall_mem_append.mpr ⟨?_, ?_⟩)) <;> first | ktr_rel | (intro p hp; ktr_rel) | exact List.forall_mem_nil _))
section
variable {w : World} {p : Program} {loose : List Str} {mean : ExcName → Option Value} {mg mb : Str → Option Value}
    {dp un : Nat} {gd : Option (List Code)} {cn : Str} {cs : Scope} {a : Addr} {ccd : Value} {cl : List (Str × Addr)} {outer : List Env} {A₀ : Around} {base h₀ : Heap} {L : Addr} {m : Str → Option Value} {s : Shared}
    {Q E : Value → Shared → Prop} {D n : Nat} {its : Array Value} {fz news : List (Addr × Obj)} {g : Obj → List (Addr × Obj) → List (Addr × Obj)} {xs : List Int} {many : Int} {t : Tok}

theorem t_draw0 
    (B : Below A₀ base outer h₀) (F : Fr h₀ L s.heap m) (X : (Mine.hd.heap_39 w.params).In h₀) (N : News h₀ L s.heap ((D, listOf its n) :: fz)) (T : Top p loose mean mg mb h₀) (hk : cs.kind = .function)
    (hi : IntsAre its.toList xs) (hne : ∀ q ∈ fz, q.1 ≠ D) (hm : 0 < many) (hlen : xs.length ≤ 1000) (hdp : dp < 900) (hun : un < 9000)
    (ret : ∀ u its' n' h' tk', Fr h₀ L h' m → News h₀ L h' ((D, listOf its' n') :: fz) → IntsAre its'.toList xs.tail → Q (.int (xs.headD 0 % many) u) { s with heap := h', toks := tk' }) :
    wpAny (model PySem.Challenge.rw_pq0274_01.row.prog w) (ktrTop dp un gd cn cs L a ccd cl outer) (call (.ref 50) [.ref D, .int many t]) Q E s := by
  w_top off; revert X; k_fill; intro X
  obtain ⟨its⟩ := its
  have hlen' := IntsAre.length hi
  simp only at hlen'
  refine wpAny_call ?_
  k_dflt ktr_enter
  k_steps
  · rename decide _ = true => hx
    rename Fr h₀ L _ m => kF
    rename News h₀ L _ _ => kN
    have hx := of_decide_eq_true hx
    subst hx
    refine q_int ?_ (ret _ _ _ _ _ kF (nsub kN (fun p hp => .tail _ hp)) hi)
    simp
  · rename decide _ = false => hx
    have hx := of_decide_eq_false hx
    cases hi with
    | nil => exact absurd rfl hx
    | cons x tx hr =>
      rename News _ _ _ ((_, _) :: _) => N'
      rename Fr _ _ _ (fun _ => _) => F'
      have hr' := IntsAre.length hr
      refine pop_first F' N' (by k_upd) ?_ ?_
      · simp only [List.length_cons] at hlen hlen' ⊢
        rw [sizeLine_eq]; omega
      clear F' N'
      intro h' F' N'
      k_steps
      rename Fr h₀ L _ m => kF
      rename News h₀ L _ _ => kN
      refine q_int ?_ (ret _ _ _ _ _ kF (nsub kN (fun p hp => .tail _ hp)) hr)
      exact (Int.fmod_eq_emod_of_nonneg _ (Int.le_of_lt hm)).symm

theorem t_draw
    (B : Below A₀ base outer h₀) (F : Fr h₀ L s.heap m) (X : (Mine.hd.heap_39 w.params).In h₀) (N : News h₀ L s.heap news) (T : Top p loose mean mg mb h₀) (hk : cs.kind = .function) (U : UpdI D (listOf its n) news g)
    (hi : IntsAre its.toList xs) (hm : 0 < many) (hlen : xs.length ≤ 1000) (hdp : dp < 900) (hun : un < 9000)
    (ret : ∀ u its' n' h' tk', Fr h₀ L h' m → News h₀ L h' (g (listOf its' n') []) → IntsAre its'.toList xs.tail → Q (.int (xs.headD 0 % many) u) { s with heap := h', toks := tk' }) :
    wpAny (model PySem.Challenge.rw_pq0274_01.row.prog w) (ktrTop dp un gd cn cs L a ccd cl outer) (call (.ref 50) [.ref D, .int many t]) Q E s := by
  obtain ⟨fz, h1, h2, h3, h4⟩ := U.norm
  exact t_draw0 B F X (nsub N h1) T hk hi h2 hm hlen hdp hun fun u its' n' h' tk' F' N' hi' => ret u its' n' h' tk' F' (nsub N' (h4 _ _)) hi'
end

theorem notin_blanks {prog : Program} {w : World} {A : Around} {E : Value → Shared → Prop} {s : Shared} {h₀ : Heap} {L : Addr} {m : Str → Option Value} {x : Int} {u : Tok} {Q : Value → Shared → Prop}
    (F : Fr h₀ L s.heap m) (X : (Mine.hd.heap_39 w.params).In h₀) (h : Q (.bool (!blank x)) s) : wpAny (model prog w) A (compareOp .NotIn (.int x u) (.ref 15)) Q E s := by
  have K := X.keeps F.keep
  revert K
  have : ∀ (_ : PySem.Challenge.rw_pq0274_01 = PySem.Challenge.rw_pq0274_01), (Mine.hd.heap_39 w.params).In s.heap → wpAny (model prog w) A (compareOp .NotIn (.int x u) (.ref 15)) Q E s := by
    k_fill
    intro _ K
    refine notin_tuple_ints (tupK K (by k_is)) (ns := [9, 10, 32]) ?_ (by rw [any_blank]; exact h)
    exact .cons _ _ (.cons _ _ (.cons _ _ .nil))
  exact this rfl
section
local macro_rules | `(tactic| walk_at "call ref") => `(tactic| ((with_reducible show wpAny _ _ (call (Value.ref 50) _) _ _ _); k_dflt (refine' t_draw ?B ?F ?X ?N ?T ?hk ?U ?hi ?hm ?hlen ?hdp ?hun ?_; (case B => k_asm); (case F => k_asm); (case X => k_asm); (case N => k_asm); (case T => k_asm); (case hk => first | exact rfl | assumption); (case U => ktr_unf); (case hi => k_asm); (case hm => decide); (case hlen => tb_start); (case hdp => tb_start); (case hun => tb_start)); intro u' its' n' h' tk' F' N' hi'; (try dsimp only [List.nil_append] at N'); (try k_sweep)))
local macro_rules | `(tactic| walk_at "subscriptTail") => `(tactic| (k_here; (with_reducible show wpAny _ _ (subscriptTail _ _ (Value.ref _) (Value.int (_ % _) _)) _ _ _); (with_unfolding_all refine' pickK ?k1 ?k3 ?k4 ?k5 ?_ ?k6; (case k1 => exact News.isList (by k_asm) (by ktr_rel)); (case k3 => exact Int.emod_nonneg _ (by decide)); (case k4 => (simp only [List.length_cons, List.length_nil]; omega)); (case k5 => omega); (case k6 => with_unfolding_all rfl)); (dsimp only [PickAt]); k_places; (all_goals (try k_fold))))
section
variable {w : World} {p : Program} {loose : List Str} {mean : ExcName → Option Value} {mg mb : Str → Option Value}
    {dp un : Nat} {gd : Option (List Code)} {cn : Str} {cs : Scope} {a : Addr} {ccd : Value} {cl : List (Str × Addr)} {outer : List Env} {A₀ : Around} {base h₀ : Heap} {L : Addr} {m : Str → Option Value} {s : Shared}
    {Q E : Value → Shared → Prop} {D n : Nat} {its : Array Value} {fz news : List (Addr × Obj)} {g : Obj → List (Addr × Obj) → List (Addr × Obj)} {xs : List Int} {many : Int} {t : Tok}

theorem t_word0 
    (B : Below A₀ base outer h₀) (F : Fr h₀ L s.heap m) (X : (Mine.hd.heap_39 w.params).In h₀) (N : News h₀ L s.heap ((D, listOf its n) :: fz)) (T : Top p loose mean mg mb h₀) (hk : cs.kind = .function)
    (hi : IntsAre its.toList xs) (hne : ∀ q ∈ fz, q.1 ≠ D) (hlen : xs.length ≤ 1000) (hdp : dp < 890) (hun : un < 8900)
    (ret : ∀ l vs its' n' h' tk', Fr h₀ L h' m → News h₀ L h' ((D, listOf its' n') :: ([(l, listOf vs.toArray 0)] ++ fz)) → (∀ p ∈ (D, listOf its n) :: fz, p.1 < l) → IntsAre its'.toList xs.tail → IntsAre vs (wordOf (xs.headD 0 % 4)) → Q (.ref l) { s with heap := h', toks := tk' }) :
    wpAny (model PySem.Challenge.rw_pq0274_01.row.prog w) (ktrTop dp un gd cn cs L a ccd cl outer) (call (.ref 57) [.ref D]) Q E s := by
  w_top off; revert X; k_fill; intro X
  refine wpAny_call ?_
  k_dflt ktr_enter
  k_steps
  all_goals (
    rename Fr h₀ L _ m => kF
    rename News h₀ L _ _ => kN
    rename _ % _ = _ => hP
    rename IntsAre _ xs.tail => hI
    (repeat (rename _ ∧ _ => hc9; obtain ⟨_, _⟩ := hc9))
    refine ret _ _ _ _ _ _ kF (nsub kN (sub3 (by ktr_rel) (by ktr_rel) (fun p hp => by ktr_rel))) (List.forall_mem_cons.mpr ⟨by assumption, allLt_all (by assumption)⟩) hI ?_
    rw [hP]
    repeat (first | exact IntsAre.nil | refine IntsAre.cons _ _ ?_))

theorem t_gap0 
    (B : Below A₀ base outer h₀) (F : Fr h₀ L s.heap m) (X : (Mine.hd.heap_39 w.params).In h₀) (N : News h₀ L s.heap ((D, listOf its n) :: fz)) (T : Top p loose mean mg mb h₀) (hk : cs.kind = .function)
    (hi : IntsAre its.toList xs) (hne : ∀ q ∈ fz, q.1 ≠ D) (hlen : xs.length ≤ 1000) (hdp : dp < 890) (hun : un < 8900)
    (ret : ∀ l vs its' n' h' tk', Fr h₀ L h' m → News h₀ L h' ((D, listOf its' n') :: ([(l, listOf vs.toArray 0)] ++ fz)) → (∀ p ∈ (D, listOf its n) :: fz, p.1 < l) → IntsAre its'.toList xs.tail → IntsAre vs (gapOf (xs.headD 0 % 5)) → Q (.ref l) { s with heap := h', toks := tk' }) :
    wpAny (model PySem.Challenge.rw_pq0274_01.row.prog w) (ktrTop dp un gd cn cs L a ccd cl outer) (call (.ref 64) [.ref D]) Q E s := by
  w_top off; revert X; k_fill; intro X
  refine wpAny_call ?_
  k_dflt ktr_enter
  k_steps
  all_goals (
    rename Fr h₀ L _ m => kF
    rename News h₀ L _ _ => kN
    rename _ % _ = _ => hP
    rename IntsAre _ xs.tail => hI
    (repeat (rename _ ∧ _ => hc9; obtain ⟨_, _⟩ := hc9))
    refine ret _ _ _ _ _ _ kF (nsub kN (sub3 (by ktr_rel) (by ktr_rel) (fun p hp => by ktr_rel))) (List.forall_mem_cons.mpr ⟨by assumption, allLt_all (by assumption)⟩) hI ?_
    rw [hP]
    repeat (first | exact IntsAre.nil | refine IntsAre.cons _ _ ?_))

theorem t_word
    (B : Below A₀ base outer h₀) (F : Fr h₀ L s.heap m) (X : (Mine.hd.heap_39 w.params).In h₀) (N : News h₀ L s.heap news) (T : Top p loose mean mg mb h₀) (hk : cs.kind = .function) (U : UpdI D (listOf its n) news g)
    (hi : IntsAre its.toList xs) (hlen : xs.length ≤ 1000) (hdp : dp < 890) (hun : un < 8900)
    (ret : ∀ l vs its' n' h' tk', Fr h₀ L h' m → News h₀ L h' (g (listOf its' n') [(l, listOf vs.toArray 0)]) → (∀ p ∈ news, p.1 < l) → IntsAre its'.toList xs.tail → IntsAre vs (wordOf (xs.headD 0 % 4)) → Q (.ref l) { s with heap := h', toks := tk' }) :
    wpAny (model PySem.Challenge.rw_pq0274_01.row.prog w) (ktrTop dp un gd cn cs L a ccd cl outer) (call (.ref 57) [.ref D]) Q E s := by
  obtain ⟨fz, h1, h2, h3, h4⟩ := U.norm
  exact t_word0 B F X (nsub N h1) T hk hi h2 hlen hdp hun fun l vs its' n' h' tk' F' N' hl hi' hv => ret l vs its' n' h' tk' F' (nsub N' (h4 _ _)) (fun p hp => hl p (h3 p hp)) hi' hv

theorem t_gap
    (B : Below A₀ base outer h₀) (F : Fr h₀ L s.heap m) (X : (Mine.hd.heap_39 w.params).In h₀) (N : News h₀ L s.heap news) (T : Top p loose mean mg mb h₀) (hk : cs.kind = .function) (U : UpdI D (listOf its n) news g)
    (hi : IntsAre its.toList xs) (hlen : xs.length ≤ 1000) (hdp : dp < 890) (hun : un < 8900)
    (ret : ∀ l vs its' n' h' tk', Fr h₀ L h' m → News h₀ L h' (g (listOf its' n') [(l, listOf vs.toArray 0)]) → (∀ p ∈ news, p.1 < l) → IntsAre its'.toList xs.tail → IntsAre vs (gapOf (xs.headD 0 % 5)) → Q (.ref l) { s with heap := h', toks := tk' }) :
    wpAny (model PySem.Challenge.rw_pq0274_01.row.prog w) (ktrTop dp un gd cn cs L a ccd cl outer) (call (.ref 64) [.ref D]) Q E s := by
  obtain ⟨fz, h1, h2, h3, h4⟩ := U.norm
  exact t_gap0 B F X (nsub N h1) T hk hi h2 hlen hdp hun fun l vs its' n' h' tk' F' N' hl hi' hv => ret l vs its' n' h' tk' F' (nsub N' (h4 _ _)) (fun p hp => hl p (h3 p hp)) hi' hv
end
end
section
local macro_rules | `(tactic| walk_at "compareOp NotIn int ref") => `(tactic| (k_here; refine' notin_blanks ?F ?X ?_; (case F => k_asm); (case X => k_asm)))
section
variable {w : World} {p : Program} {loose : List Str} {mean : ExcName → Option Value} {mg mb : Str → Option Value}
    {dp un : Nat} {gd : Option (List Code)} {cn : Str} {cs : Scope} {a : Addr} {ccd : Value} {cl : List (Str × Addr)} {outer : List Env} {A₀ : Around} {base h₀ : Heap} {L : Addr} {m : Str → Option Value} {s : Shared}
    {Q E : Value → Shared → Prop} {n : Nat} {news : List (Addr × Obj)} {xs : List Int}

def spJO (xs : List Int) (news : List (Addr × Obj)) (c fa : Addr) (n : Nat) (m₁ : Str → Option Value) (news₁ : List (Addr × Obj)) : Prop :=
  ∃ (i : Nat) (t : Tok) (fl : List Value) (k : Nat) (own : List (Addr × Obj)) (sp : List (Int × Int)), m₁ "codes" = some (.ref c) ∧ m₁ "found" = some (.ref fa) ∧ m₁ "at" = some (.int i t) ∧
    news₁ = (fa, listOf fl.toArray k) :: (own ++ news) ∧ DatAll own fl (sp.map d2) ∧ (∀ q ∈ own, fa < q.1) ∧ i ≤ xs.length ∧ fl.length ≤ i ∧ sp ++ scan i none (xs.drop i) = scan 0 none xs ∧ n = xs.length - i
def spJI (xs : List Int) (news : List (Addr × Obj)) (c fa : Addr) (sp : List (Int × Int)) (i₀ : Nat) (news₀ : List (Addr × Obj)) (n : Nat) (m₁ : Str → Option Value) (news₁ : List (Addr × Obj)) : Prop :=
  ∃ (i : Nat) (t tb : Tok), m₁ "codes" = some (.ref c) ∧ m₁ "found" = some (.ref fa) ∧ m₁ "at" = some (.int i t) ∧ m₁ "begin" = some (.int i₀ tb) ∧
    news₁ = news₀ ∧ i₀ ≤ i ∧ i ≤ xs.length ∧ sp ++ scan i (if i₀ < i then some (i₀ : Int) else none) (xs.drop i) = scan 0 none xs ∧ n = xs.length - i


theorem scan_close {j i : Int} : ∀ {ys : List Int}, (∀ y r, ys = y :: r → blank y = true) → scan j (some i) ys = (i, j) :: scan j none ys
  | [], _ => rfl
  | y :: r, h => by simp [scan, h y r rfl]
theorem spJO_app {g h : Heap} {L : Addr} {s₁ : Shared} {xs : List Int} {c fa D : Addr} {i j : Nat} {t t1 t2 : Tok} {tk : Nat} {fl : List Value} {k e : Nat} {own : List (Addr × Obj)} {sp : List (Int × Int)} {m' : Str → Option Value}
    (F : Fr g L h m') (N : News g L h ((D, ({ cls := .type "tuple", data := .seq #[.int i t1, .int j t2] e } : Obj)) :: (fa, listOf (fl.toArray.push (.ref D)) (k + 1)) :: (own ++ news)))
    (h1 : m' "codes" = some (.ref c)) (h2 : m' "found" = some (.ref fa)) (h3 : m' "at" = some (.int j t)) (hd : DatAll own fl (sp.map d2)) (ho : ∀ q ∈ own, fa < q.1) (hD : fa < D) (hij : i < j) (hjl : j ≤ xs.length) (hfl : fl.length ≤ i)
    (hs : sp ++ scan j (if i < j then some (i : Int) else none) (xs.drop j) = scan 0 none xs) (hb : ∀ y r, xs.drop j = y :: r → blank y = true) :
    WhileStep g L s₁ (spJO xs news c fa) (xs.length - i) .next { s₁ with heap := h, toks := tk } := by
  rw [listOf_push] at N
  rw [if_pos hij, scan_close hb] at hs
  refine WhileStep.intro (news₂ := (fa, listOf (fl ++ [Value.ref D]).toArray (k + 1)) :: (((D, ({ cls := .type "tuple", data := .seq #[.int i t1, .int j t2] e } : Obj)) :: own) ++ news)) (n' := xs.length - j) F (nsub N ?_) (by omega)
    ⟨j, t, fl ++ [Value.ref D], k + 1, _, sp ++ [((i : Int), (j : Int))], h1, h2, h3, rfl, ?_, ?_, hjl, ?_, ?_, rfl⟩
  · intro p hp
    rcases List.mem_cons.mp hp with rfl | hp
    · exact .tail _ (.head _)
    · rcases List.mem_cons.mp hp with rfl | hp
      · exact .head _
      · exact .tail _ (.tail _ hp)
  · rw [List.map_append]
    exact (hd.mono fun p hp => .tail _ hp).append (.one (.tuple (vs := [.int i t1, .int j t2]) (.head _) (.cons (.int _ _) (.cons (.int _ _) .nil))))
  · intro q hq
    rcases List.mem_cons.mp hq with rfl | hq
    · exact hD
    · exact ho q hq
  · simp only [List.length_append, List.length_cons, List.length_nil]; omega
  · rw [List.append_assoc]; exact hs

theorem t_spans 
    {v : Value} (B : Below A₀ base outer h₀) (F : Fr h₀ L s.heap m) (X : (Mine.hd.heap_39 w.params).In h₀) (N : News h₀ L s.heap news) (T : Top p loose mean mg mb h₀) (hk : cs.kind = .function)
    (hv : DatIn news v (dI xs)) (hlen : xs.length ≤ 1000) (hdp : dp < 890) (hun : un < 8900)
    (ret : ∀ u own h' tk', Fr h₀ L h' m → News h₀ L h' (own ++ news) → Abv own news → DatIn own u (.list ((scan 0 none xs).map d2)) → Q u { s with heap := h', toks := tk' }) :
    wpAny (model PySem.Challenge.rw_pq0274_01.row.prog w) (ktrTop dp un gd cn cs L a ccd cl outer) (call (.ref 22) [v]) Q E s := by
  w_top off; revert X; k_fill; intro X
  obtain ⟨c, vs, n, rfl, hc, hi⟩ := dI_out hv
  have hvl := IntsAre.length hi
  refine wpAny_call ?_
  k_dflt ktr_enter
  refine wpAny_noRaise ?_
  k_steps
  refine Hold.mk ?_
  rename News _ _ _ ((_, listOf #[] 0) :: _) => N1
  rename Fr _ _ _ (fun _ => _) => F1
  rename ∀ p ∈ news, p.1 < _ => hl1
  have hl1' : ∀ p ∈ news, p.1 ≠ _ := fun p hp => Nat.ne_of_lt (hl1 p hp)
  refine While_inv (spJO xs news c _) (n₀ := xs.length) F1 N1 ⟨0, _, [], 0, [], [], rfl, rfl, rfl, rfl, .nil, (fun _ h => nomatch h), Nat.zero_le _, Nat.zero_le _, rfl, rfl⟩ ?_
  clear F1 N1
  rintro n₁ m₁ news₁ h₁ tk₁ F₁ N₁ ⟨i, t, fl, k, own, sp, hm1, hm2, hm3, rfl, hd, ho, hil, hfl, hs, rfl⟩
  have F₂ := fr3 F₁ hm1 hm2 hm3
  have ho' : ∀ q ∈ own, q.1 ≠ _ := fun q hq => Nat.ne_of_gt (ho q hq)
  clear F₁ hm1 hm2 hm3
  k_steps
  · refine Hold.mk ?_
    rename (i : Int) < xs.length => hlt
    rename Fr _ _ _ (fun _ => _) => F3
    rename News _ _ _ ((_, listOf fl.toArray k) :: _) => N3
    refine While_inv (spJI xs news c _ sp i _) (n₀ := xs.length - i) F3 N3 ⟨i, _, _, rfl, rfl, rfl, rfl, rfl, Nat.le_refl _, hil, by simpa using hs, rfl⟩ ?_
    clear F3 N3
    rintro n₂ m₂ news₂ h₂ tk₂ F₄ N₄ ⟨j, tj, tb, g1, g2, g3, g4, rfl, hij, hjl, hsj, rfl⟩
    have F5 := fr4 F₄ g1 g2 g3 g4
    clear F₄ g1 g2 g3 g4
    k_steps
    · rename News _ _ _ _ => N9
      rename Fr _ _ _ (fun _ => _) => F9
      rename (i : Int) < (j : Int) => hij9
      rename (j : Int) < xs.length => hj9
      rename blank _ = true => hb9
      (repeat (rename _ ∧ _ => hc9; obtain ⟨_, _⟩ := hc9))
      refine spJO_app F9 N9 rfl rfl rfl hd ho (by assumption) (by omega) hjl hfl hsj ?_
      intro y r e
      rw [drop_getD xs j (by omega)] at e
      obtain ⟨rfl, _⟩ := List.cons.inj e
      simpa using hb9
    · rename News _ _ _ _ => N9
      rename Fr _ _ _ (fun _ => _) => F9
      rename ¬ (i : Int) < (j : Int) => hij9
      rename (j : Int) < xs.length => hj9
      rename blank _ = true => hb9
      have hij' : i = j := by omega
      subst hij'
      refine WhileStep.intro (n' := xs.length - (i + 1)) F9 N9 (by omega) ⟨i + 1, _, fl, k, own, sp, rfl, rfl, rfl, rfl, hd, ho, by omega, by omega, ?_, rfl⟩
      rw [← hs, drop_getD xs i (by omega)]
      have hb : blank (xs.getD i 0) = true := by simpa using hb9
      simp only [scan, hb, if_true]
      rfl
    · rename News _ _ _ _ => N9
      rename Fr _ _ _ (fun _ => _) => F9
      rename (j : Int) < xs.length => hj9
      rename blank _ = false => hb9
      refine WhileStep.intro (n' := xs.length - (j + 1)) F9 N9 (by omega) ⟨j + 1, _, _, rfl, rfl, rfl, rfl, rfl, by omega, by omega, ?_, rfl⟩
      rw [← hsj, drop_getD xs j (by omega)]
      have hb : blank (xs.getD j 0) = false := by simpa using hb9
      rw [if_pos (by omega : i < j + 1)]
      by_cases hij9 : i < j
      · rw [if_pos hij9]
        simp only [scan, hb]
        rfl
      · have : i = j := by omega
        subst this
        rw [if_neg hij9]
        simp only [scan, hb]
        rfl
    · rename News _ _ _ _ => N9
      rename Fr _ _ _ (fun _ => _) => F9
      rename ¬ (j : Int) < xs.length => hj9
      (repeat (rename _ ∧ _ => hc9; obtain ⟨_, _⟩ := hc9))
      refine spJO_app F9 N9 rfl rfl rfl hd ho (by assumption) (by omega) hjl hfl hsj ?_
      intro y r e
      rw [List.drop_eq_nil_of_le (by omega)] at e
      cases e
  · rename ¬ (i : Int) < xs.length => hge
    rename Fr h₀ L _ m => kF
    rename News h₀ L _ _ => kN
    have hie : i = xs.length := by omega
    subst hie
    have hs' : sp = scan 0 none xs := by simpa [scan] using hs
    rw [← hs'] at ret
    exact ret _ ((_, listOf fl.toArray k) :: own) _ _ kF kN (List.forall_mem_cons.mpr ⟨hl1, fun q hq p hp => Nat.lt_trans (hl1 p hp) (ho q hq)⟩) (.list (.head _) (hd.mono fun p hp => .tail _ hp))
end
theorem min_cut {n A B : Nat} (h : A + B ≤ n) : min ((n : Int) - (B : Int)).toNat n - (A : Int).toNat = n - B - A := by omega
section
variable {w : World} {p : Program} {loose : List Str} {mean : ExcName → Option Value} {mg mb : Str → Option Value}
    {dp un : Nat} {gd : Option (List Code)} {cn : Str} {cs : Scope} {a : Addr} {ccd : Value} {cl : List (Str × Addr)} {outer : List Env} {A₀ : Around} {base h₀ : Heap} {L : Addr} {m : Str → Option Value} {s : Shared}
    {Q E : Value → Shared → Prop} {n : Nat} {news : List (Addr × Obj)} {xs ys : List Int}

/-- what narrowed finds: so many signs alike ahead, so many behind -/
structure Narrow (xs ys : List Int) (i j A B : Nat) : Prop where
  lo : i + A + B ≤ j
  hi : A + B ≤ ys.length
  ahead : ∀ k, k < A → xs.getD (i + k) 0 = ys.getD k 0
  behind : ∀ k, k < B → xs.getD (j - k - 1) 0 = ys.getD (ys.length - k - 1) 0
  stop1 : i + A = j ∨ A = ys.length ∨ xs.getD (i + A) 0 ≠ ys.getD A 0
  stop2 : i + A + B = j ∨ A + B = ys.length ∨ xs.getD (j - B - 1) 0 ≠ ys.getD (ys.length - B - 1) 0

def naJ (xs ys : List Int) (i j : Nat) (vs ve vo vc : Value) (news : List (Addr × Obj)) (n : Nat) (m₁ : Str → Option Value) (news₁ : List (Addr × Obj)) : Prop :=
  ∃ (A : Nat) (t : Tok), m₁ "start" = some vs ∧ m₁ "end" = some ve ∧ m₁ "old" = some vo ∧ m₁ "codes" = some vc ∧ m₁ "ahead" = some (.int A t) ∧ news₁ = news ∧ 
    i + A ≤ j ∧ A ≤ ys.length ∧ (∀ k, k < A → xs.getD (i + k) 0 = ys.getD k 0) ∧ n = j - (i + A)
def naX (xs ys : List Int) (i j : Nat) (vs ve vo vc : Value) (news : List (Addr × Obj)) (m₁ : Str → Option Value) (news₁ : List (Addr × Obj)) : Prop :=
  ∃ (A : Nat) (t : Tok), m₁ "start" = some vs ∧ m₁ "end" = some ve ∧ m₁ "old" = some vo ∧ m₁ "codes" = some vc ∧ m₁ "ahead" = some (.int A t) ∧ news₁ = news ∧ 
    i + A ≤ j ∧ A ≤ ys.length ∧ (∀ k, k < A → xs.getD (i + k) 0 = ys.getD k 0) ∧ (i + A = j ∨ A = ys.length ∨ xs.getD (i + A) 0 ≠ ys.getD A 0)
def naJ2 (xs ys : List Int) (i j A : Nat) (vs ve vo vc va : Value) (news : List (Addr × Obj)) (n : Nat) (m₁ : Str → Option Value) (news₁ : List (Addr × Obj)) : Prop :=
  ∃ (B : Nat) (t : Tok), m₁ "start" = some vs ∧ m₁ "end" = some ve ∧ m₁ "old" = some vo ∧ m₁ "codes" = some vc ∧ m₁ "ahead" = some va ∧ m₁ "behind" = some (.int B t) ∧ news₁ = news ∧ 
    i + A + B ≤ j ∧ A + B ≤ ys.length ∧ (∀ k, k < B → xs.getD (j - k - 1) 0 = ys.getD (ys.length - k - 1) 0) ∧ n = j - (i + A + B)
def naX2 (xs ys : List Int) (i j A : Nat) (vs ve vo vc va : Value) (news : List (Addr × Obj)) (m₁ : Str → Option Value) (news₁ : List (Addr × Obj)) : Prop :=
  ∃ (B : Nat) (t : Tok), m₁ "start" = some vs ∧ m₁ "end" = some ve ∧ m₁ "old" = some vo ∧ m₁ "codes" = some vc ∧ m₁ "ahead" = some va ∧ m₁ "behind" = some (.int B t) ∧ news₁ = news ∧ Narrow xs ys i j A B

theorem t_narrow 
    {vo vc : Value} {i j : Nat} {ti tj : Tok} (B : Below A₀ base outer h₀) (F : Fr h₀ L s.heap m) (X : (Mine.hd.heap_39 w.params).In h₀) (N : News h₀ L s.heap news) (T : Top p loose mean mg mb h₀) (hk : cs.kind = .function)
    (hvo : DatIn news vo (dI xs)) (hvc : DatIn news vc (dI ys)) (hlx : xs.length ≤ 1000) (hly : ys.length ≤ 1000) (hij : i ≤ j) (hj : j ≤ xs.length) (hdp : dp < 890) (hun : un < 8900)
    (ret : ∀ A B u own h' tk', Fr h₀ L h' m → News h₀ L h' (own ++ news) → Abv own news → Narrow xs ys i j A B → DatIn own u (.tuple [.int ((i : Int) + A), .int ((j : Int) - B), dI ((ys.drop A).take (ys.length - B - A))]) → Q u { s with heap := h', toks := tk' }) :
    wpAny (model PySem.Challenge.rw_pq0274_01.row.prog w) (ktrTop dp un gd cn cs L a ccd cl outer) (call (.ref 36) [.int i ti, .int j tj, vo, vc]) Q E s := by
  w_top off; revert X; k_fill; intro X
  obtain ⟨o, os, no, rfl, ho, hio⟩ := dI_out hvo
  obtain ⟨c, vs, nc, rfl, hc, hic⟩ := dI_out hvc
  have hol := IntsAre.length hio
  have hcl := IntsAre.length hic
  refine wpAny_call ?_
  k_dflt ktr_enter
  refine wpAny_noRaise ?_
  k_steps
  refine Hold.mk ?_
  rename News _ _ _ news => N1
  rename Fr _ _ _ (fun _ => _) => F1
  refine while_mid (naJ xs ys i j (.int i ti) (.int j tj) (.ref o) (.ref c) news) (naX xs ys i j (.int i ti) (.int j tj) (.ref o) (.ref c) news) (n₀ := j - i) F1 N1 ⟨0, _, rfl, rfl, rfl, rfl, rfl, rfl, by omega, by omega, (fun _ h => by omega), rfl⟩ ?_ ?_
  · clear F1 N1
    rintro n₁ m₁ news₁ h₁ tk₁ F₁ N₁ ⟨A, t, hm1, hm2, hm3, hm4, hm5, rfl, h1, h2, h3, rfl⟩
    have F₂ := fr5 F₁ hm1 hm2 hm3 hm4 hm5
    clear F₁ hm1 hm2 hm3 hm4 hm5
    k_steps
    · rename News _ _ _ news₁ => N9
      rename Fr _ _ _ (fun _ => _) => F9
      rename xs.getD _ 0 = _ => he
      refine WhileStep.intro (n' := j - (i + (A + 1))) F9 N9 (by omega) ⟨A + 1, _, rfl, rfl, rfl, rfl, rfl, rfl, by omega, by omega, ?_, rfl⟩
      intro k hk
      by_cases hkA : k < A
      · exact h3 k hkA
      · have e1 : k = A := by omega
        subst e1
        have e2 : ((i : Int) + (k : Int)).toNat = i + k := by omega
        rw [e2, Int.toNat_natCast] at he
        exact he
    · rename xs.getD _ 0 ≠ _ => he
      refine MidE.intro F₂ N₁ ⟨A, _, rfl, rfl, rfl, rfl, rfl, rfl, h1, h2, h3, .inr (.inr ?_)⟩
      have e2 : ((i : Int) + (A : Int)).toNat = i + A := by omega
      rw [e2, Int.toNat_natCast] at he
      exact he
    · exact MidE.intro F₂ N₁ ⟨A, _, rfl, rfl, rfl, rfl, rfl, rfl, h1, h2, h3, .inr (.inl (by omega))⟩
    · exact MidE.intro F₂ N₁ ⟨A, _, rfl, rfl, rfl, rfl, rfl, rfl, h1, h2, h3, .inl (by omega)⟩
  · clear F1 N1
    rintro m₁ news₁ h₁ tk₁ F₁ N₁ ⟨A, t, hm1, hm2, hm3, hm4, hm5, rfl, h1, h2, h3, h4⟩
    have F₂ := fr5 F₁ hm1 hm2 hm3 hm4 hm5
    clear F₁ hm1 hm2 hm3 hm4 hm5
    k_steps
    refine Hold.mk ?_
    rename News _ _ _ news₁ => N1
    rename Fr _ _ _ (fun _ => _) => F1
    refine while_mid (naJ2 xs ys i j A (.int i ti) (.int j tj) (.ref o) (.ref c) (.int A t) news₁) (naX2 xs ys i j A (.int i ti) (.int j tj) (.ref o) (.ref c) (.int A t) news₁) (n₀ := j - (i + A)) F1 N1 ⟨0, _, rfl, rfl, rfl, rfl, rfl, rfl, rfl, by omega, by omega, (fun _ h => by omega), rfl⟩ ?_ ?_
    · clear F1 N1
      rintro n₁ m₁ news₁ h₁ tk₁ F₁ N₁ ⟨B, tb, hm1, hm2, hm3, hm4, hm5, hm6, rfl, g1, g2, g3, rfl⟩
      have F₂ := fr6 F₁ hm1 hm2 hm3 hm4 hm5 hm6
      clear F₁ hm1 hm2 hm3 hm4 hm5 hm6
      k_steps
      · rename News _ _ _ news₁ => N9
        rename Fr _ _ _ (fun _ => _) => F9
        rename xs.getD _ 0 = _ => he
        refine WhileStep.intro (n' := j - (i + A + (B + 1))) F9 N9 (by omega) ⟨B + 1, _, rfl, rfl, rfl, rfl, rfl, rfl, rfl, by omega, by omega, ?_, rfl⟩
        intro k hk
        by_cases hkA : k < B
        · exact g3 k hkA
        · have e1 : k = B := by omega
          subst e1
          have e2 : ((j : Int) - (k : Int) - 1).toNat = j - k - 1 := by omega
          have e3 : ((ys.length : Int) - (k : Int) - 1).toNat = ys.length - k - 1 := by omega
          rw [e2, e3] at he
          exact he
      · rename xs.getD _ 0 ≠ _ => he
        refine MidE.intro F₂ N₁ ⟨B, _, rfl, rfl, rfl, rfl, rfl, rfl, rfl, g1, g2, h3, g3, h4, .inr (.inr ?_)⟩
        have e2 : ((j : Int) - (B : Int) - 1).toNat = j - B - 1 := by omega
        have e3 : ((ys.length : Int) - (B : Int) - 1).toNat = ys.length - B - 1 := by omega
        rw [e2, e3] at he
        exact he
      · exact MidE.intro F₂ N₁ ⟨B, _, rfl, rfl, rfl, rfl, rfl, rfl, rfl, g1, g2, h3, g3, h4, .inr (.inl (by omega))⟩
      · exact MidE.intro F₂ N₁ ⟨B, _, rfl, rfl, rfl, rfl, rfl, rfl, rfl, g1, g2, h3, g3, h4, .inl (by omega)⟩
    · clear F1 N1
      rintro m₁ news₁ h₁ tk₁ F₁ N₁ ⟨B, tb, hm1, hm2, hm3, hm4, hm5, hm6, rfl, hN⟩
      have F₂ := fr6 F₁ hm1 hm2 hm3 hm4 hm5 hm6
      clear F₁ hm1 hm2 hm3 hm4 hm5 hm6
      have hhi := hN.hi
      have hlo := hN.lo
      k_steps
      rename Fr h₀ L _ m => kF
      rename News h₀ L _ _ => kN
      rename IntsAre _ (List.take _ _) => hI
      (repeat (rename _ ∧ _ => hc9; obtain ⟨_, _⟩ := hc9))
      rw [min_cut hhi, Int.toNat_natCast] at hI
      refine ret A B _ [_, _] _ _ kF kN ?_ hN (.tuple (vs := [_, _, _]) (.head _) (.cons (.int _ _) (.cons (.int _ _) (.cons (dI_in (.tail _ (.head _)) hI) .nil))))
      refine List.forall_mem_cons.mpr ⟨?_, List.forall_mem_cons.mpr ⟨?_, fun _ h => nomatch h⟩⟩
      · exact allLt_all (by assumption)
      · first | assumption | exact allLt_all (by assumption)
end
end
theorem scan_bounds_aux : ∀ (ys : List Int) (i : Int) (st : Option Int), 0 ≤ i → (∀ b, st = some b → 0 ≤ b ∧ b < i) → ∀ p ∈ scan i st ys, 0 ≤ p.1 ∧ p.1 < p.2 ∧ p.2 ≤ i + ys.length := by
  intro ys
  induction ys with
  | nil =>
    intro i st hi hs p hp
    cases st with
    | none => simp [scan] at hp
    | some b =>
      simp only [scan, List.mem_singleton] at hp
      subst hp
      have := hs b rfl
      simp only [List.length_nil]
      omega
  | cons y ys ih =>
    intro i st hi hs p hp
    simp only [List.length_cons]
    cases st with
    | none =>
      rw [scan] at hp
      split at hp
      · have := ih (i + 1) none (by omega) (fun b e => by cases e) p hp
        omega
      · have := ih (i + 1) (some i) (by omega) (fun b e => by cases e; omega) p hp
        omega
    | some b =>
      have hb := hs b rfl
      rw [scan] at hp
      split at hp
      · rcases List.mem_cons.mp hp with rfl | hp
        · simp only; omega
        · have := ih (i + 1) none (by omega) (fun b e => by cases e) p hp
          omega
      · have := ih (i + 1) (some b) (by omega) (fun b e => by cases e; omega) p hp
        omega
theorem scan_bounds (ys : List Int) : ∀ p ∈ scan 0 none ys, 0 ≤ p.1 ∧ p.1 < p.2 ∧ p.2 ≤ ys.length := fun p hp => by
  have := scan_bounds_aux ys 0 none (by omega) (fun b e => by cases e) p hp
  omega
theorem scan_length_aux : ∀ (ys : List Int) (i : Int) (st : Option Int), (scan i st ys).length ≤ ys.length + (if st.isSome then 1 else 0) := by
  intro ys
  induction ys with
  | nil => intro i st; cases st <;> simp [scan]
  | cons y ys ih =>
    intro i st
    cases st with
    | none =>
      rw [scan]
      split
      · have := ih (i + 1) none; simp at this ⊢; omega
      · have := ih (i + 1) (some i); simp at this ⊢; omega
    | some b =>
      rw [scan]
      split
      · have := ih (i + 1) none; simp at this ⊢; omega
      · have := ih (i + 1) (some b); simp at this ⊢; omega
theorem scan_length (ys : List Int) : (scan 0 none ys).length ≤ ys.length := by simpa using scan_length_aux ys 0 none
theorem getD_mem {α : Type} {l : List α} {i : Nat} {d : α} (h : i < l.length) : l.getD i d ∈ l := by
  rw [List.getD_eq_getElem?_getD, List.getElem?_eq_getElem h]; exact List.getElem_mem h
theorem drop_getD' {α : Type} (xs : List α) (j : Nat) (d : α) (h : j < xs.length) : xs.drop j = xs.getD j d :: xs.drop (j + 1) := by
  rw [List.drop_eq_getElem_cons h]; simp [h]
theorem ne_of_abv {fa : Addr} {own : List (Addr × Obj)} (h : ∀ q ∈ own, fa < q.1) : ∀ q ∈ own, q.1 ≠ fa := fun q hq => Nat.ne_of_gt (h q hq)
theorem item_pair {prog : Program} {w : World} {A : Around} {E : Value → Shared → Prop} {s : Shared} {h₀ : Heap} {L l n : Nat} {news nw : List (Addr × Obj)} {vs : List Value} {sps : List (Int × Int)} {value slice : PySem.Expr} {k : Int} {u : Tok} {Q : Value → Shared → Prop}
    (N : News h₀ L s.heap news) (hm : (l, listOf vs.toArray n) ∈ news) (hd : DatAll nw vs (sps.map d2)) {M : Int} (hb : ∀ p ∈ sps, 0 ≤ p.1 ∧ p.1 < p.2 ∧ p.2 ≤ M) (h0 : 0 ≤ k) (h1 : k < sps.length) (hfit : k < 2 ^ 63)
    (h : ∀ T t1 t2 e b c, sps.getD k.toNat (0, 0) = (b, c) → 0 ≤ b ∧ b < c ∧ c ≤ M → vs[k.toNat]? = some (.ref T) → (T, tupOf [.int b t1, .int c t2] e) ∈ nw → Q (.ref T) s)
    (hs : subscripted slice false (.ref l) (.int k u) = operate [.ref l, .int k u] (getItem (.ref l) (.int k u)) := by with_unfolding_all rfl) :
    wpAny (model prog w) A (subscriptTail value slice (.ref l) (.int k u)) Q E s := by
  have hl : s.heap.IsList l vs.toArray := News.isList N hm
  have hlen := hd.length
  rw [List.length_map] at hlen
  have hv : vs[k.toNat]? = some (vs[k.toNat]'(by omega)) := List.getElem?_eq_getElem _
  obtain ⟨hk, hp⟩ := d2_get hd hv
  obtain ⟨T, t1, t2, e, ev, hT⟩ := d2_out hp
  rw [ev] at hv
  exact tail_any hl.typeIs slot_list_getitem.lookup (wpAny_getItem_list hl h0 hfit (x := .ref T) (by simpa using hv) (h T t1 t2 e _ _ rfl (hb _ (getD_mem hk)) hv hT)) hs

theorem len_ref {prog : Program} {w : World} {A : Around} {E : Value → Shared → Prop} {s : Shared} {h₀ : Heap} {L l n : Nat} {news : List (Addr × Obj)} {vs : List Value} {c : Nat} {Q : Value → Shared → Prop}
    (N : News h₀ L s.heap news) (hm : (l, listOf vs.toArray n) ∈ news) (hc : vs.length = c) (hb : c < 2 ^ 62)
    (h : ∀ t tk, Q (.int c t) { s with toks := tk }) : wpAny (model prog w) A (call (.builtin "len") [.ref l]) Q E s := by
  subst hc
  refine len_list (News.isList N hm) (by simp only [List.size_toArray]; omega) ?_
  simp only [List.size_toArray]
  exact h _ _
abbrev kwP (xs ys : List Int) (sps : List (Int × Int)) (p : Int × Int) : Nat → Bool := fun k => decide (cut xs (sps.getD k (0, 0)).1 (sps.getD k (0, 0)).2 = cut ys p.1 p.2)
theorem kw_test {xs ys : List Int} {sps : List (Int × Int)} {b e b1 c1 b2 c2 : Int} {j : Nat} (h1 : sps.getD (j : Int).toNat (0, 0) = (b1, c1)) (h2 : sps.getD (j : Int).toNat (0, 0) = (b2, c2)) :
    kwP xs ys sps (b, e) j = decide ((xs.drop b1.toNat).take (min c2.toNat xs.length - b1.toNat) = (ys.drop b.toNat).take (min e.toNat ys.length - b.toNat)) := by
  rw [Int.toNat_natCast] at h1 h2
  have e1 := congrArg Prod.fst h1
  have e2 := congrArg Prod.snd h2
  simp only at e1 e2
  simp only [kwP, cut, e1, e2]
theorem findF_hit {P : Nat → Bool} {f j : Nat} (h : P j = true) : findF P f j = j := by
  cases f with
  | zero => rfl
  | succ f => simp [findF, h]
theorem findF_miss {P : Nat → Bool} {f j : Nat} (hf : 0 < f) (h : P j = false) : findF P f j = findF P (f - 1) (j + 1) := by
  cases f with
  | zero => omega
  | succ f => simp [findF, h]
theorem findF_zero {P : Nat → Bool} {f j : Nat} (hf : f = 0) : findF P f j = j := by subst hf; rfl
theorem keepF_hit {xs ys : List Int} {sps r : List (Int × Int)} {p : Int × Int} {k j : Nat} (hj : j = findF (kwP xs ys sps p) (min sps.length (k + 4) - k) k) (hlt : j < min sps.length (k + 4)) :
    keepF xs ys sps k (p :: r) = (sps.getD j (0, 0), p) :: keepF xs ys sps (j + 1) r := by
  subst hj
  rw [keepF]
  exact if_pos hlt
theorem keepF_miss {xs ys : List Int} {sps r : List (Int × Int)} {p : Int × Int} {k j : Nat} (hj : j = findF (kwP xs ys sps p) (min sps.length (k + 4) - k) k) (hlt : ¬ j < min sps.length (k + 4)) :
    keepF xs ys sps k (p :: r) = keepF xs ys sps k r := by
  subst hj
  rw [keepF]
  exact if_neg hlt
section
local macro_rules | `(tactic| walk_at "call ref") => `(tactic| ((with_reducible show wpAny _ _ (call (Value.ref 22) _) _ _ _); k_dflt (refine' t_spans ?B ?F ?X ?N ?T ?hk ?hv ?hlen ?hdp ?hun ?_; (case B => k_asm); (case F => k_asm); (case X => k_asm); (case N => k_asm); (case T => k_asm); (case hk => first | exact rfl | assumption); (case hv => (refine' datMono ?hd ?hs; (case hd => k_asm); (case hs => (intro p hp; ktr_rel)))); (case hlen => tb_start); (case hdp => tb_start); (case hun => tb_start)); (intro u' own' h' tk' F' N' ab' dt'; obtain ⟨l', vs', n', e', hm', hd'⟩ := dL_out dt'; subst e'; clear dt'); (try k_sweep)))
local macro_rules | `(tactic| walk_at "subscriptTail") => `(tactic| (k_here; (with_reducible show wpAny _ _ (subscriptTail _ _ (Value.ref _) (Value.int _ _)) _ _ _); (with_unfolding_all refine' item_pair ?N ?m ?d ?hb ?h0 ?h1 ?hf ?_ ?s; (case N => k_asm); (case m => ktr_rel); (case d => k_asm); (case hb => k_asm); (case h0 => omega); (case h1 => omega); (case hf => omega); (case s => with_unfolding_all rfl)); intro T' t1' t2' e' b' c' hbc' hT' hm'))
local macro_rules | `(tactic| walk_at "subscriptTail") => `(tactic| (k_here; (with_reducible show wpAny _ _ (subscriptTail _ (Expr.Constant _ _ _) (Value.ref _) (Value.int _ _)) _ _ _); (with_unfolding_all refine' item_tupleT ?t ?a ?b ?i ?x ?_ ?s; (case t => exact News.isTup (by k_asm) (by ktr_rel)); (case a => decide); (case b => decide); (case i => rfl); (case x => rfl); (case s => with_unfolding_all rfl))))
local macro_rules | `(tactic| walk_at "call builtin:len") => `(tactic| (k_here; (with_reducible show wpAny _ _ (call (Value.builtin "len") [Value.ref _]) _ _ _); (refine' len_ref ?N ?m ?c ?b ?_; (case N => k_asm); (case m => ktr_rel); (case c => with_reducible assumption); (case b => omega)); intro t' tk'))
theorem kt_step {n k j : Nat} (h1 : k ≤ n) (h2 : k ≤ j) (h4 : (j : Int) < if (k : Int) + 4 < (n : Int) then (k : Int) + 4 else (n : Int)) :
    min n (k + 4) - (j + 1) < min n (k + 4) - j ∧ j + 1 ≤ min n (k + 4) ∧ 0 < min n (k + 4) - j := by
  have h : j < min n (k + 4) := by
    split at h4 <;> omega
  clear h4
  omega
section
variable {w : World} {p : Program} {loose : List Str} {mean : ExcName → Option Value} {mg mb : Str → Option Value}
    {dp un : Nat} {gd : Option (List Code)} {cn : Str} {cs : Scope} {a : Addr} {ccd : Value} {cl : List (Str × Addr)} {outer : List Env} {A₀ : Around} {base h₀ : Heap} {L : Addr} {m : Str → Option Value} {s : Shared}
    {Q E : Value → Shared → Prop} {n : Nat} {news : List (Addr × Obj)} {xs ys : List Int}

def kwJ (xs ys : List Int) (o c fa sl : Addr) (own2 own1 news : List (Addr × Obj)) (i : Nat) (m₁ : Str → Option Value) (n₁ : List (Addr × Obj)) : Prop :=
  ∃ (k : Nat) (tk : Tok) (fl : List Value) (e : Nat) (own : List (Addr × Obj)) (kp : List ((Int × Int) × (Int × Int))),
    m₁ "old" = some (.ref o) ∧ m₁ "new" = some (.ref c) ∧ m₁ "found" = some (.ref fa) ∧ m₁ "spans" = some (.ref sl) ∧ m₁ "at" = some (.int k tk) ∧
    n₁ = (fa, listOf fl.toArray e) :: (own ++ (own2 ++ (own1 ++ news))) ∧ DatAll (own ++ (own2 ++ own1)) fl (kp.map d4) ∧ (∀ q ∈ own, fa < q.1) ∧ fl.length ≤ i ∧ k ≤ (scan 0 none xs).length ∧
    kp ++ keepF xs ys (scan 0 none xs) k ((scan 0 none ys).drop i) = keepF xs ys (scan 0 none xs) 0 (scan 0 none ys)
def kwW (xs ys : List Int) (o c fa sl : Addr) (va vb ve : Value) (p : Int × Int) (k : Nat) (n₀ : List (Addr × Obj)) (n : Nat) (m₁ : Str → Option Value) (n₁ : List (Addr × Obj)) : Prop :=
  ∃ (j : Nat) (tj : Tok), m₁ "old" = some (.ref o) ∧ m₁ "new" = some (.ref c) ∧ m₁ "found" = some (.ref fa) ∧ m₁ "spans" = some (.ref sl) ∧ m₁ "at" = some va ∧ m₁ "begin" = some vb ∧ m₁ "end" = some ve ∧ m₁ "place" = some (.int j tj) ∧
    n₁ = n₀ ∧ k ≤ j ∧ j ≤ min (scan 0 none xs).length (k + 4) ∧ n = min (scan 0 none xs).length (k + 4) - j ∧
    findF (kwP xs ys (scan 0 none xs) p) (min (scan 0 none xs).length (k + 4) - j) j = findF (kwP xs ys (scan 0 none xs) p) (min (scan 0 none xs).length (k + 4) - k) k
def kwX (xs ys : List Int) (o c fa sl : Addr) (va vb ve : Value) (p : Int × Int) (k : Nat) (n₀ : List (Addr × Obj)) (m₁ : Str → Option Value) (n₁ : List (Addr × Obj)) : Prop :=
  ∃ (j : Nat) (tj : Tok), m₁ "old" = some (.ref o) ∧ m₁ "new" = some (.ref c) ∧ m₁ "found" = some (.ref fa) ∧ m₁ "spans" = some (.ref sl) ∧ m₁ "at" = some va ∧ m₁ "begin" = some vb ∧ m₁ "end" = some ve ∧ m₁ "place" = some (.int j tj) ∧
    n₁ = n₀ ∧ j ≤ min (scan 0 none xs).length (k + 4) ∧ j = findF (kwP xs ys (scan 0 none xs) p) (min (scan 0 none xs).length (k + 4) - k) k

theorem kw_app {g h : Heap} {L' : Addr} {s₁ : Shared} {o c fa sl I D1 D2 T : Addr} {oI : Obj} {own2 own1 own : List (Addr × Obj)} {i k j ek e1 z1 z2 : Nat} {tp t1 t2 t3 t4 : Tok} {tk : Nat} {fl : List Value} {kp : List ((Int × Int) × (Int × Int))} {m' : Str → Option Value} {b e b1 c1 : Int} {Q : Flow → Shared → Prop}
    (F : Fr g L' h m') (N : News g L' h ((D2, tupOf [.ref T, .ref D1] z2) :: (D1, tupOf [.int b t1, .int e t2] z1) :: (I, oI) :: (fa, listOf (fl.toArray.push (.ref D2)) (ek + 1)) :: (own ++ (own2 ++ (own1 ++ news)))))
    (g1 : m' "old" = some (.ref o)) (g2 : m' "new" = some (.ref c)) (g3 : m' "found" = some (.ref fa)) (g4 : m' "spans" = some (.ref sl)) (g5 : m' "at" = some (.int ((j + 1 : Nat) : Int) tp))
    (hT : (T, tupOf [.int b1 t3, .int c1 t4] e1) ∈ own1) (hbc : (scan 0 none xs).getD (j : Int).toNat (0, 0) = (b1, c1)) (hd : DatAll (own ++ (own2 ++ own1)) fl (kp.map d4)) (ho : ∀ q ∈ own, fa < q.1)
    (h1 : fa < D1) (h2 : fa < D2) (h3 : I < D1) (h4 : I < D2) (hne : ∀ p ∈ (fa, listOf fl.toArray ek) :: (own ++ (own2 ++ (own1 ++ news))), p.1 ≠ I) (hfl : fl.length ≤ i)
    (hlt : j < min (scan 0 none xs).length (k + 4)) (hj : j = findF (kwP xs ys (scan 0 none xs) (b, e)) (min (scan 0 none xs).length (k + 4) - k) k)
    (hdr : (scan 0 none ys).drop i = (b, e) :: (scan 0 none ys).drop (i + 1)) (hkp : kp ++ keepF xs ys (scan 0 none xs) k ((scan 0 none ys).drop i) = keepF xs ys (scan 0 none xs) 0 (scan 0 none ys)) :
    ForE g L' s₁ (I, oI) (kwJ xs ys o c fa sl own2 own1 news (i + 1)) Q .next { s₁ with heap := h, toks := tk } := by
  rw [listOf_push] at N
  rw [hdr, keepF_hit hj hlt] at hkp
  rw [Int.toNat_natCast] at hbc
  rw [hbc] at hkp
  refine ForE.intro (news' := (fa, listOf (fl ++ [Value.ref D2]).toArray (ek + 1)) :: (((D2, tupOf [.ref T, .ref D1] z2) :: (D1, tupOf [.int b t1, .int e t2] z1) :: own) ++ (own2 ++ (own1 ++ news)))) F (nsub N ?_) ?_
    ⟨j + 1, tp, fl ++ [Value.ref D2], ek + 1, (D2, tupOf [.ref T, .ref D1] z2) :: (D1, tupOf [.int b t1, .int e t2] z1) :: own, kp ++ [((b1, c1), (b, e))], g1, g2, g3, g4, g5, rfl, ?_, ?_, ?_, ?_, ?_⟩
  · intro p hp
    simp only [List.mem_cons, List.cons_append] at hp ⊢
    rcases hp with h | h | h | h | h <;> simp [h]
  · intro p hp
    rcases List.mem_cons.mp hp with rfl | hp
    · exact hne (fa, listOf fl.toArray ek) (.head _)
    · rcases List.mem_cons.mp hp with rfl | hp
      · exact Nat.ne_of_gt h4
      · rcases List.mem_cons.mp hp with rfl | hp
        · exact Nat.ne_of_gt h3
        · exact hne p (.tail _ hp)
  · rw [List.map_append]
    refine (hd.mono fun p hp => .tail _ (.tail _ hp)).append (.one (.tuple (vs := [.ref T, .ref D1]) (.head _) (.cons ?_ (.cons ?_ .nil))))
    · exact .tuple (vs := [.int b1 t3, .int c1 t4]) (.tail _ (.tail _ (List.mem_append_right _ (List.mem_append_right _ hT)))) (.cons (.int _ _) (.cons (.int _ _) .nil))
    · exact .tuple (vs := [.int b t1, .int e t2]) (.tail _ (.head _)) (.cons (.int _ _) (.cons (.int _ _) .nil))
  · intro q hq
    rcases List.mem_cons.mp hq with rfl | hq
    · exact h2
    · rcases List.mem_cons.mp hq with rfl | hq
      · exact h1
      · exact ho q hq
  · simp only [List.length_append, List.length_cons, List.length_nil]; omega
  · omega
  · rw [List.append_assoc]; exact hkp

theorem t_kept 
    {vo vn : Value} (B : Below A₀ base outer h₀) (F : Fr h₀ L s.heap m) (X : (Mine.hd.heap_39 w.params).In h₀) (N : News h₀ L s.heap news) (T : Top p loose mean mg mb h₀) (hk : cs.kind = .function)
    (hvo : DatIn news vo (dI xs)) (hvn : DatIn news vn (dI ys)) (hlx : xs.length ≤ 1000) (hly : ys.length ≤ 1000) (hdp : dp < 880) (hun : un < 8800)
    (ret : ∀ u own h' tk', Fr h₀ L h' m → News h₀ L h' (own ++ news) → Abv own news → DatIn own u (.list ((keepF xs ys (scan 0 none xs) 0 (scan 0 none ys)).map d4)) → Q u { s with heap := h', toks := tk' }) :
    wpAny (model PySem.Challenge.rw_pq0274_01.row.prog w) (ktrTop dp un gd cn cs L a ccd cl outer) (call (.ref 29) [vo, vn]) Q E s := by
  w_top off; revert X; k_fill; intro X
  obtain ⟨o, os, no, rfl, ho, hio⟩ := dI_out hvo
  obtain ⟨c, vs, nc, rfl, hc, hic⟩ := dI_out hvn
  have hol := IntsAre.length hio
  have hcl := IntsAre.length hic
  have hbx := scan_bounds xs
  have hby := scan_bounds ys
  have hsx := scan_length xs
  have hsy := scan_length ys
  refine wpAny_call ?_
  k_dflt ktr_enter
  refine wpAny_noRaise ?_
  k_steps
  refine Hold.mk ?_
  rename Fr _ _ _ (fun _ => _) => F1
  refine For_turns F1 ?_
  k_steps
  refine Hold.mk ?_
  rename Fr _ _ _ (fun _ => _) => F1
  rename News _ _ _ (_ ++ (_ ++ _)) => N1
  rename ∀ p ∈ news, p.1 < _ => hl1
  rename DatAll _ _ ((scan 0 none ys).map d2) => hd2
  rename DatAll _ _ ((scan 0 none xs).map d2) => hd1
  rename (_, listOf _ _) ∈ _ => hm2
  rename (_, listOf _ _) ∈ _ => hm1
  rename_i fa _ _ _ own1 _ _ ab1 sl svs sn _ _ _ own2 _ _ ab2 nl nvs nn
  have hls := hd1.length
  rw [List.length_map] at hls
  have hfa1 : ∀ q ∈ own1, fa < q.1 := fun q hq => ab1 q hq _ (.head _)
  have hfa2 : ∀ q ∈ own2, fa < q.1 := fun q hq => ab2 q hq (fa, _) (List.mem_append_right _ (.head _))
  have hn1 := ne_of_abv hfa1
  have hn2 := ne_of_abv hfa2
  have hn0 : ∀ q ∈ news, q.1 ≠ fa := fun q hq => Nat.ne_of_lt (hl1 q hq)
  have N2 : News _ _ _ ((fa, listOf #[] 0) :: ([] ++ (own2 ++ (own1 ++ news)))) := nsub N1 (by
    intro q hq
    simp only [List.mem_cons, List.mem_append, List.nil_append] at hq ⊢
    rcases hq with h | h | h | h <;> simp [h])
  clear N1
  refine for_inv (vs := nvs) (n := nn) (kwJ xs ys o c fa sl own2 own1 news) rfl F1 N2 ⟨0, _, [], 0, [], [], rfl, rfl, rfl, rfl, rfl, rfl, .nil, (fun _ h => nomatch h), Nat.le_refl _, Nat.zero_le _, by simp⟩ ?keep ?turn ?done
  case keep =>
    rintro i m₁ n₁ ⟨k, tat, fl, e, own, kp, g1, g2, g3, g4, g5, rfl, hd, ho, hfl, hks, hkp⟩
    exact .tail _ (List.mem_append_right _ (List.mem_append_left _ hm1))
  case done =>
    clear N2 F1
    rintro m₁ n₁ h tk' ⟨k, tat, fl, e, own, kp, g1, g2, g3, g4, g5, rfl, hd, ho, hfl, hks, hkp⟩ F₁ N₁
    have F₂ := fr5 F₁ g1 g2 g3 g4 g5
    clear F₁ g1 g2 g3 g4 g5
    k_steps
    rename Fr h₀ L _ m => kF
    rename News h₀ L _ _ => kN
    have hl2 := hd2.length
    rw [List.length_map] at hl2
    have hkp' : kp = keepF xs ys (scan 0 none xs) 0 (scan 0 none ys) := by
      rw [List.drop_eq_nil_of_le (by omega)] at hkp
      simpa [keepF] using hkp
    rw [← hkp'] at ret
    refine ret _ ((fa, listOf fl.toArray e) :: (own ++ (own2 ++ own1))) _ _ kF (nsub kN ?_) ?_ (.list (.head _) (hd.mono fun p hp => .tail _ hp))
    · intro q hq
      simp only [List.cons_append, List.append_assoc] at hq
      exact hq
    · refine List.forall_mem_cons.mpr ⟨hl1, List.forall_mem_append.mpr ⟨fun q hq p hp => Nat.lt_trans (hl1 p hp) (ho q hq), List.forall_mem_append.mpr ⟨fun q hq p hp => Nat.lt_trans (hl1 p hp) (hfa2 q hq), fun q hq p hp => Nat.lt_trans (hl1 p hp) (hfa1 q hq)⟩⟩⟩
  case turn =>
    clear N2 F1
    rintro I hI i v m₁ n₁ h tk' oI hv ⟨k, tat, fl, e, own, kp, g1, g2, g3, g4, g5, rfl, hd, ho, hfl, hks, hkp⟩ F₁ N₁ hne
    obtain ⟨hi', hp⟩ := d2_get hd2 hv
    have hbp := hby _ (getD_mem (d := (0, 0)) hi')
    have hdr := drop_getD' (scan 0 none ys) i (0, 0) hi'
    generalize (scan 0 none ys).getD i (0, 0) = q at hp hbp hdr
    obtain ⟨b, e'⟩ := q
    obtain ⟨T, t1, t2, eT, rfl, hT⟩ := d2_out hp
    have hn3 := ne_of_abv ho
    have hfI := ltN (hI (fa, _) (.head _))
    dsimp only at hfI
    have hnl := hd2.length
    rw [List.length_map] at hnl
    dsimp only at hT hbp
    obtain ⟨hbp0, hbp1, hbp2⟩ := hbp
    have F₂ := fr5 F₁ g1 g2 g3 g4 g5
    clear F₁ g1 g2 g3 g4 g5
    k_steps
    refine Hold.mk ?_
    rename Fr _ _ _ (fun _ => _) => F1
    rename News _ _ _ _ => N1
    refine while_mid (kwW xs ys o c fa sl (.int k tat) (.int b t1) (.int e' t2) (b, e') k ((I, oI) :: (fa, listOf fl.toArray e) :: (own ++ (own2 ++ (own1 ++ news))))) (kwX xs ys o c fa sl (.int k tat) (.int b t1) (.int e' t2) (b, e') k ((I, oI) :: (fa, listOf fl.toArray e) :: (own ++ (own2 ++ (own1 ++ news))))) (n₀ := min (scan 0 none xs).length (k + 4) - k) F1 N1
      ⟨k, _, rfl, rfl, rfl, rfl, rfl, rfl, rfl, rfl, rfl, Nat.le_refl _, by omega, rfl, rfl⟩ ?_ ?_
    · clear F1 N1
      rintro n₁ m₂ n₂ h₂ tk₂ F₃ N₃ ⟨j, tj, q1, q2, q3, q4, q5, q6, q7, q8, rfl, hkj, hjl, rfl, hf⟩
      have F₄ := fr8 F₃ q1 q2 q3 q4 q5 q6 q7 q8
      clear F₃ q1 q2 q3 q4 q5 q6 q7 q8
      k_steps
      · rename List.getD _ _ _ = _ => hb2
        revert hb2
        rename List.getD _ _ _ = _ => hb1
        intro hb2
        rename List.take _ _ = List.take _ _ => he
        have ht := kw_test (xs := xs) (ys := ys) (b := b) (e := e') hb1 hb2
        rw [decide_eq_true he] at ht
        rename News _ _ _ _ => N9
        rename Fr _ _ _ (fun _ => _) => F9
        exact MidE.intro F9 (nsub N9 fun q hq => .tail _ (.tail _ hq)) ⟨j, _, rfl, rfl, rfl, rfl, rfl, rfl, rfl, rfl, rfl, hjl, by rw [← hf, findF_hit ht]⟩
      · rename List.getD _ _ _ = _ => hb2
        revert hb2
        rename List.getD _ _ _ = _ => hb1
        intro hb2
        rename ¬ List.take _ _ = List.take _ _ => he
        have ht := kw_test (xs := xs) (ys := ys) (b := b) (e := e') hb1 hb2
        rw [decide_eq_false he] at ht
        rename News _ _ _ _ => N9
        rename Fr _ _ _ (fun _ => _) => F9
        rename (j : Int) < _ => hlt9
        obtain ⟨s1, s2, s3⟩ := kt_step hks hkj hlt9
        refine WhileStep.intro (n' := min (scan 0 none xs).length (k + 4) - (j + 1)) F9 (nsub N9 fun q hq => .tail _ (.tail _ hq)) s1 ⟨j + 1, _, rfl, rfl, rfl, rfl, rfl, rfl, rfl, rfl, rfl, Nat.le_succ_of_le hkj, s2, rfl, ?_⟩
        rw [← hf, findF_miss s3 ht, Nat.sub_sub]
      · rename News _ _ _ _ => N9
        rename Fr _ _ _ (fun _ => _) => F9
        exact MidE.intro F9 N9 ⟨j, _, rfl, rfl, rfl, rfl, rfl, rfl, rfl, rfl, rfl, hjl, by rw [← hf, findF_zero (by omega)]⟩
    · clear F1 N1
      rintro m₂ n₂ h₂ tk₂ F₃ N₃ ⟨j, tj, q1, q2, q3, q4, q5, q6, q7, q8, rfl, hjl, hf⟩
      have F₄ := fr8 F₃ q1 q2 q3 q4 q5 q6 q7 q8
      clear F₃ q1 q2 q3 q4 q5 q6 q7 q8
      k_steps
      · rename News _ _ _ _ => N9
        rename Fr _ _ _ (fun _ => _) => F9
        (repeat (rename _ ∧ _ => hc9; obtain ⟨_, _⟩ := hc9))
        rename (_, tupOf _ _) ∈ own1 => hT9
        rename List.getD _ _ _ = _ => hb9
        exact kw_app F9 N9 rfl rfl rfl rfl rfl hT9 hb9 hd ho (by assumption) (by assumption) (by assumption) (by assumption) hne hfl (by omega) hf hdr hkp
      · rename News _ _ _ _ => N9
        rename Fr _ _ _ (fun _ => _) => F9
        rw [hdr, keepF_miss hf (by omega)] at hkp
        exact ForE.intro F9 N9 hne ⟨k, tat, fl, e, own, kp, rfl, rfl, rfl, rfl, rfl, rfl, hd, ho, by omega, hks, hkp⟩
end
end
section
local macro_rules | `(tactic| walk_at "execs cons") => `(tactic| first | k_gentoks | refine wpAny_execs_cons ?_)
local macro_rules | `(tactic| walk_at "call builtin:len") => `(tactic| (k_here; (with_reducible show wpAny _ _ (call (Value.builtin "len") [Value.ref _]) _ _ _); (refine' len_ref ?N ?m ?c ?b ?_; (case N => k_asm); (case m => ktr_rel); (case c => with_reducible assumption); (case b => omega)); intro t' tk'))
theorem Upd.app {d : Addr} {o o' : Obj} {own r r' : List (Addr × Obj)} (h : ∀ p ∈ own, p.1 ≠ d) (U : Upd d o o' r r') : Upd d o o' (own ++ r) (own ++ r') := by
  induction own with
  | nil => exact U
  | cons p own ih => exact .tail (h p (.head _)) (ih fun q hq => h q (.tail _ hq))
theorem abv_ne {own news : List (Addr × Obj)} {a : Addr} {o : Obj} (h : Abv own news) (hm : (a, o) ∈ news) : ∀ q ∈ own, q.1 ≠ a := fun q hq => Nat.ne_of_gt (h q hq (a, o) hm)
theorem abv_gt {own news : List (Addr × Obj)} {a : Addr} {o : Obj} (h : Abv own news) (hm : (a, o) ∈ news) : ∀ q ∈ own, a < q.1 := fun q hq => h q hq (a, o) hm
theorem add_ref {prog : Program} {w : World} {A : Around} {E : Value → Shared → Prop} {s : Shared} {h₀ : Heap} {L a b n1 n2 : Nat} {m : Str → Option Value} {news : List (Addr × Obj)} {vs us : List Value} {Q : Value → Shared → Prop}
    (F : Fr h₀ L s.heap m) (N : News h₀ L s.heap news) (ha : (a, listOf vs.toArray n1) ∈ news) (hb : (b, listOf us.toArray n2) ∈ news) (hz : vs.length + us.length ≤ 1000000)
    (h : ∀ l h', Fr h₀ L h' m → News h₀ L h' ((l, listOf (vs ++ us).toArray 0) :: news) → (∀ p ∈ news, p.1 < l) → Q (.ref l) { s with heap := h' }) :
    wpAny (model prog w) A (binaryOp .Add (.ref a) (.ref b)) Q E s :=
  add_arrays F N (News.isList N ha) (News.isList N hb) (fun h' F' N' => h _ h' F' N' fun p hp => Heap.lt_size (N p hp).1) (by simp only [List.size_toArray, sizeLine_eq]; omega)

abbrev d3 (p : Int × Int × List Int) : Dat := .tuple [.int p.1, .int p.2.1, dI p.2.2]
/-- kept pairs go upwards in both texts -/
def Sep (n m : Int) : Int → Int → List ((Int × Int) × (Int × Int)) → Prop
  | _, _, [] => True
  | i, j, p :: r => i ≤ p.1.1 ∧ p.1.1 ≤ p.1.2 ∧ p.1.2 ≤ n ∧ j ≤ p.2.1 ∧ p.2.1 ≤ p.2.2 ∧ p.2.2 ≤ m ∧ Sep n m p.1.2 p.2.2 r
/-- the edits between kept pairs -/
inductive Edits (xs ys : List Int) : Nat → Nat → List ((Int × Int) × (Int × Int)) → List (Int × Int × List Int) → Prop
  | nil {i j : Nat} : Edits xs ys i j [] []
  | same {i j b e f l : Nat} {r : List ((Int × Int) × (Int × Int))} {E : List (Int × Int × List Int)} : cut xs i b = cut ys j f → Edits xs ys e l r E → Edits xs ys i j ((((b : Int), (e : Int)), ((f : Int), (l : Int))) :: r) E
  | diff {i j b e f l A B : Nat} {r : List ((Int × Int) × (Int × Int))} {E : List (Int × Int × List Int)} : cut xs i b ≠ cut ys j f → Narrow xs (cut ys j f) i b A B → Edits xs ys e l r E →
      Edits xs ys i j ((((b : Int), (e : Int)), ((f : Int), (l : Int))) :: r) (((i : Int) + A, (b : Int) - B, ((cut ys j f).drop A).take ((cut ys j f).length - B - A)) :: E)
/-- the kept pairs and the two texts' ends -/
abbrev keptE (xs ys : List Int) : List ((Int × Int) × (Int × Int)) := keepF xs ys (scan 0 none xs) 0 (scan 0 none ys) ++ [(((xs.length : Int), (xs.length : Int)), ((ys.length : Int), (ys.length : Int)))]
theorem d4_get {news : List (Addr × Obj)} {vs : List Value} {K : List ((Int × Int) × (Int × Int))} (h : DatAll news vs (K.map d4)) {k : Nat} {v : Value} (hv : vs[k]? = some v) : k < K.length ∧ DatIn news v (d4 (K.getD k ((0, 0), (0, 0)))) := by
  have hl := h.length
  have hk : k < vs.length := by
    rcases Nat.lt_or_ge k vs.length with h | h
    · exact h
    · rw [List.getElem?_eq_none h] at hv; cases hv
  rw [List.length_map] at hl
  obtain ⟨u, hu, hd⟩ := h.get (k := k) (by rw [List.length_map]; omega)
  rw [hu] at hv
  cases hv
  refine ⟨by omega, ?_⟩
  rw [List.getElem_map] at hd
  rw [List.getD_eq_getElem?_getD, List.getElem?_eq_getElem (by omega)]
  exact hd
theorem d4_out {news : List (Addr × Obj)} {v : Value} {p : (Int × Int) × (Int × Int)} (h : DatIn news v (d4 p)) : ∃ a b c n t1 t2 t3 t4 n1 n2, v = .ref a ∧ (a, tupOf [.ref b, .ref c] n) ∈ news ∧ (b, tupOf [.int p.1.1 t1, .int p.1.2 t2] n1) ∈ news ∧ (c, tupOf [.int p.2.1 t3, .int p.2.2 t4] n2) ∈ news := by
  cases h with
  | tuple hm r =>
    cases r with
    | cons h1 r =>
      cases r with
      | cons h2 r =>
        cases r
        obtain ⟨b, t1, t2, n1, rfl, hb⟩ := d2_out h1
        obtain ⟨c, t3, t4, n2, rfl, hc⟩ := d2_out h2
        exact ⟨_, _, _, _, _, _, _, _, _, _, rfl, hm, hb, hc⟩
theorem sep_getD {n m : Int} : ∀ {K : List ((Int × Int) × (Int × Int))} {i j : Int} {k : Nat}, Sep n m i j (K.drop k) → k < K.length → ∃ r, K.drop k = K.getD k ((0, 0), (0, 0)) :: r ∧ r = K.drop (k + 1) := fun {K} {i j} {k} _ hk => ⟨_, drop_getD' K k _ hk, rfl⟩
theorem keepF_length (xs ys : List Int) (sps : List (Int × Int)) : ∀ (i : Nat) (r : List (Int × Int)), (keepF xs ys sps i r).length ≤ r.length
  | _, [] => Nat.le_refl _
  | i, p :: r => by
    rw [keepF]
    split
    · have := keepF_length xs ys sps (findF (fun k => decide (cut xs (sps.getD k (0, 0)).1 (sps.getD k (0, 0)).2 = cut ys p.1 p.2)) (min sps.length (i + 4) - i) i + 1) r
      simp only [List.length_cons]; omega
    · have := keepF_length xs ys sps i r
      simp only [List.length_cons]; omega
section
local macro_rules | `(tactic| walk_at "binaryOp Add ref ref") => `(tactic| (k_here; (with_reducible show wpAny _ _ (binaryOp _ (Value.ref _) (Value.ref _)) _ _ _); k_dflt (refine' add_ref ?F ?N ?a ?b ?z ?_; (case F => k_asm); (case N => k_asm); (case a => ktr_rel); (case b => ktr_rel); (case z => (simp only [List.length_cons, List.length_nil]; omega))); intro l' h' F' N' l1; (try k_lt l1); (try k_sweep)))
local macro_rules | `(tactic| k_upd) => `(tactic| (refine' Upd.app ?zua ?zub; (case zua => exact abv_ne (by assumption) (by ktr_rel)); (case zub => k_upd)))
local macro_rules | `(tactic| tb_rel) => `(tactic| first | (refine' datMono ?hd ?hs; (case hd => k_asm); (case hs => (intro p hp; ktr_rel))) | (refine' dI_in ?hd ?hs; (case hd => ktr_rel); (case hs => k_asm)))
local macro_rules | `(tactic| walk_at "call ref") => `(tactic| ((with_reducible show wpAny _ _ (call (Value.ref 29) _) _ _ _); k_dflt (refine' t_kept ?B ?F ?X ?N ?T ?hk ?hv ?hw ?hlen ?hlem ?hdp ?hun ?_; (case B => k_asm); (case F => k_asm); (case X => k_asm); (case N => k_asm); (case T => k_asm); (case hk => first | exact rfl | assumption); (case hv => tb_rel); (case hw => tb_rel); (case hlen => tb_start); (case hlem => tb_start); (case hdp => tb_start); (case hun => tb_start)); (intro u' own' h' tk' F' N' ab' dt'; obtain ⟨l', vs', n', e', hm', hd'⟩ := dL_out dt'; subst e'; clear dt'; have hle' := DatAll.length hd'; rw [List.length_map] at hle'); (try k_sweep)))
local macro_rules | `(tactic| walk_at "call ref") => `(tactic| ((with_reducible show wpAny _ _ (call (Value.ref 36) _) _ _ _); k_dflt (refine' t_narrow ?B ?F ?X ?N ?T ?hk ?hv ?hw ?hlen ?hlem ?hij ?hj ?hdp ?hun ?_; (case B => k_asm); (case F => k_asm); (case X => k_asm); (case N => k_asm); (case T => k_asm); (case hk => first | exact rfl | assumption); (case hv => tb_rel); (case hw => tb_rel); (case hlen => tb_start); (case hlem => omega); (case hij => omega); (case hj => omega); (case hdp => tb_start); (case hun => tb_start)); (intro Aa' Bb' u' own' h' tk' F' N' ab' na' dt'); (try k_sweep)))
section
variable {w : World} {p : Program} {loose : List Str} {mean : ExcName → Option Value} {mg mb : Str → Option Value}
    {dp un : Nat} {gd : Option (List Code)} {cn : Str} {cs : Scope} {a : Addr} {ccd : Value} {cl : List (Str × Addr)} {outer : List Env} {A₀ : Around} {base h₀ : Heap} {L : Addr} {m : Str → Option Value} {s : Shared}
    {Q E : Value → Shared → Prop} {n : Nat} {news : List (Addr × Obj)} {xs ys : List Int}

def edJ (xs ys : List Int) (K : List ((Int × Int) × (Int × Int))) (o c fa : Addr) (b0 news : List (Addr × Obj)) (i : Nat) (m₁ : Str → Option Value) (n₁ : List (Addr × Obj)) : Prop :=
  ∃ (k j : Nat) (tk tj : Tok) (fl : List Value) (e : Nat) (own : List (Addr × Obj)) (E : List (Int × Int × List Int)),
    m₁ "old" = some (.ref o) ∧ m₁ "new" = some (.ref c) ∧ m₁ "found" = some (.ref fa) ∧ m₁ "at" = some (.int k tk) ∧ m₁ "place" = some (.int j tj) ∧
    n₁ = (fa, listOf fl.toArray e) :: (own ++ (b0 ++ news)) ∧ DatAll own fl (E.map d3) ∧ (∀ q ∈ own, fa < q.1) ∧ fl.length ≤ i ∧ Sep xs.length ys.length k j (K.drop i) ∧
    ∀ E', Edits xs ys k j (K.drop i) E' → Edits xs ys 0 0 K (E ++ E')

set_option maxHeartbeats 1200000 in
theorem t_edits 
    {vo vn : Value} (B : Below A₀ base outer h₀) (F : Fr h₀ L s.heap m) (X : (Mine.hd.heap_39 w.params).In h₀) (N : News h₀ L s.heap news) (T : Top p loose mean mg mb h₀) (hk : cs.kind = .function)
    (hvo : DatIn news vo (dI xs)) (hvn : DatIn news vn (dI ys)) (hlx : xs.length ≤ 1000) (hly : ys.length ≤ 1000) (hsep : Sep xs.length ys.length 0 0 (keptE xs ys)) (hdp : dp < 870) (hun : un < 8700)
    (ret : ∀ E u own h' tk', Fr h₀ L h' m → News h₀ L h' (own ++ news) → Abv own news → Edits xs ys 0 0 (keptE xs ys) E → DatIn own u (.list (E.map d3)) → Q u { s with heap := h', toks := tk' }) :
    wpAny (model PySem.Challenge.rw_pq0274_01.row.prog w) (ktrTop dp un gd cn cs L a ccd cl outer) (call (.ref 43) [vo, vn]) Q E s := by
  w_top off; revert X; k_fill; intro X
  obtain ⟨o, os, no, rfl, ho, hio⟩ := dI_out hvo
  obtain ⟨c, vs, nc, rfl, hc, hic⟩ := dI_out hvn
  have hol := IntsAre.length hio
  have hcl := IntsAre.length hic
  have hsy := scan_length ys
  have hkl := keepF_length xs ys (scan 0 none xs) 0 (scan 0 none ys)
  refine wpAny_call ?_
  k_dflt ktr_enter
  refine wpAny_noRaise ?_
  k_steps
  refine Hold.mk ?_
  rename Fr _ _ _ (fun _ => _) => F1
  refine For_turns F1 ?_
  k_steps
  refine Hold.mk ?_
  rename Fr _ _ _ (fun _ => _) => F1
  rename News _ _ _ _ => N1
  rename ∀ p ∈ news, p.1 < _ => hl1
  rename DatAll _ _ (List.map d4 _) => hd1
  rename_i fa _ _ _ _ own1 _ _ ab1 kl kvs kn hmk hle D1 _ l1a D2 _ l1b D3 _ l1c l2 _ l1d nl _ l1e
  have hfa1 : ∀ q ∈ own1, fa < q.1 := abv_gt ab1 (.head _)
  have hn1 := ne_of_abv hfa1
  have hn0 : ∀ q ∈ news, q.1 ≠ fa := fun q hq => Nat.ne_of_lt (hl1 q hq)
  have l1a' := ltN (l1a (fa, _) (List.mem_append_right _ (.head _)))
  dsimp only at l1a'
  have N2 : News _ _ _ ((fa, listOf #[] 0) :: ([] ++ ((_ :: (D3, _) :: (D2, _) :: (D1, _) :: own1) ++ news))) := nsub N1 (b := _ :: ([] ++ (((nl, _) :: (D3, _) :: (D2, _) :: (D1, _) :: own1) ++ news))) (by
    intro q hq
    simp only [List.mem_cons, List.mem_append, List.nil_append, List.cons_append] at hq ⊢
    rcases hq with h | h | h | h | h | h | h
    · exact .inr (.inr (.inr (.inr (.inr (.inr (.inl h))))))
    · exact .inl h
    · exact .inr (.inr (.inl h))
    · exact .inr (.inr (.inr (.inl h)))
    · exact .inr (.inr (.inr (.inr (.inl h))))
    · exact .inr (.inr (.inr (.inr (.inr (.inl h)))))
    · exact .inr (.inr (.inr (.inr (.inr (.inr (.inr h)))))))
  clear N1
  obtain ⟨b0, hmb, hdb, hfb, N3⟩ : ∃ b0, (nl, listOf (kvs ++ [Value.ref D3]).toArray 0) ∈ b0 ∧ DatAll b0 (kvs ++ [Value.ref D3]) ((keptE xs ys).map d4) ∧ (∀ q ∈ b0, fa < q.1) ∧ News _ _ _ ((fa, listOf #[] 0) :: ([] ++ (b0 ++ news))) := by
    refine ⟨_, ?_, ?_, ?_, N2⟩
    · exact .head _
    · rw [List.map_append]
      refine (hd1.mono fun p hp => .tail _ (.tail _ (.tail _ (.tail _ hp)))).append (.one (.tuple (vs := [.ref D1, .ref D2]) (.tail _ (.head _)) (.cons ?_ (.cons ?_ .nil))))
      · exact .tuple (vs := [_, _]) (.tail _ (.tail _ (.tail _ (.head _)))) (.cons (.int _ _) (.cons (.int _ _) .nil))
      · exact .tuple (vs := [_, _]) (.tail _ (.tail _ (.head _))) (.cons (.int _ _) (.cons (.int _ _) .nil))
    · obtain ⟨e1, e2, e3, e4, -⟩ := l1e
      obtain ⟨c1, c2, -⟩ := l1c
      obtain ⟨b1, -⟩ := l1b
      refine List.forall_mem_cons.mpr ⟨?_, List.forall_mem_cons.mpr ⟨?_, List.forall_mem_cons.mpr ⟨?_, List.forall_mem_cons.mpr ⟨?_, hfa1⟩⟩⟩⟩
      · exact Nat.lt_trans l1a' e4
      · exact Nat.lt_trans l1a' c2
      · exact Nat.lt_trans l1a' b1
      · exact l1a'
  clear N2 l1a l1b l1c l1d l1e hmk hle hd1
  have hnb := ne_of_abv hfb
  have hlb := hdb.length
  rw [List.length_map] at hlb
  have hlK : (keptE xs ys).length ≤ 1001 := by
    rw [List.length_append]; simp only [List.length_cons, List.length_nil]; omega
  have hK0 : ∀ E, Edits xs ys 0 0 ((keptE xs ys).drop 0) E → Edits xs ys 0 0 (keptE xs ys) ([] ++ E) := fun E h => h
  generalize keptE xs ys = K at hdb hlb hlK hsep ret hK0
  refine for_inv (vs := kvs ++ [Value.ref D3]) (n := 0) (edJ xs ys K o c fa b0 news) rfl F1 N3 ⟨0, 0, _, _, [], 0, [], [], rfl, rfl, rfl, rfl, rfl, rfl, .nil, (fun _ h => nomatch h), Nat.le_refl _, hsep, hK0⟩ ?keep ?turn ?done
  case keep =>
    rintro i m₁ n₁ ⟨k, j, tat, tpl, fl, e, own, E, g1, g2, g3, g4, g5, rfl, hd, ho, hfl, hks, hkp⟩
    exact .tail _ (List.mem_append_right _ (List.mem_append_left _ hmb))
  case done =>
    clear N3 F1
    rintro m₁ n₁ h tk' ⟨k, j, tat, tpl, fl, e, own, E, g1, g2, g3, g4, g5, rfl, hd, ho, hfl, hks, hkp⟩ F₁ N₁
    have F₂ := fr5 F₁ g1 g2 g3 g4 g5
    clear F₁ g1 g2 g3 g4 g5
    k_steps
    rename Fr h₀ L _ m => kF
    rename News h₀ L _ _ => kN
    have hkp' : Edits xs ys 0 0 K E := by
      have := hkp []
      rw [List.drop_eq_nil_of_le (by omega), List.append_nil] at this
      exact this .nil
    refine ret E _ ((fa, listOf fl.toArray e) :: (own ++ b0)) _ _ kF (nsub kN ?_) ?_ hkp' (.list (.head _) (hd.mono fun p hp => .tail _ (List.mem_append_left _ hp)))
    · intro q hq
      simp only [List.cons_append, List.append_assoc] at hq
      exact hq
    · exact List.forall_mem_cons.mpr ⟨hl1, List.forall_mem_append.mpr ⟨fun q hq p hp => Nat.lt_trans (hl1 p hp) (ho q hq), fun q hq p hp => Nat.lt_trans (hl1 p hp) (hfb q hq)⟩⟩
  case turn =>
    clear N3 F1
    rintro I hI i v m₁ n₁ h tk' oI hv ⟨k, j, tat, tpl, fl, e, own, E, g1, g2, g3, g4, g5, rfl, hd, ho, hfl, hks, hkp⟩ F₁ N₁ hne
    obtain ⟨hi', hp⟩ := d4_get hdb hv
    have hdr := drop_getD' K i ((0, 0), (0, 0)) hi'
    generalize K.getD i ((0, 0), (0, 0)) = q at hp hdr
    rw [hdr] at hks hkp
    obtain ⟨⟨b, e'⟩, ⟨f, l⟩⟩ := q
    obtain ⟨T, Tb, Tc, eT, t1, t2, t3, t4, n1, n2, rfl, hT, hTb, hTc⟩ := d4_out hp
    obtain ⟨hs1, hs2, hs3, hs4, hs5, hs6, hs7⟩ := hks
    dsimp only at hTb hTc hs1 hs2 hs3 hs4 hs5 hs6 hs7
    obtain ⟨b, rfl⟩ := Int.eq_ofNat_of_zero_le (a := b) (by omega)
    obtain ⟨e', rfl⟩ := Int.eq_ofNat_of_zero_le (a := e') (by omega)
    obtain ⟨f, rfl⟩ := Int.eq_ofNat_of_zero_le (a := f) (by omega)
    obtain ⟨l, rfl⟩ := Int.eq_ofNat_of_zero_le (a := l) (by omega)
    have hn3 := ne_of_abv ho
    have hfI := ltN (hI (fa, _) (.head _))
    dsimp only at hfI
    have F₂ := fr5 F₁ g1 g2 g3 g4 g5
    clear F₁ g1 g2 g3 g4 g5
    iterate 20 (first | walk1 | (dsimp only; walk1))
    show wpAny _ _ _ _ _ { s with heap := _, toks := _ }
    k_steps
    · rename News _ _ _ _ => N9
      rename Fr _ _ _ (fun _ => _) => F9
      rename List.take _ _ = List.take _ _ => he
      exact ForE.intro F9 (nsub N9 fun q hq => .tail _ (.tail _ hq)) hne ⟨e', l, _, _, fl, e, own, E, rfl, rfl, rfl, rfl, rfl, rfl, hd, ho, by omega, hs7, fun E' h => hkp E' (.same he h)⟩
    · rename ¬ List.take _ _ = List.take _ _ => he
      rename_i A1 B1 u1 own3 _ _ hab hna hdt _ _ _ F9 N9
      have hof : ∀ q ∈ own3, fa < q.1 := abv_gt hab (by ktr_rel)
      have hoI : ∀ q ∈ own3, I < q.1 := abv_gt hab (by ktr_rel)
      rw [listOf_push] at N9
      refine ForE.intro (news' := (fa, listOf (fl ++ [u1]).toArray (e + 1)) :: ((own3 ++ own) ++ (b0 ++ news))) F9 (nsub N9 ?_) ?_ ⟨e', l, _, _, fl ++ [u1], e + 1, own3 ++ own, E ++ [((k : Int) + A1, (b : Int) - B1, ((cut ys j f).drop A1).take ((cut ys j f).length - B1 - A1))], rfl, rfl, rfl, rfl, rfl, rfl, ?_, ?_, ?_, hs7, fun E' h => ?_⟩
      rotate_left
      · exact List.forall_mem_cons.mpr ⟨hne (fa, listOf fl.toArray e) (.head _), List.forall_mem_append.mpr ⟨List.forall_mem_append.mpr ⟨ne_of_abv hoI, fun q hq => hne q (.tail _ (List.mem_append_left _ hq))⟩, fun q hq => hne q (.tail _ (List.mem_append_right _ hq))⟩⟩
      · rw [List.map_append]
        exact (hd.mono fun p hp => List.mem_append_right _ hp).append (.one (datMono hdt fun p hp => List.mem_append_left _ hp))
      · exact List.forall_mem_append.mpr ⟨hof, ho⟩
      · simp only [List.length_append, List.length_cons, List.length_nil]; omega
      · rw [List.append_assoc]
        exact hkp _ (.diff he hna h)
      · intro q hq
        simp only [List.mem_cons, List.mem_append] at hq ⊢
        rcases hq with h | h | (h | h) | h | h
        · exact .inr (.inr (.inr (.inr (.inl h))))
        · exact .inr (.inr (.inr (.inr (.inr (.inl h)))))
        · exact .inl h
        · exact .inr (.inr (.inr (.inr (.inr (.inr (.inl h))))))
        · exact .inr (.inr (.inr (.inr (.inr (.inr (.inr (.inl h)))))))
        · exact .inr (.inr (.inr (.inr (.inr (.inr (.inr (.inr h)))))))
end
end
section
variable {prog : Program} {w : World} {A : Around} {E : Value → Shared → Prop} {s : Shared} {env : Env} {h₀ : Heap} {elts : List PySem.Expr} {kk : Nat} {pos : Pos} {body : List Stmt} {Q : Flow → Shared → Prop}
theorem stmt_mid {M : Model} {t : Sem Flow} {L : Addr} {m : Str → Option Value} (_F : Fr h₀ L s.heap m) (X : (Str → Option Value) → List (Addr × Obj) → Prop) (h : wpAny M A t (MidE h₀ L s X) E s)
    (fin : ∀ m₁ news₁ h₁ tk₁, Fr h₀ L h₁ m₁ → News h₀ L h₁ news₁ → X m₁ news₁ → Q .next { s with heap := h₁, toks := tk₁ }) : wpAny M A t Q E s := by
  refine wpAny_mono h (fun f s' h => ?_) fun _ _ x => x
  obtain ⟨rfl, h', tk, m', news', rfl, F', N', hx⟩ := h
  exact fin _ _ _ _ F' N' hx
/-- a for-turn's end with two things that the loop keeps -/
def ForE2 (h₀ : Heap) (L : Addr) (s₁ : Shared) (i1 i2 : Addr × Obj) (J : (Str → Option Value) → List (Addr × Obj) → Prop) (Q : Flow → Shared → Prop) (f : Flow) (s₂ : Shared) : Prop :=
  match f with
  | .ret v => Q (.ret v) s₂
  | .brk => Q .next s₂
  | _ => ∃ h' tk m' news', s₂ = { s₁ with heap := h', toks := tk } ∧ Fr h₀ L h' m' ∧ News h₀ L h' (i1 :: i2 :: news') ∧ (∀ p ∈ news', p.1 ≠ i1.1 ∧ p.1 ≠ i2.1) ∧ J m' news'
theorem ForE2.intro {L : Addr} {s₁ : Shared} {i1 i2 : Addr × Obj} {J : (Str → Option Value) → List (Addr × Obj) → Prop} {h' : Heap} {tk : Nat} {m' : Str → Option Value} {news' : List (Addr × Obj)}
    (F : Fr h₀ L h' m') (N : News h₀ L h' (i1 :: i2 :: news')) (hI : ∀ p ∈ news', p.1 ≠ i1.1 ∧ p.1 ≠ i2.1) (hJ : J m' news') : ForE2 h₀ L s₁ i1 i2 J Q .next { s₁ with heap := h', toks := tk } := ⟨h', tk, m', news', rfl, F, N, hI, hJ⟩
theorem items_enum {I ax : Addr} {lo : Obj} {all : List Value} (J : Nat → (Str → Option Value) → List (Addr × Obj) → Prop)
    (keep : ∀ i m n, J i m n → (ax, lo) ∈ n)
    (turn : ∀ (i : Nat) v m n h tk o1 o2 T t, all[i]? = some v → J i m n → Fr h₀ env.locals h m → IsTup h T #[.int (i : Int) t, v] → News h₀ env.locals h ((I + 1, o1) :: (I, o2) :: n) → (∀ p ∈ n, p.1 ≠ I + 1 ∧ p.1 ≠ I) →
      wpAny (model prog w) A (assign (.Tuple elts kk pos) env (.ref T)) (fun _ s₂ => wpAny (model prog w) A (execs body env) (ForE2 h₀ env.locals { s with heap := h, toks := tk } (I + 1, o1) (I, o2) (J (i + 1)) Q) E s₂) E { s with heap := h, toks := tk })
    (done : ∀ m n h tk, J all.length m n → Fr h₀ env.locals h m → News h₀ env.locals h n → Q .next { s with heap := h, toks := tk }) :
    ∀ (r pre : List Value) (m : Str → Option Value) (n : List (Addr × Obj)), all = pre ++ r → J pre.length m n → (∀ p ∈ n, p.1 ≠ I + 1 ∧ p.1 ≠ I) →
      ItemsRest prog w A E h₀ env (.Tuple elts kk pos) body Q s [(I + 1, "enumerate"), (I, "list_iterator")] [(ax, lo)] (enumItems pre.length r) m n := by
  intro r
  induction r with
  | nil =>
    intro pre m n e hJ _ h tk F N
    rw [List.append_nil] at e
    subst e
    exact done m n h tk hJ F N
  | cons v r ih =>
    intro pre m n e hJ hI
    refine ItemsRest.pair fun T t h tk hT F => AllObj.cons fun o1 hc1 => AllObj.cons fun o2 hc2 => AllObj.nil fun N => ?_
    refine wpAny_mono (turn pre.length v m n h tk o1 o2 T t (by rw [e]; simp) hJ F hT N hI) (fun _ s₂ h₂ => wpAny_mono h₂ (fun f s₃ h₃ => ?_) fun _ _ x => x) fun _ _ x => x
    have fin : (∃ h' tk' m' news', s₃ = { ({ s with heap := h, toks := tk } : Shared) with heap := h', toks := tk' } ∧ Fr h₀ env.locals h' m' ∧ News h₀ env.locals h' ((I + 1, o1) :: (I, o2) :: news') ∧ (∀ p ∈ news', p.1 ≠ I + 1 ∧ p.1 ≠ I) ∧ J (pre.length + 1) m' news') →
        UnrEndW h₀ env.locals { s with heap := h, toks := tk } [(I + 1, o1), (I, o2)] (fun m' n' => SubL [(ax, lo)] n' ∧ ItemsRest prog w A E h₀ env (.Tuple elts kk pos) body Q s [(I + 1, "enumerate"), (I, "list_iterator")] [(ax, lo)] (enumItems (pre.length + 1) r) m' n') s₃ := by
      rintro ⟨h', tk', m', news', rfl, F', N', hI', hJ'⟩
      refine ⟨h', tk', m', news', rfl, F', N', fun p hp q hq => ?_, And.intro (keep _ _ _ hJ') trivial, ?_⟩
      · rcases List.mem_cons.mp hq with rfl | hq
        · exact (hI' p hp).1
        · rw [List.mem_singleton.mp hq]
          exact (hI' p hp).2
      · have := ih (pre ++ [v]) m' news' (by rw [e]; simp) (by simpa using hJ') hI'
        rw [List.length_append] at this
        exact this
    cases f with
    | ret v => exact h₃
    | brk => exact h₃
    | next => exact fin h₃
    | cont => exact fin h₃
theorem for_enum {ax : Addr} {n : Nat} {vs : List Value} {m₀ : Str → Option Value} {news : List (Addr × Obj)} (J : Nat → (Str → Option Value) → List (Addr × Obj) → Prop)
    (hh : A.handled = none) (F : Fr h₀ env.locals s.heap m₀) (N : News h₀ env.locals s.heap news) (h0 : J 0 m₀ news)
    (keep : ∀ i m n', J i m n' → (ax, listOf vs.toArray n) ∈ n')
    (turn : ∀ I, (∀ p ∈ news, p.1 < I) → ∀ (i : Nat) v m n h tk o1 o2 T t, vs[i]? = some v → J i m n → Fr h₀ env.locals h m → IsTup h T #[.int (i : Int) t, v] → News h₀ env.locals h ((I + 1, o1) :: (I, o2) :: n) → (∀ p ∈ n, p.1 ≠ I + 1 ∧ p.1 ≠ I) →
      wpAny (model prog w) A (assign (.Tuple elts kk pos) env (.ref T)) (fun _ s₂ => wpAny (model prog w) A (execs body env) (ForE2 h₀ env.locals { s with heap := h, toks := tk } (I + 1, o1) (I, o2) (J (i + 1)) Q) E s₂) E { s with heap := h, toks := tk })
    (done : ∀ m n h tk, J vs.length m n → Fr h₀ env.locals h m → News h₀ env.locals h n → Q .next { s with heap := h, toks := tk }) :
    wpAny (model prog w) A (call (.type "enumerate") [.ref ax]) (fun xv s₁ => wpAny (model prog w) A (pyIter xv) (fun it s₂ => TurnsAt prog w A h₀ env (.Tuple elts kk pos) body Q E it s₂) E s₁) E s :=
  ktu_enum hh F N (keep _ _ _ h0) rfl rfl rfl fun I hI => items_enum J keep (turn I hI) done vs [] m₀ news rfl h0 fun p hp => ⟨Nat.ne_of_lt (Nat.lt_succ_of_lt (hI p hp)), Nat.ne_of_lt (hI p hp)⟩
end
def Blank (g : List Int) : Prop := ∀ x ∈ g, blank x = true
/-- a text of words as far as its last word -/
inductive Txt : List (List Int) → List Int → Prop
  | nil {g : List Int} : Blank g → Txt [] g
  | one {g w : List Int} : Blank g → Txt [w] (g ++ w)
  | snoc {W : List (List Int)} {c g w : List Int} : Txt W c → W ≠ [] → g ≠ [] → Blank g → Txt (W ++ [w]) (c ++ g ++ w)
def Text (W : List (List Int)) (t : List Int) : Prop := ∃ c g, Txt W c ∧ Blank g ∧ t = c ++ g
theorem gapOf_cases (k : Int) : gapOf k = [32] ∨ gapOf k = [10] ∨ gapOf k = [32, 32] ∨ gapOf k = [9, 32] ∨ gapOf k = [10, 10] := by
  unfold gapOf
  by_cases h0 : k = 0
  · simp [h0]
  · by_cases h1 : k = 1
    · simp [h1]
    · by_cases h2 : k = 2
      · simp [h2]
      · by_cases h3 : k = 3
        · simp [h3]
        · simp [h0, h1, h2, h3]
theorem gapOf_ne (k : Int) : gapOf k ≠ [] := by rcases gapOf_cases k with h | h | h | h | h <;> simp [h]
theorem gapOf_blank (k : Int) : Blank (gapOf k) := by
  intro x hx
  rcases gapOf_cases k with h | h | h | h | h <;> rw [h] at hx <;> simp at hx <;> first | (subst hx; rfl) | (rcases hx with rfl | rfl <;> rfl)
theorem gapOf_length (k : Int) : (gapOf k).length ≤ 2 := by rcases gapOf_cases k with h | h | h | h | h <;> simp [h]
theorem blank_nil : Blank [] := fun _ h => nomatch h
theorem dI_get {news : List (Addr × Obj)} {vs : List Value} {W : List (List Int)} (h : DatAll news vs (W.map dI)) {k : Nat} {v : Value} (hv : vs[k]? = some v) :
    k < W.length ∧ ∃ a us n, v = .ref a ∧ (a, listOf us.toArray n) ∈ news ∧ IntsAre us (W.getD k []) := by
  have hl := h.length
  have hk : k < vs.length := by
    rcases Nat.lt_or_ge k vs.length with h | h
    · exact h
    · rw [List.getElem?_eq_none h] at hv; cases hv
  rw [List.length_map] at hl
  obtain ⟨u, hu, hd⟩ := h.get (k := k) (by rw [List.length_map]; omega)
  rw [hu] at hv
  cases hv
  refine ⟨by omega, ?_⟩
  rw [List.getElem_map] at hd
  rw [List.getD_eq_getElem?_getD, List.getElem?_eq_getElem (by omega)]
  exact dI_out hd
theorem abv_one {l D : Addr} {o o' : Obj} {fz : List (Addr × Obj)} (h : D < l) (hf : AllLt l fz) : Abv [(l, o)] ((D, o') :: fz) := by
  intro q hq p hp
  rw [List.mem_singleton.mp hq]
  rcases List.mem_cons.mp hp with rfl | hp
  · exact h
  · exact allLt_all hf p hp
theorem gapLen {vs : List Value} {k : Int} (_ : IntsAre vs (gapOf k)) : (gapOf k).length ≤ 2 := gapOf_length k
theorem allLt_right {d : Addr} : ∀ {own fz : List (Addr × Obj)}, AllLt d (own ++ fz) → AllLt d fz
  | [], _, h => h
  | _ :: own, _, h => allLt_right (own := own) h.2
theorem abv_cons {a D : Addr} {o o' : Obj} {own fz r : List (Addr × Obj)} (h : D < a) (hf : AllLt a (own ++ fz)) (hr : Abv r ((D, o) :: fz)) : Abv ((a, o') :: r) ((D, o) :: fz) := by
  intro q hq
  rcases List.mem_cons.mp hq with rfl | hq
  · exact List.forall_mem_cons.mpr ⟨h, allLt_all (allLt_right hf)⟩
  · exact hr q hq
theorem neI {I a : Nat} (h : I + 1 < a) : a ≠ I + 1 ∧ a ≠ I := ⟨Nat.ne_of_gt h, Nat.ne_of_gt (Nat.lt_of_succ_lt h)⟩
theorem txt_nil {W : List (List Int)} {c : List Int} (h : Txt W c) (e : W = []) : Blank c := by
  cases h with
  | nil hb => exact hb
  | one => cases e
  | snoc => simp at e
theorem take_step {W : List (List Int)} {i : Nat} (h : i < W.length) : W.take (i + 1) = W.take i ++ [W.getD i []] := by
  rw [List.take_add_one, List.getElem?_eq_getElem h]; simp [h]
theorem txt_more {W : List (List Int)} {c g : List Int} {i : Nat} (h : Txt (W.take i) c) (hi : i < W.length) (h0 : 0 < i) (hg : g ≠ []) (hb : Blank g) : Txt (W.take (i + 1)) (c ++ g ++ W.getD i []) := by
  rw [take_step hi]
  refine .snoc h (fun e => ?_) hg hb
  have := congrArg List.length e
  simp at this
  rcases this with h | h
  · omega
  · subst h; simp at hi
theorem txt_first {W : List (List Int)} {c : List Int} {i : Nat} (h : Txt (W.take i) c) (hi : i < W.length) (h0 : ¬ 0 < i) : Txt (W.take (i + 1)) (c ++ [] ++ W.getD i []) := by
  have e : i = 0 := by omega
  subst e
  rw [take_step hi, List.append_nil]
  exact .one (txt_nil h rfl)
structure WordOk (w : List Int) : Prop where
  ne : w ≠ []
  solid : ∀ x ∈ w, blank x = false
  short : w.length ≤ 2
theorem wordOf_ok (k : Int) : WordOk (wordOf k) := by
  have h : wordOf k = [97] ∨ wordOf k = [98, 98] ∨ wordOf k = [99, 97] ∨ wordOf k = [97, 97] := by
    unfold wordOf
    by_cases h0 : k = 0
    · simp [h0]
    · by_cases h1 : k = 1
      · simp [h1]
      · by_cases h2 : k = 2
        · simp [h2]
        · simp [h0, h1, h2]
  rcases h with h | h | h | h <;> rw [h] <;> refine ⟨by simp, ?_, by simp⟩ <;> intro x hx <;> simp at hx <;> first | (subst hx; rfl) | (rcases hx with rfl | rfl <;> rfl)
/-- a list of words, whichever -/
def WIn (news : List (Addr × Obj)) (us : List Value) : Prop := ∃ W : List (List Int), DatAll news us (W.map dI) ∧ (∀ w ∈ W, WordOk w) ∧ W.length = us.length
theorem WIn.nil {news : List (Addr × Obj)} : WIn news [] := ⟨[], .nil, (fun _ h => nomatch h), rfl⟩
theorem WIn.cons {news : List (Addr × Obj)} {us vs : List Value} {a n : Nat} {w : List Int} (hm : (a, listOf vs.toArray n) ∈ news) (hi : IntsAre vs w) (ok : WordOk w) (h : WIn news us) : WIn news (.ref a :: us) := by
  obtain ⟨W, h1, h2, h3⟩ := h
  exact ⟨w :: W, .cons (dI_in hm hi) h1, List.forall_mem_cons.mpr ⟨ok, h2⟩, by rw [List.length_cons, List.length_cons, h3]⟩
theorem WIn.append {news : List (Addr × Obj)} {us vs : List Value} (h : WIn news us) (k : WIn news vs) : WIn news (us ++ vs) := by
  obtain ⟨W, h1, h2, h3⟩ := h
  obtain ⟨V, k1, k2, k3⟩ := k
  refine ⟨W ++ V, ?_, List.forall_mem_append.mpr ⟨h2, k2⟩, by rw [List.length_append, List.length_append, h3, k3]⟩
  rw [List.map_append]
  exact h1.append k1
theorem WIn.mono {news news' : List (Addr × Obj)} {us : List Value} (h : WIn news us) (hs : ∀ p ∈ news, p ∈ news') : WIn news' us := by
  obtain ⟨W, h1, h2, h3⟩ := h
  exact ⟨W, h1.mono hs, h2, h3⟩
section
local macro_rules | `(tactic| walk_at "call ref") => `(tactic| ((with_reducible show wpAny _ _ (call (Value.ref 50) _) _ _ _); k_dflt (refine' t_draw ?B ?F ?X ?N ?T ?hk ?U ?hi ?hm ?hlen ?hdp ?hun ?_; (case B => k_asm); (case F => k_asm); (case X => k_asm); (case N => k_asm); (case T => k_asm); (case hk => first | exact rfl | assumption); (case U => ktr_unf); (case hi => k_asm); (case hm => decide); (case hlen => tb_start); (case hdp => tb_start); (case hun => tb_start)); intro u' its' n' h' tk' F' N' hi'; (try dsimp only [List.nil_append] at N'); (try k_sweep)))
local macro_rules | `(tactic| walk_at "call ref") => `(tactic| ((with_reducible show wpAny _ _ (call (Value.ref 64) _) _ _ _); k_dflt (refine' t_gap ?B ?F ?X ?N ?T ?hk ?U ?hi ?hlen ?hdp ?hun ?_; (case B => k_asm); (case F => k_asm); (case X => k_asm); (case N => k_asm); (case T => k_asm); (case hk => first | exact rfl | assumption); (case U => ktr_unf); (case hi => k_asm); (case hlen => tb_start); (case hdp => tb_start); (case hun => tb_start)); intro l' vs' its' n' h' tk' F' N' l1 hi' hv'; have hg' := gapLen hv'; (try dsimp only [List.nil_append, List.cons_append] at N'); (try k_lt l1); (try k_sweep)))
local macro_rules | `(tactic| walk_at "call ref") => `(tactic| ((with_reducible show wpAny _ _ (call (Value.ref 57) _) _ _ _); k_dflt (refine' t_word ?B ?F ?X ?N ?T ?hk ?U ?hi ?hlen ?hdp ?hun ?_; (case B => k_asm); (case F => k_asm); (case X => k_asm); (case N => k_asm); (case T => k_asm); (case hk => first | exact rfl | assumption); (case U => ktr_unf); (case hi => k_asm); (case hlen => tb_start); (case hdp => tb_start); (case hun => tb_start)); intro l' vs' its' n' h' tk' F' N' l1 hi' hv'; (try dsimp only [List.nil_append, List.cons_append] at N'); (try k_lt l1); (try k_sweep)))
section
local macro_rules | `(tactic| walk_at "subscriptTail") => `(tactic| (k_here; (with_reducible show wpAny _ _ (subscriptTail _ _ (Value.ref _) (Value.int (_ % _) _)) _ _ _); (with_unfolding_all refine' pickK ?k1 ?k3 ?k4 ?k5 ?_ ?k6; (case k1 => exact News.isList (by k_asm) (by ktr_rel)); (case k3 => exact Int.emod_nonneg _ (by decide)); (case k4 => (simp only [List.length_cons, List.length_nil]; omega)); (case k5 => omega); (case k6 => with_unfolding_all rfl)); (dsimp only [PickAt]); k_places; (all_goals (try k_fold))))
local macro_rules | `(tactic| walk_at "binaryOp Add ref ref") => `(tactic| (k_here; (with_reducible show wpAny _ _ (binaryOp _ (Value.ref _) (Value.ref _)) _ _ _); k_dflt (refine' add_ref ?F ?N ?a ?b ?z ?_; (case F => k_asm); (case N => k_asm); (case a => ktr_rel); (case b => ktr_rel); (case z => (simp only [List.length_cons, List.length_nil]; omega))); intro l' h' F' N' l1; (try k_lt l1); (try k_sweep)))
section
variable {w : World} {p : Program} {loose : List Str} {mean : ExcName → Option Value} {mg mb : Str → Option Value}
    {dp un : Nat} {gd : Option (List Code)} {cn : Str} {cs : Scope} {a : Addr} {ccd : Value} {cl : List (Str × Addr)} {outer : List Env} {A₀ : Around} {base h₀ : Heap} {L : Addr} {m : Str → Option Value} {s : Shared}
    {Q E : Value → Shared → Prop} {D n : Nat} {its : Array Value} {fz news : List (Addr × Obj)} {g : Obj → List (Addr × Obj) → List (Addr × Obj)} {xs : List Int} {W : List (List Int)}

def chJ (xs : List Int) (D : Addr) (vw : Value) (n₀ : List (Addr × Obj)) (fz : List (Addr × Obj)) (i : Nat) (m₁ : Str → Option Value) (n₁ : List (Addr × Obj)) : Prop :=
  ∃ (cl : Addr) (cvs : List Value) (k : Nat) (its' : Array Value) (n' : Nat) (xs' : List Int) (own : List (Addr × Obj)),
    m₁ "deck" = some (.ref D) ∧ m₁ "words" = some vw ∧ m₁ "found" = some (.ref cl) ∧ n₁ = (D, listOf its' n') :: (own ++ fz) ∧ Abv own n₀ ∧ (cl, listOf cvs.toArray k) ∈ own ∧ WIn (own ++ fz) cvs ∧ IntsAre its'.toList xs' ∧ xs'.length ≤ xs.length ∧
    cvs.length ≤ 2 * i

theorem t_changed0 
    {vw : Value} (B : Below A₀ base outer h₀) (F : Fr h₀ L s.heap m) (X : (Mine.hd.heap_39 w.params).In h₀) (N : News h₀ L s.heap ((D, listOf its n) :: fz)) (T : Top p loose mean mg mb h₀) (hk : cs.kind = .function)
    (hi : IntsAre its.toList xs) (hne : ∀ q ∈ fz, q.1 ≠ D) (hlen : xs.length ≤ 1000) (hw : DatIn fz vw (.list (W.map dI))) (hW : W.length ≤ 100) (hWl : ∀ w ∈ W, WordOk w) (hdp : dp < 880) (hun : un < 8800)
    (ret : ∀ l vs k (W' : List (List Int)) its' n' xs' own h' tk', Fr h₀ L h' m → News h₀ L h' ((D, listOf its' n') :: (own ++ fz)) → Abv own ((D, listOf its n) :: fz) → (l, listOf vs.toArray k) ∈ own → DatAll (own ++ fz) vs (W'.map dI) → (∀ w ∈ W', WordOk w) → W'.length ≤ 2 * W.length → IntsAre its'.toList xs' → xs'.length ≤ xs.length → Q (.ref l) { s with heap := h', toks := tk' }) :
    wpAny (model PySem.Challenge.rw_pq0274_01.row.prog w) (ktrTop dp un gd cn cs L a ccd cl outer) (call (.ref 78) [.ref D, vw]) Q E s := by
  w_top off; revert X; k_fill; intro X
  obtain ⟨wl, wvs, wn, rfl, hwm, hwd⟩ := dL_out hw
  have hwl := hwd.length
  rw [List.length_map] at hwl
  refine wpAny_call ?_
  k_dflt ktr_enter
  refine wpAny_noRaise ?_
  k_steps
  refine Hold.mk ?_
  rename Fr _ _ _ (fun _ => _) => F3
  refine For_turns F3 ?_
  k_steps
  refine Hold.mk ?_
  rename Fr _ _ _ (fun _ => _) => F4
  rename News _ _ _ ((_, listOf #[] 0) :: _) => N4
  rename _ ∧ AllLt _ _ => hl9
  refine for_inv (vs := wvs) (n := wn) (chJ xs D (.ref wl) ((D, listOf its n) :: fz) fz) rfl F4 (nsub N4 (sub3 (.tail _ (.head _)) (.head _) fun p hp => .tail _ (.tail _ hp))) ⟨_, [], 0, its, n, xs, [_], rfl, rfl, rfl, rfl, abv_one hl9.1 hl9.2, .head _, WIn.nil, hi, Nat.le_refl _, Nat.le_refl _⟩ ?keep ?turn ?done
  case keep =>
    rintro i m₁ n₁ ⟨cl, cvs, k, its', n', xs', own, g1, g2, g3, rfl, hab, hcm, hcd, hid, hxl, hcl⟩
    exact .tail _ (List.mem_append_right _ hwm)
  case done =>
    clear N4 F4
    rintro m₁ n₁ h tk' ⟨cl, cvs, k, its', n', xs', own, g1, g2, g3, rfl, hab, hcm, hcd, hid, hxl, hcl⟩ F₁ N₁
    have F₂ := fr3 F₁ g1 g2 g3
    clear F₁ g1 g2 g3
    have hnD := abv_ne hab (.head _)
    k_steps
    rename Fr h₀ L _ m => kF
    rename News h₀ L _ _ => kN
    obtain ⟨W', hd1, hd2, hd3⟩ := hcd
    exact ret _ _ _ W' _ _ _ own _ _ kF kN hab hcm hd1 hd2 (by omega) hid hxl
  case turn =>
    clear N4 F4
    rintro I hI i v m₁ n₁ h tk' o1 hv ⟨cl, cvs, k, its', n', xs', own, g1, g2, g3, rfl, hab, hcm, hcd, hid, hxl, hcl⟩ F₁ N₁ hnI
    obtain ⟨hi', wi, wus, wn', rfl, hwm', hwd'⟩ := dI_get hwd hv
    have hnD := abv_ne hab (.head _)
    have hok := hWl _ (getD_mem (d := []) hi')
    have hDI := ltN (hI (D, _) (.head _))
    dsimp only at hDI
    have F₂ := fr3 F₁ g1 g2 g3
    clear F₁ g1 g2 g3
    k_steps
    all_goals (
      rename_i lA vsA _ _ _ _ _ hA l1A _ _ _ _ _ _ lB vsB itsB nB _ _ hiB hB l1B _ _ _ _ _ _ hPk lF _ l1F _ F9 N9
      (repeat (rename _ ∧ _ => hc9; obtain ⟨_, _⟩ := hc9))
      refine ForE.intro (news' := (D, listOf itsB nB) :: (((lF, _) :: (lB, listOf vsB.toArray 0) :: (lA, listOf vsA.toArray 0) :: own) ++ fz)) F9 (nsub N9 (by kqd_sub)) ?_ ⟨lF, _, 0, itsB, nB, _, (lF, _) :: (lB, listOf vsB.toArray 0) :: (lA, listOf vsA.toArray 0) :: own, rfl, rfl, rfl, rfl, abv_cons (by assumption) (by assumption) (abv_cons (by assumption) (by assumption) (abv_cons (by assumption) (by assumption) hab)), .head _, ?_, hiB, by simp only [List.length_tail]; omega, by simp only [List.length_append, List.length_cons, List.length_nil]; omega⟩
      · exact List.forall_mem_cons.mpr ⟨hnI (D, listOf its' n') (.head _), List.forall_mem_append.mpr ⟨List.forall_mem_cons.mpr ⟨Nat.ne_of_gt (by assumption), List.forall_mem_cons.mpr ⟨Nat.ne_of_gt (by assumption), List.forall_mem_cons.mpr ⟨Nat.ne_of_gt (by assumption), fun p hp => hnI p (.tail _ (List.mem_append_left _ hp))⟩⟩⟩, fun p hp => hnI p (.tail _ (List.mem_append_right _ hp))⟩⟩
      · refine (hcd.mono (by kqd_sub)).append ?_
        repeat (first | exact WIn.nil | refine WIn.cons (by ktr_rel) (by assumption) (by first | assumption | exact wordOf_ok _) ?_))
end
end
section
local macro_rules | `(tactic| walk_at "binaryOp Add ref ref") => `(tactic| (k_here; (with_reducible show wpAny _ _ (binaryOp _ (Value.ref _) (Value.ref _)) _ _ _); k_dflt (refine' kmk_add_ints ?F ?N ?a ?b ?i ?j ?_ ?z; (case F => k_asm); (case N => k_asm); (case a => exact News.isList (by k_asm) (by ktr_rel)); (case b => exact News.isList (by k_asm) (by ktr_rel)); (case i => first | k_asm | exact IntsAre.nil); (case j => first | k_asm | exact IntsAre.nil); (case z => (simp only [sizeLine_eq, List.length_append, List.length_nil]; omega))); intro D' ws' h' F' N' l1 hI'; (try k_lt l1); (try k_sweep)))
section
local macro_rules | `(tactic| walk_at "call type:enumerate cons nil") => `(tactic| refine Hold.out ?_)
local macro_rules | `(tactic| walk_at "call type:enumerate") => `(tactic| refine Hold.out ?_)
section
variable {w : World} {p : Program} {loose : List Str} {mean : ExcName → Option Value} {mg mb : Str → Option Value}
    {dp un : Nat} {gd : Option (List Code)} {cn : Str} {cs : Scope} {a : Addr} {ccd : Value} {cl : List (Str × Addr)} {outer : List Env} {A₀ : Around} {base h₀ : Heap} {L : Addr} {m : Str → Option Value} {s : Shared}
    {Q E : Value → Shared → Prop} {D n : Nat} {its : Array Value} {fz news : List (Addr × Obj)} {g : Obj → List (Addr × Obj) → List (Addr × Obj)} {xs : List Int} {W : List (List Int)}

def txX (xs : List Int) (D : Addr) (vw : Value) (n₀ : List (Addr × Obj)) (fz : List (Addr × Obj)) (m₁ : Str → Option Value) (n₁ : List (Addr × Obj)) : Prop :=
  ∃ (cl : Addr) (cvs : List Value) (k : Nat) (c : List Int) (its' : Array Value) (n' : Nat) (xs' : List Int) (own : List (Addr × Obj)),
    m₁ "deck" = some (.ref D) ∧ m₁ "words" = some vw ∧ m₁ "codes" = some (.ref cl) ∧ n₁ = (D, listOf its' n') :: (own ++ fz) ∧ Abv own n₀ ∧ (cl, listOf cvs.toArray k) ∈ own ∧ IntsAre cvs c ∧ IntsAre its'.toList xs' ∧ xs'.length ≤ xs.length ∧
    Blank c ∧ c.length ≤ 2
def txJ (W : List (List Int)) (xs : List Int) (D : Addr) (vw : Value) (n₀ : List (Addr × Obj)) (fz : List (Addr × Obj)) (i : Nat) (m₁ : Str → Option Value) (n₁ : List (Addr × Obj)) : Prop :=
  ∃ (cl : Addr) (cvs : List Value) (k : Nat) (c : List Int) (its' : Array Value) (n' : Nat) (xs' : List Int) (own : List (Addr × Obj)),
    m₁ "deck" = some (.ref D) ∧ m₁ "words" = some vw ∧ m₁ "codes" = some (.ref cl) ∧ n₁ = (D, listOf its' n') :: (own ++ fz) ∧ Abv own n₀ ∧ (cl, listOf cvs.toArray k) ∈ own ∧ IntsAre cvs c ∧ IntsAre its'.toList xs' ∧ xs'.length ≤ xs.length ∧
    Txt (W.take i) c ∧ c.length ≤ 2 + 4 * i

theorem t_text0 
    {vw : Value} (B : Below A₀ base outer h₀) (F : Fr h₀ L s.heap m) (X : (Mine.hd.heap_39 w.params).In h₀) (N : News h₀ L s.heap ((D, listOf its n) :: fz)) (T : Top p loose mean mg mb h₀) (hk : cs.kind = .function)
    (hi : IntsAre its.toList xs) (hne : ∀ q ∈ fz, q.1 ≠ D) (hlen : xs.length ≤ 1000) (hw : DatIn fz vw (.list (W.map dI))) (hW : W.length ≤ 100) (hWl : ∀ w ∈ W, w.length ≤ 2) (hdp : dp < 880) (hun : un < 8800)
    (ret : ∀ l vs k t its' n' xs' own h' tk', Fr h₀ L h' m → News h₀ L h' ((D, listOf its' n') :: (own ++ fz)) → Abv own ((D, listOf its n) :: fz) → (l, listOf vs.toArray k) ∈ own → IntsAre vs t → IntsAre its'.toList xs' → xs'.length ≤ xs.length → Text W t → t.length ≤ 4 + 4 * W.length → Q (.ref l) { s with heap := h', toks := tk' }) :
    wpAny (model PySem.Challenge.rw_pq0274_01.row.prog w) (ktrTop dp un gd cn cs L a ccd cl outer) (call (.ref 71) [.ref D, vw]) Q E s := by
  w_top off; revert X; k_fill; intro X
  obtain ⟨wl, wvs, wn, rfl, hwm, hwd⟩ := dL_out hw
  have hwl := hwd.length
  rw [List.length_map] at hwl
  refine wpAny_call ?_
  k_dflt ktr_enter
  refine wpAny_noRaise ?_
  refine wpAny_execs_cons ?_
  rename Fr _ _ _ (fun _ => _) => F1
  refine stmt_mid F1 (txX xs D (.ref wl) ((D, listOf its n) :: fz) fz) ?_ ?_
  · k_steps
    · rename Fr _ _ _ (fun _ => _) => F9
      rename News _ _ _ _ => N9
      rename IntsAre _ (gapOf _) => hv9
      rename IntsAre _ xs.tail.tail => hi9
      rename _ ∧ AllLt _ _ => hl9
      exact MidE.intro F9 N9 ⟨_, _, 0, _, _, _, _, [_], rfl, rfl, rfl, rfl, abv_one hl9.1 hl9.2, .head _, hv9, hi9, by simp only [List.length_tail]; omega, gapOf_blank _, gapOf_length _⟩
    · rename Fr _ _ _ (fun _ => _) => F9
      rename News _ _ _ ((_, listOf #[] 0) :: _) => N9
      rename IntsAre _ xs.tail => hi9
      rename _ ∧ AllLt _ _ => hl9
      exact MidE.intro F9 (nsub N9 (sub3 (.tail _ (.head _)) (.head _) fun p hp => .tail _ (.tail _ hp))) ⟨_, [], 0, [], _, _, _, [_], rfl, rfl, rfl, rfl, abv_one hl9.1 hl9.2, .head _, .nil, hi9, by simp only [List.length_tail]; omega, blank_nil, Nat.zero_le _⟩
  · clear F1
    rintro m₁ n₁ h₁ tk₁ F₁ N₁ ⟨cl, cvs, k, c, its', n', xs', own, g1, g2, g3, rfl, hab, hcm, hcd, hid, hxl, hbl, hcl⟩
    have F₂ := fr3 F₁ g1 g2 g3
    clear F₁ g1 g2 g3
    k_steps
    refine Hold.mk ?_
    rename Fr _ _ _ (fun _ => _) => F3
    refine For_turns F3 ?_
    k_steps
    refine Hold.mk ?_
    rename Fr _ _ _ (fun _ => _) => F4
    rename News _ _ _ _ => N4
    refine for_enum (vs := wvs) (n := wn) (txJ W xs D (.ref wl) ((D, listOf its n) :: fz) fz) rfl F4 N4 ⟨cl, cvs, k, c, its', n', xs', own, rfl, rfl, rfl, rfl, hab, hcm, hcd, hid, hxl, .nil hbl, by omega⟩ ?keep ?turn ?done
    case keep =>
      rintro i m₁ n₁ ⟨cl, cvs, k, c, its', n', xs', own, g1, g2, g3, rfl, hab, hcm, hcd, hid, hxl, hbl, hcl⟩
      exact .tail _ (List.mem_append_right _ hwm)
    case done =>
      clear N4 F4 hab hcm hcd hid hxl hbl hcl
      rintro m₁ n₁ h tk' ⟨cl, cvs, k, c, its', n', xs', own, g1, g2, g3, rfl, hab, hcm, hcd, hid, hxl, hbl, hcl⟩ F₁ N₁
      have F₂ := fr3 F₁ g1 g2 g3
      clear F₁ g1 g2 g3
      have hnD := abv_ne hab (.head _)
      rw [hwl, List.take_length] at hbl
      rw [hwl] at hcl
      k_steps
      · rename Fr h₀ L _ m => kF
        rename News h₀ L _ _ => kN
        rename IntsAre _ (_ ++ _) => hI9
        rename IntsAre _ xs'.tail.tail => hi9
        (repeat (rename _ ∧ _ => hc9; obtain ⟨_, _⟩ := hc9))
        exact ret _ _ 0 _ _ _ _ ((_, _) :: (_, _) :: own) _ _ kF (nsub kN (by kqd_sub)) (abv_cons (by assumption) (by assumption) (abv_cons (by assumption) (by assumption) hab)) (.head _) hI9 hi9 (by simp only [List.length_tail]; omega) ⟨c, _, hbl, gapOf_blank _, rfl⟩ (by simp only [List.length_append]; omega)
      · rename Fr h₀ L _ m => kF
        rename News h₀ L _ _ => kN
        rename IntsAre _ (_ ++ _) => hI9
        rename IntsAre _ xs'.tail => hi9
        (repeat (rename _ ∧ _ => hc9; obtain ⟨_, _⟩ := hc9))
        exact ret _ _ 0 _ _ _ _ ((_, _) :: own) _ _ kF (nsub kN (by kqd_sub)) (abv_cons (by assumption) (by assumption) hab) (.head _) hI9 hi9 (by simp only [List.length_tail]; omega) ⟨c, _, hbl, blank_nil, rfl⟩ (by simp only [List.length_append, List.length_nil]; omega)
    case turn =>
      clear N4 F4 hab hcm hcd hid hxl hbl hcl
      rintro I hI i v m₁ n₁ h tk' o1 o2 T t hv ⟨cl, cvs, k, c, its', n', xs', own, g1, g2, g3, rfl, hab, hcm, hcd, hid, hxl, hbl, hcl⟩ F₁ hT N₁ hnI
      obtain ⟨hi', wi, wus, wn', rfl, hwm', hwd'⟩ := dI_get hwd hv
      have hnD := abv_ne hab (.head _)
      have hWi : (W.getD i []).length ≤ 2 := hWl _ (getD_mem hi')
      have hDI := ltN (hI (D, _) (.head _))
      dsimp only at hDI
      have F₂ := fr3 F₁ g1 g2 g3
      clear F₁ g1 g2 g3
      k_steps
      · rename Fr _ _ _ (fun _ => _) => F9
        rename News _ _ _ _ => N9
        rename IntsAre _ (_ ++ _ ++ _) => hI9
        rename IntsAre _ xs'.tail => hi9
        (repeat (rename _ ∧ _ => hc9; obtain ⟨_, _⟩ := hc9))
        refine ForE2.intro F9 (nsub N9 (by kqd_sub)) ?_ ⟨_, _, 0, _, _, _, _, (_, _) :: (_, _) :: (_, _) :: own, rfl, rfl, rfl, rfl, abv_cons (by assumption) (by assumption) (abv_cons (by assumption) (by assumption) (abv_cons (by assumption) (by assumption) hab)), .head _, hI9, hi9, by simp only [List.length_tail]; omega, txt_more hbl hi' (by omega) (gapOf_ne _) (gapOf_blank _), by simp only [List.length_append]; omega⟩
        exact List.forall_mem_cons.mpr ⟨hnI (D, listOf its' n') (.head _), List.forall_mem_append.mpr ⟨List.forall_mem_cons.mpr ⟨neI (by assumption), List.forall_mem_cons.mpr ⟨neI (by assumption), List.forall_mem_cons.mpr ⟨neI (by assumption), fun p hp => hnI p (.tail _ (List.mem_append_left _ hp))⟩⟩⟩, fun p hp => hnI p (.tail _ (List.mem_append_right _ hp))⟩⟩
      · rename Fr _ _ _ (fun _ => _) => F9
        rename News _ _ _ _ => N9
        rename IntsAre _ (_ ++ _ ++ _) => hI9
        (repeat (rename _ ∧ _ => hc9; obtain ⟨_, _⟩ := hc9))
        refine ForE2.intro F9 (nsub N9 (by kqd_sub)) ?_ ⟨_, _, 0, _, _, _, _, (_, _) :: (_, _) :: own, rfl, rfl, rfl, rfl, abv_cons (by assumption) (by assumption) (abv_cons (by assumption) (by assumption) hab), .head _, hI9, hid, hxl, txt_first hbl hi' (by omega), by simp only [List.length_append, List.length_nil]; omega⟩
        exact List.forall_mem_cons.mpr ⟨hnI (D, listOf its' n') (.head _), List.forall_mem_append.mpr ⟨List.forall_mem_cons.mpr ⟨neI (by assumption), List.forall_mem_cons.mpr ⟨neI (by assumption), fun p hp => hnI p (.tail _ (List.mem_append_left _ hp))⟩⟩, fun p hp => hnI p (.tail _ (List.mem_append_right _ hp))⟩⟩
end
end
/-- an edit that touches no word -/
structure Clean (xs : List Int) (p : Int × Int × List Int) : Prop where
  lo : 0 ≤ p.1
  mid : p.1 ≤ p.2.1
  hi : p.2.1 ≤ xs.length
  gone : Blank (cut xs p.1 p.2.1)
  put : Blank p.2.2
  edge : 0 < p.1 → p.1 < xs.length → blank (xs.getD (p.1 - 1).toNat 0) = true ∨ blank (xs.getD p.1.toNat 0) = true
theorem d3_get {news : List (Addr × Obj)} {vs : List Value} {K : List (Int × Int × List Int)} (h : DatAll news vs (K.map d3)) {k : Nat} {v : Value} (hv : vs[k]? = some v) : k < K.length ∧ DatIn news v (d3 (K.getD k (0, 0, []))) := by
  have hl := h.length
  have hk : k < vs.length := by
    rcases Nat.lt_or_ge k vs.length with h | h
    · exact h
    · rw [List.getElem?_eq_none h] at hv; cases hv
  rw [List.length_map] at hl
  obtain ⟨u, hu, hd⟩ := h.get (k := k) (by rw [List.length_map]; omega)
  rw [hu] at hv
  cases hv
  refine ⟨by omega, ?_⟩
  rw [List.getElem_map] at hd
  rw [List.getD_eq_getElem?_getD, List.getElem?_eq_getElem (by omega)]
  exact hd
theorem d3_out {news : List (Addr × Obj)} {v : Value} {p : Int × Int × List Int} (h : DatIn news v (d3 p)) : ∃ a c cvs n1 n t1 t2, v = .ref a ∧ (a, tupOf [.int p.1 t1, .int p.2.1 t2, .ref c] n) ∈ news ∧ (c, listOf cvs.toArray n1) ∈ news ∧ IntsAre cvs p.2.2 := by
  cases h with
  | tuple hm r =>
    cases r with
    | cons h1 r =>
      cases r with
      | cons h2 r =>
        cases r with
        | cons h3 r =>
          cases r
          obtain ⟨c, cvs, n1, rfl, hc, hi⟩ := dI_out h3
          cases h1; cases h2
          exact ⟨_, _, _, _, _, _, _, rfl, hm, hc, hi⟩
section
variable {prog : Program} {w : World} {A : Around} {E : Value → Shared → Prop} {s : Shared} {env : Env} {h₀ : Heap} {L : Addr} {m : Str → Option Value} {news : List (Addr × Obj)}
/-- a comprehension's block whose test lets no item by -/
theorem comp_none {l n : Nat} {vs : List Value} {x : Str} {ifs : List PySem.Expr} {elt : PySem.Expr} {scope : Scope} {Q : Value → Shared → Prop} (hh : A.handled = none) (F : Fr h₀ L s.heap m) (N : News h₀ L s.heap news) (hm : (l, listOf vs.toArray n) ∈ news) (hz : vs.length ≤ 1000000)
    (tests : ∀ C v s₃ m₃ E', v ∈ vs → s₃.heap.Ns C m₃ → m₃ x = some v →
      wpAny (model prog w) A (forIn ifs true fun c r => if r = true then do let ok ← isTrue c (compEnv scope C env) (eval c (compEnv scope C env)); pure (ForInStep.yield ok) else pure (ForInStep.yield r)) (fun ok s₄ => ok = false ∧ Keeps s₃ s₄) E' s₃)
    (h : ∀ D k h' tk, Fr h₀ L h' m → News h₀ L h' ((D, listOf #[] k) :: news) → (∀ p ∈ news, p.1 ≠ D) → Q (.ref D) { s with heap := h', toks := tk }) :
    wpAny (model prog w) A (pyIter (.ref l)) (fun it s₂ => ∃ I fp wr n P St, it = .ref I ∧ Walks prog w A I fp wr n P St ∧ n ≤ sizeLine ∧ St 0 s₂.heap ∧ (∀ b ∈ fp, b < s₂.heap.objs.size) ∧
      QuietOn prog w A env scope x ifs elt wr P (fun _ => false) (fun _ _ => True) s₂ ∧
      (∀ D h' tk ys (vs : List Value), s₂.heap.get? D = none → h'.IsList D ys → h'.PlainList D ys → vs.length = n → (∀ j v, vs[j]? = some v → P j v) → Paired (fun _ _ => True) (vs.filter fun _ => false) ys.toList →
        (∀ b o, b ∉ wr → s₂.heap.get? b = some o → h'.get? b = some o) → Q (.ref D) { s₂ with heap := h', toks := tk })) E s := by
  have hl := News.isList N hm
  have hlt : l < s.heap.objs.size := Heap.lt_size (N _ hm).1
  have hne : l ≠ s.heap.objs.size := Nat.ne_of_lt hlt
  refine wpAny_pyIter_list hl ?_
  refine ⟨_, _, _, _, _, _, rfl, Walks.list hh s.heap.objs.size l hne vs.toArray, ?_, ⟨⟨_, Heap.get?_push_size _ rfl, rfl, rfl⟩, hl.at fun o e => Heap.get?_push_of_some _ e⟩, ?_, ⟨?_, ?_⟩, ?_⟩
  · rw [List.size_toArray, sizeLine_eq]; omega
  · intro b hb
    simp only [Heap.size_push]
    rcases List.mem_cons.mp hb with rfl | hb
    · exact Nat.lt_succ_self _
    · rw [List.mem_singleton.mp hb]; exact Nat.lt_succ_of_lt hlt
  · intro C i v s₃ m₃ E' hP hn hmx _ _
    have hv : vs[i]? = some v := by simpa using hP
    exact tests C v s₃ m₃ E' (List.mem_of_getElem? hv) hn hmx
  · intro C i v s₃ m₃ E' hP hp
    cases hp
  · intro D h' tk ys us hD _ hpl _ _ hPr hk
    have hf : us.filter (fun _ => false) = [] := by simp
    rw [hf] at hPr
    have hys : ys = #[] := by
      have := hPr.length
      apply Array.eq_empty_of_size_eq_zero
      simpa using this.symm
    subst hys
    obtain ⟨k, hk'⟩ := hpl
    have keep : ∀ b o, s.heap.get? b = some o → h'.get? b = some o := fun b o e => hk b o (fun hb => by rw [List.mem_singleton.mp hb] at e; exact absurd (Heap.lt_size e) (Nat.lt_irrefl _)) (Heap.get?_push_of_some _ e)
    have hDn : ∀ b o, s.heap.get? b = some o → b ≠ D := fun b o e q => by
      rw [q] at e
      rw [Heap.get?_push_of_some _ e] at hD
      cases hD
    refine h D k h' tk (F.keeps keep) ?_ fun p hp => hDn p.1 p.2 (N p hp).1
    refine List.forall_mem_cons.mpr ⟨⟨hk', ?_, ?_⟩, fun p hp => ⟨keep _ _ (N p hp).1, (N p hp).2⟩⟩
    · obtain ⟨oL, _, _, hL, _⟩ := F.ns
      exact fun q => hDn L oL hL q.symm
    · cases q : h₀.get? D with
      | none => rfl
      | some o => exact absurd rfl (hDn D o (F.keep _ _ q))
end
theorem ints_mem {vs : List Value} {xs : List Int} (h : IntsAre vs xs) : ∀ {v : Value}, v ∈ vs → ∃ x t, v = .int x t ∧ x ∈ xs := by
  induction h with
  | nil => intro v hv; cases hv
  | cons n t _ ih =>
    intro v hv
    rcases List.mem_cons.mp hv with rfl | hv
    · exact ⟨n, t, rfl, .head _⟩
    · obtain ⟨x, t', e, hx⟩ := ih hv
      exact ⟨x, t', e, .tail _ hx⟩
theorem notin_fresh {prog : Program} {w : World} {A : Around} {E : Value → Shared → Prop} {s : Shared} {x : Int} {u t1 t2 t3 : Tok} {Q : Value → Shared → Prop}
    (h : ∀ h' tk, (∀ b o, s.heap.get? b = some o → h'.get? b = some o) → Q (.bool (!blank x)) { s with heap := h', toks := tk }) :
    wpAny (model prog w) A (newTuple [.int 9 t1, .int 10 t2, .int 32 t3]) (fun b s₂ => wpAny (model prog w) A (compareOp .NotIn (.int x u) b) Q E s₂) E s := by
  refine wpAny_newObj_type ?_ (by show 3 ≤ sizeLine; rw [sizeLine_eq]; omega)
  refine notin_tuple_ints (ns := [9, 10, 32]) ⟨_, Heap.get?_push_size _ rfl, rfl, 0, rfl⟩ (.cons _ _ (.cons _ _ (.cons _ _ .nil))) ?_
  rw [any_blank]
  exact h _ s.toks fun b o e => Heap.get?_push_of_some _ e
section
variable {prog : Program} {w : World} {A : Around} {E : Value → Shared → Prop} {s : Shared} {env : Env}
def CompN (prog : Program) (w : World) (A : Around) (env : Env) (h₀ : Heap) (L : Addr) (scope : Scope) (x : Str) (ifs : List PySem.Expr) (Q : Value → Shared → Prop) (xv : Value) (s₁ : Shared) : Prop :=
  ∃ (l n : Nat) (vs : List Value) (m : Str → Option Value) (news : List (Addr × Obj)), xv = .ref l ∧ Fr h₀ L s₁.heap m ∧ News h₀ L s₁.heap news ∧ (l, listOf vs.toArray n) ∈ news ∧ vs.length ≤ 1000000 ∧
    (∀ C v s₃ m₃ E', v ∈ vs → s₃.heap.Ns C m₃ → m₃ x = some v →
      wpAny (model prog w) A (forIn ifs true fun c r => if r = true then do let ok ← isTrue c (compEnv scope C env) (eval c (compEnv scope C env)); pure (ForInStep.yield ok) else pure (ForInStep.yield r)) (fun ok s₄ => ok = false ∧ Keeps s₃ s₄) E' s₃) ∧
    (∀ D k h' tk, Fr h₀ L h' m → News h₀ L h' ((D, listOf #[] k) :: news) → (∀ p ∈ news, p.1 ≠ D) → Q (.ref D) { s₁ with heap := h', toks := tk })
theorem comp_none_eval {h₀ : Heap} {L : Addr} {m₀ : Str → Option Value} {elt iter : PySem.Expr} {x : Str} {px : Pos} {ifs : List PySem.Expr} {scope : Scope} {pos : Pos} {Q : Value → Shared → Prop} (_F : Fr h₀ L s.heap m₀) (hh : A.handled = none)
    (hfree : ∀ y ∈ scope.names, y.2 ≠ .free) (hcell : ∀ y ∈ scope.names, y.2 ≠ .cell) (hkind : scope.kind = .function)
    (hnames : ∀ y ∈ scope.names, y.2 = .local → scope.names.lookup y.1 = some .local) (hx : scope.names.lookup x = some .local)
    (h : wpAny (model prog w) A (eval iter env) (CompN prog w A env h₀ L scope x ifs Q) E s)
    (hs : ∀ x, foldedSetIterable iter env x = pure x := by intro _; rfl) :
    wpAny (model prog w) A (eval (.ListComp elt [⟨.Name x px, iter, ifs, 0⟩] scope pos) env) Q E s := by
  refine wpAny_ListComp_walk (fun _ => false) (fun _ _ => True) hfree hcell hkind hnames hx (wpAny_mono h (fun xv s₁ h₁ => ?_) fun _ _ e => e) hs
  obtain ⟨l, n, vs, m, news, rfl, F, N, hm, hz, tests, fin⟩ := h₁
  exact comp_none hh F N hm hz tests fin
end
section
local macro_rules | `(tactic| walk_at "eval ListComp") => `(tactic| refine Hold.out ?_)

local macro_rules | `(tactic| walk_at "no such key") => `(tactic| fail)
local macro_rules | `(tactic| walk_at "no such key") => `(tactic| fail)
section
variable {w : World} {p : Program} {loose : List Str} {mean : ExcName → Option Value} {mg mb : Str → Option Value}
    {dp un : Nat} {gd : Option (List Code)} {cn : Str} {cs : Scope} {a : Addr} {ccd : Value} {cl : List (Str × Addr)} {outer : List Env} {A₀ : Around} {base h₀ : Heap} {L : Addr} {m : Str → Option Value} {s : Shared}
    {Q E : Value → Shared → Prop} {n : Nat} {news : List (Addr × Obj)} {xs : List Int} {K : List (Int × Int × List Int)}

def toJ (vo ve : Value) (news : List (Addr × Obj)) (_i : Nat) (m₁ : Str → Option Value) (n₁ : List (Addr × Obj)) : Prop :=
  m₁ "old" = some vo ∧ m₁ "edits" = some ve ∧ n₁ = news

theorem t_touched 
    {vo ve : Value} (B : Below A₀ base outer h₀) (F : Fr h₀ L s.heap m) (X : (Mine.hd.heap_39 w.params).In h₀) (N : News h₀ L s.heap news) (T : Top p loose mean mg mb h₀) (hk : cs.kind = .function)
    (hvo : DatIn news vo (dI xs)) (hve : DatIn news ve (.list (K.map d3))) (hlx : xs.length ≤ 1000) (hcl : ∀ p ∈ K, Clean xs p) (hlc : ∀ p ∈ K, p.2.2.length ≤ 1000) (hdp : dp < 880) (hun : un < 8800)
    (ret : ∀ own h' tk', Fr h₀ L h' m → News h₀ L h' (own ++ news) → Q (.bool false) { s with heap := h', toks := tk' }) :
    wpAny (model PySem.Challenge.rw_pq0274_01.row.prog w) (ktrTop dp un gd cn cs L a ccd cl outer) (call (.ref 83) [vo, ve]) Q E s := by
  w_top off; revert X; k_fill; intro X
  obtain ⟨o, os, no, rfl, ho, hio⟩ := dI_out hvo
  obtain ⟨el, evs, en, rfl, hem, hed⟩ := dL_out hve
  have hol := IntsAre.length hio
  have hel := hed.length
  rw [List.length_map] at hel
  refine wpAny_call ?_
  k_dflt ktr_enter
  refine wpAny_noRaise ?_
  k_steps
  refine Hold.mk ?_
  rename Fr _ _ _ (fun _ => _) => F1
  refine For_turns F1 ?_
  k_steps
  refine Hold.mk ?_
  rename Fr _ _ _ (fun _ => _) => F1
  rename News _ _ _ _ => N1
  refine for_inv (vs := evs) (n := en) (toJ (.ref o) (.ref el) news) rfl F1 N1 ⟨rfl, rfl, rfl⟩ ?keep ?turn ?done
  case keep =>
    rintro i m₁ n₁ ⟨g1, g2, rfl⟩
    exact hem
  case done =>
    clear N1 F1
    rintro m₁ n₁ h tk' ⟨g1, g2, rfl⟩ F₁ N₁
    have F₂ := fr2 F₁ g1 g2
    clear F₁ g1 g2
    k_steps
    rename Fr h₀ L _ m => kF
    rename News h₀ L _ _ => kN
    exact ret [] _ _ kF kN
  case turn =>
    clear N1 F1
    rintro I hI i v m₁ n₁ h tk' oI hv ⟨g1, g2, rfl⟩ F₁ N₁ hne
    obtain ⟨hi', hp⟩ := d3_get hed hv
    have hc9 := hcl _ (getD_mem (d := (0, 0, [])) hi')
    have hl9 := hlc _ (getD_mem (d := (0, 0, [])) hi')
    generalize K.getD i (0, 0, []) = q at hp hc9 hl9
    obtain ⟨b, e, cd⟩ := q
    obtain ⟨T, c, cvs, n1, eT, t1, t2, rfl, hT, hc, hic⟩ := d3_out hp
    have hcvl := IntsAre.length hic
    obtain ⟨z1, z2, z3, z4, z5, z6⟩ := hc9
    dsimp only at hT hic z1 z2 z3 z4 z5 z6 hl9 hcvl
    have F₂ := fr2 F₁ g1 g2
    clear F₁ g1 g2
    k_steps
    refine Hold.mk ?_
    rename Fr _ _ _ (fun _ => _) => F3
    rename News _ _ _ _ => N3
    refine comp_none_eval F3 rfl (by decide) (by decide) rfl (by decide) rfl ?_
    k_steps
    rename Fr _ _ _ (fun _ => _) => F3
    rename News _ _ _ _ => N3
    rename IntsAre _ (_ ++ _) => hI3
    have hbl : Blank ((xs.drop b.toNat).take (min e.toNat xs.length - b.toNat) ++ cd) := List.forall_mem_append.mpr ⟨z4, z5⟩
    have hle3 := IntsAre.length hI3
    rw [List.length_append] at hle3
    refine ⟨_, _, _, _, _, rfl, F3, N3, .head _, by omega, ?_, ?_⟩
    · intro C v s₃ m₃ E' hv' hn' hm'
      obtain ⟨x, t, rfl, hx⟩ := ints_mem hI3 hv'
      have hbx := hbl x hx
      refine wpAny_tests_one ?_
      clear hbl hI3 N3 F3 hle3
      k_steps
      refine notin_fresh fun h' tk hk => ?_
      rw [hbx]
      exact wpAny_truthy_bool ⟨rfl, h', tk, rfl, hk⟩
    · intro D k h3 tk3 F4 N4 hD
      clear F3 N3
      show wpAny _ _ _ _ _ { s with heap := _, toks := _ }
      k_steps
      all_goals first
        | (rename News _ _ _ _ => N9; rename Fr _ _ _ (fun _ => _) => F9; exact ForE.intro F9 (nsub N9 (by kqd_sub)) hne ⟨rfl, rfl, rfl⟩)
        | skip
      have hq1 : blank (xs.getD (b - 1).toNat 0) = false := (any_blank _).symm.trans (by assumption)
      have hq2 : blank (xs.getD b.toNat 0) = false := (any_blank _).symm.trans (by assumption)
      rcases z6 (by assumption) (by assumption) with hq | hq
      · rw [hq] at hq1; cases hq1
      · rw [hq] at hq2; cases hq2
end
end
section
variable {prog : Program} {w : World} {A : Around} {s : Shared} {h₀ : Heap} {L : Addr} {m : Str → Option Value} {env : Env}
theorem rest_inv {elt : Expr} {x : Str} {scope : Scope} {cl : List (Str × Addr)} {S : List (Addr × Obj) → Prop} {P : Nat → Value → Prop} {Fin : List Value → List (Addr × Obj) → Prop} {n : Nat}
    (J : Nat → List Value → List (Addr × Obj) → Prop)
    (turn : ∀ i ys news v I oI C oC D m₂ h tk (E' : Value → Shared → Prop), i < n → J i ys news → P i v → LCg.NsObj oC m₂ → m₂ x = some v → Fr h₀ L h m → News h₀ L h ((I, oI) :: (C, oC) :: (D, LCg.lst ys) :: news) → LCg.Off3 I C D news → ((@Ne Nat I C) ∧ (@Ne Nat I D) ∧ (@Ne Nat C D)) →
      wpAny (model prog w) A (eval elt (compEnvC scope cl C env)) (LCg.CompEnd h₀ L m { s with heap := h, toks := tk } I oI C oC D (LCg.lst ys) S (fun y news' => J (i + 1) (ys ++ [y]) news')) E' { s with heap := h, toks := tk })
    (fin : ∀ ys news, J n ys news → Fin ys news) :
    ∀ (k i : Nat) (ys : List Value) (news : List (Addr × Obj)), i + k = n → J i ys news → LCg.CompRest prog w A h₀ L m env elt x scope cl s S P Fin k i ys news := by
  intro k
  induction k with
  | zero =>
    intro i ys news hi hJ
    have : i = n := by omega
    subst this
    exact LCg.CompRest.zero (fin ys news hJ)
  | succ k ih =>
    intro i ys news hi hJ
    refine LCg.CompRest.succ fun v I oI C oC D m₂ h tk E' hP hC hx F N off ne => ?_
    refine wpAny_mono (turn i ys news v I oI C oC D m₂ h tk E' (by omega) hJ hP hC hx F N off ne) (fun y s₄ h₄ => ?_) fun _ _ e => e
    obtain ⟨h', tk', news', e, F', N', off', hS', hr⟩ := h₄
    exact ⟨h', tk', news', e, F', N', off', hS', ih (i + 1) (ys ++ [y]) news' (by omega) hr⟩
end
theorem deck_gen {ys : List Value} {f : Int → Int} {zs : List Int} (h : IntsAre ys ((zs.take 60).map f)) : ∃ xs, IntsAre ys xs ∧ xs.length ≤ 60 :=
  ⟨_, h, by rw [List.length_map, List.length_take]; omega⟩
/-- the words' block between two turns -/
def WdJ (D c : Addr) (oc : Obj) (i : Nat) (ys : List Value) (news : List (Addr × Obj)) : Prop :=
  ∃ (its : Array Value) (n : Nat) (xs : List Int) (own : List (Addr × Obj)), news = (D, listOf its n) :: own ∧ (c, oc) ∈ own ∧ IntsAre its.toList xs ∧ xs.length ≤ 60 ∧ (∀ p ∈ own, p.1 ≠ D) ∧ WIn own ys ∧ ys.length = i
/-- from here on the walk stands still at the words' block -/
structure WMark : Prop where
theorem range_q {q : Int} (h0 : 0 ≤ q) (h9 : q < 9) : Builtin.Range.small 0 q 1 = true ∧ Builtin.Range.rangeSize 0 q 1 = ((q.toNat : Nat) : Int) := by
  have h : q = 0 ∨ q = 1 ∨ q = 2 ∨ q = 3 ∨ q = 4 ∨ q = 5 ∨ q = 6 ∨ q = 7 ∨ q = 8 := by omega
  rcases h with rfl | rfl | rfl | rfl | rfl | rfl | rfl | rfl | rfl <;> exact ⟨by decide, by decide⟩
/-- words and others stand -/
def OtX (D c : Addr) (oc : Obj) (m : Str → Option Value) (news : List (Addr × Obj)) : Prop :=
  ∃ (its : Array Value) (n : Nat) (xs : List Int) (own : List (Addr × Obj)) (W V : List (List Int)) (vw vo : Value), m "words" = some vw ∧ m "others" = some vo ∧ news = (D, listOf its n) :: own ∧ (∀ p ∈ own, p.1 ≠ D) ∧ (c, oc) ∈ own ∧
    IntsAre its.toList xs ∧ xs.length ≤ 60 ∧ DatIn own vw (.list (W.map dI)) ∧ DatIn own vo (.list (V.map dI)) ∧ (∀ w ∈ W, WordOk w) ∧ (∀ w ∈ V, WordOk w) ∧ W.length ≤ 8 ∧ V.length ≤ 16
theorem pack5 {h₀ h : Heap} {L : Addr} {all B : List (Addr × Obj)} {fd l1 l2 tg g1 g2 : Addr × Obj} (N : News h₀ L h all) (hs : ∀ p ∈ fd :: l1 :: l2 :: tg :: g1 :: g2 :: B, p ∈ all) (P : List (Addr × Obj) → Prop) (hP : P (l1 :: l2 :: tg :: g1 :: g2 :: B)) :
    ∃ base, News h₀ L h (fd :: base) ∧ l1 ∈ base ∧ l2 ∈ base ∧ tg ∈ base ∧ g1 ∈ base ∧ g2 ∈ base ∧ P base :=
  ⟨_, nsub N hs, .head _, .tail _ (.head _), .tail _ (.tail _ (.head _)), .tail _ (.tail _ (.tail _ (.head _))), .tail _ (.tail _ (.tail _ (.tail _ (.head _)))), hP⟩
theorem dat_reverse {news : List (Addr × Obj)} : ∀ {vs : List Value} {ds : List Dat}, DatAll news vs ds → DatAll news vs.reverse ds.reverse
  | _, _, .nil => .nil
  | _, _, .cons h r => by
    rw [List.reverse_cons, List.reverse_cons]
    exact (dat_reverse r).append (.cons h .nil)
theorem gen_toks {α : Type} {M : Model} {A : Around} {t : Sem α} {Q : α → Shared → Prop} {E : Value → Shared → Prop} {s : Shared} {h : Heap} {n : Nat} (k : ∀ tk, wpAny M A t Q E { s with heap := h, toks := tk }) : wpAny M A t Q E { s with heap := h, toks := n } := k n
/-- a statement that leaves all as it was -/
theorem stmt_same {M : Model} {A : Around} {E : Value → Shared → Prop} {s : Shared} {h₀ : Heap} {t : Sem Flow} {L : Addr} {m : Str → Option Value} {news : List (Addr × Obj)} {Q : Flow → Shared → Prop} (F : Fr h₀ L s.heap m) (_N : News h₀ L s.heap news)
    (h : wpAny M A t (MidE h₀ L s (fun m₁ n₁ => m₁ = m ∧ n₁ = news)) E s)
    (fin : ∀ h₁ tk₁, Fr h₀ L h₁ m → News h₀ L h₁ news → Q .next { s with heap := h₁, toks := tk₁ }) : wpAny M A t Q E s :=
  stmt_mid F _ h fun m₁ n₁ h₁ tk₁ F₁ N₁ hx => by
    obtain ⟨rfl, rfl⟩ := hx
    exact fin h₁ tk₁ F₁ N₁
section
variable {prog : Program} {w : World} {A : Around} {E : Value → Shared → Prop} {s : Shared} {value slice : PySem.Expr} {l : Addr} {vs : List Value} {ys : List Int} {u : Tok} {Q : Value → Shared → Prop}
theorem item_first (hl : s.heap.IsList l vs.toArray) (hi : IntsAre vs ys) (h1 : 0 < ys.length) (h : ∀ t, Q (.int (ys.getD 0 0) t) s)
    (hs : subscripted slice false (.ref l) (.int 0 u) = operate [.ref l, .int 0 u] (getItem (.ref l) (.int 0 u)) := by with_unfolding_all rfl) :
    wpAny (model prog w) A (subscriptTail value slice (.ref l) (.int 0 u)) Q E s :=
  item_anyK hl hi (by decide) (by omega) (by decide) h hs
theorem item_last (hl : s.heap.IsList l vs.toArray) (hi : IntsAre vs ys) (h1 : 0 < ys.length) (h : ∀ t, Q (.int (ys.getD (ys.length - 1) 0) t) s)
    (hs : subscripted slice false (.ref l) (.int (-1) u) = operate [.ref l, .int (-1) u] (getItem (.ref l) (.int (-1) u)) := by with_unfolding_all rfl) :
    wpAny (model prog w) A (subscriptTail value slice (.ref l) (.int (-1) u)) Q E s := by
  refine item_list_ints_negR hl hi (by decide) (by omega) (by decide) (fun t => ?_) hs
  have e : (-1 + (ys.length : Int)).toNat = ys.length - 1 := by omega
  rw [e]
  exact h t
end
theorem ok_ints {n : Nat} (xs : List Int) : ∀ d ∈ xs.map Dat.int, kqdOk n d = true := by
  intro d hd
  obtain ⟨x, _, rfl⟩ := List.mem_map.mp hd
  cases n <;> rfl
theorem ok_dI {n : Nat} (xs : List Int) : kqdOk (n + 1) (dI xs) = true := by
  show (xs.map Dat.int).all (kqdOk n) = true
  rw [List.all_eq_true]
  exact ok_ints xs
theorem ok_d3 {n : Nat} (p : Int × Int × List Int) : kqdOk (n + 2) (d3 p) = true := by
  show [Dat.int p.1, .int p.2.1, dI p.2.2].all (kqdOk (n + 1)) = true
  simp only [List.all_cons, List.all_nil, Bool.and_true, Bool.and_eq_true]
  exact ⟨rfl, rfl, ok_dI _⟩
theorem dI_inj {xs ys : List Int} (h : dI xs = dI ys) : xs = ys := by
  injection h with h
  induction xs generalizing ys with
  | nil => cases ys with
    | nil => rfl
    | cons _ _ => cases h
  | cons x xs ih =>
    cases ys with
    | nil => cases h
    | cons y ys =>
      rw [List.map_cons, List.map_cons] at h
      injection h with h1 h2
      injection h1 with h1
      rw [h1, ih h2]
theorem dIs_inj {W V : List (List Int)} : W.map dI = V.map dI ↔ W = V := by
  constructor
  · intro h
    induction W generalizing V with
    | nil => cases V with
      | nil => rfl
      | cons _ _ => cases h
    | cons x xs ih =>
      cases V with
      | nil => cases h
      | cons y ys =>
        rw [List.map_cons, List.map_cons] at h
        injection h with h1 h2
        rw [dI_inj h1, ih h2]
  · rintro rfl; rfl
section
variable {prog : Program} {w : World} {A : Around} {E' : Value → Shared → Prop} {s : Shared} {h₀ : Heap} {L a b : Addr} {news n₁ n₂ : List (Addr × Obj)} {Q : Value → Shared → Prop}
theorem cmp_dat {v u : Value} {d e : Dat} {c : Bool} (N : News h₀ L s.heap news) (hv : DatIn news v d) (hw : DatIn news u e) (hd : kqdOk 8 d = true) (he : kqdOk 8 e = true) (hu : A.units + 64 < cLine) (hc : d = e ↔ c = true)
    (h : Q (.bool c) s) : wpAny (model prog w) A (compareOp .Eq v u) Q E' s := by
  obtain ⟨as, ra⟩ := kqd_in N 8 hv hd
  obtain ⟨bs, rb⟩ := kqd_in N 8 hw he
  have la := kqd_lay 8 d hd
  have lb := kqd_lay 8 e he
  have q : PyData.eqv (kqdP d) (kqdP e) = c := by
    have q := (kqd_eqv 8 d e 8 hd he).trans hc
    cases c
    · exact Bool.eq_false_iff.mpr fun x => Bool.noConfusion (q.mp x)
    · exact q.mpr rfl
  refine eq_dataH ra rb ?_ ?_ hu (by rw [q]; exact h)
  · unfold SeqAt.shaped; rw [la.1, Bool.true_and]; exact decide_eq_true (Nat.le_trans la.2 (by decide))
  · unfold SeqAt.shaped; rw [lb.1, Bool.true_and]; exact decide_eq_true (Nat.le_trans lb.2 (by decide))
theorem cmp_datN {v u : Value} {d e : Dat} {c : Bool} (N : News h₀ L s.heap news) (hv : DatIn news v d) (hw : DatIn news u e) (hd : kqdOk 8 d = true) (he : kqdOk 8 e = true) (hu : A.units + 64 < cLine) (hc : d = e ↔ c = true)
    (h : Q (.bool (!c)) s) : wpAny (model prog w) A (compareOp .NotEq v u) Q E' s := by
  obtain ⟨as, ra⟩ := kqd_in N 8 hv hd
  obtain ⟨bs, rb⟩ := kqd_in N 8 hw he
  have la := kqd_lay 8 d hd
  have lb := kqd_lay 8 e he
  have q : PyData.eqv (kqdP d) (kqdP e) = c := by
    have q := (kqd_eqv 8 d e 8 hd he).trans hc
    cases c
    · exact Bool.eq_false_iff.mpr fun x => Bool.noConfusion (q.mp x)
    · exact q.mpr rfl
  refine ne_dataH ra rb ?_ ?_ hu (by rw [q]; exact h)
  · unfold SeqAt.shaped; rw [la.1, Bool.true_and]; exact decide_eq_true (Nat.le_trans la.2 (by decide))
  · unfold SeqAt.shaped; rw [lb.1, Bool.true_and]; exact decide_eq_true (Nat.le_trans lb.2 (by decide))
/-- edits == [] -/
theorem cmp_none {el l : Addr} {vs : List Value} {k k' : Nat} {E : List (Int × Int × List Int)} {xs ys : List Int} (N : News h₀ L s.heap news) (ma : (el, listOf vs.toArray k) ∈ news) (Da : DatAll n₁ vs (E.map d3)) (sa : ∀ p ∈ n₁, p ∈ news)
    (mb : (l, listOf #[] k') ∈ news) (hn : E = [] ↔ xs = ys) (hu : A.units + 64 < cLine) (h : Q (.bool (decide (xs = ys))) s) : wpAny (model prog w) A (compareOp .Eq (.ref el) (.ref l)) Q E' s := by
  refine cmp_dat (d := .list (E.map d3)) (e := .list []) N (.list ma (Da.mono sa)) (.list (vs := []) mb .nil) ?_ rfl hu ?_ h
  · show (E.map d3).all (kqdOk 7) = true
    rw [List.all_eq_true]
    intro d hd
    obtain ⟨x, _, rfl⟩ := List.mem_map.mp hd
    exact ok_d3 x
  · rw [Dat.list.injEq, List.map_eq_nil_iff, hn, decide_eq_true_iff]
/-- (old, new) != given -/
theorem cmp_given {a b l1 l2 g1 g2 : Addr} {v1 v2 v3 v4 : List Value} {k k' n1 n2 n3 n4 : Nat} {xs ys : List Int} (N : News h₀ L s.heap news) (ma : (a, tupOf [.ref l1, .ref l2] k) ∈ news) (mb : (b, tupOf [.ref g1, .ref g2] k') ∈ news)
    (m1 : (l1, listOf v1.toArray n1) ∈ news) (m2 : (l2, listOf v2.toArray n2) ∈ news) (m3 : (g1, listOf v3.toArray n3) ∈ news) (m4 : (g2, listOf v4.toArray n4) ∈ news)
    (i1 : IntsAre v1 xs) (i2 : IntsAre v2 ys) (i3 : IntsAre v3 xs) (i4 : IntsAre v4 ys) (hu : A.units + 64 < cLine) (h : Q (.bool false) s) : wpAny (model prog w) A (compareOp .NotEq (.ref a) (.ref b)) Q E' s := by
  have hk : kqdOk 8 (.tuple [dI xs, dI ys]) = true := by
    show [dI xs, dI ys].all (kqdOk 7) = true
    simp only [List.all_cons, List.all_nil, Bool.and_true, Bool.and_eq_true]
    exact ⟨ok_dI _, ok_dI _⟩
  exact cmp_datN (d := .tuple [dI xs, dI ys]) (e := .tuple [dI xs, dI ys]) (c := true) N (.tuple ma (.cons (dI_in m1 i1) (.cons (dI_in m2 i2) .nil))) (.tuple mb (.cons (dI_in m3 i3) (.cons (dI_in m4 i4) .nil))) hk hk hu ⟨fun _ => rfl, fun _ => rfl⟩ h
/-- words != others -/
theorem cmp_words {v u : Value} {W V : List (List Int)} (N : News h₀ L s.heap news) (hv : DatIn n₁ v (.list (W.map dI))) (hw : DatIn n₁ u (.list (V.map dI))) (sa : ∀ p ∈ n₁, p ∈ news) (hu : A.units + 64 < cLine)
    (h : Q (.bool (!decide (W = V))) s) : wpAny (model prog w) A (compareOp .NotEq v u) Q E' s := by
  have hk : ∀ W : List (List Int), kqdOk 8 (.list (W.map dI)) = true := by
    intro W
    show (W.map dI).all (kqdOk 7) = true
    rw [List.all_eq_true]
    intro d hd
    obtain ⟨x, _, rfl⟩ := List.mem_map.mp hd
    exact ok_dI x
  refine cmp_datN N (hv.mono sa) (hw.mono sa) (hk _) (hk _) hu ?_ h
  rw [Dat.list.injEq, dIs_inj, decide_eq_true_iff]
end
/-- kept pairs, upwards in both texts and alike -/
def KP (xs ys : List Int) : Nat → Nat → List ((Int × Int) × (Int × Int)) → Prop
  | i, j, [] => i ≤ xs.length ∧ j ≤ ys.length
  | i, j, p :: r => ∃ b e f l : Nat, p = (((b : Int), (e : Int)), ((f : Int), (l : Int))) ∧ i ≤ b ∧ b < e ∧ e ≤ xs.length ∧ j ≤ f ∧ f < l ∧ l ≤ ys.length ∧ cut xs b e = cut ys f l ∧ KP xs ys e l r
/-- spans, upwards -/
def SP (n : Nat) : Nat → List (Int × Int) → Prop
  | i, [] => i ≤ n
  | i, p :: r => ∃ b e : Nat, p = ((b : Int), (e : Int)) ∧ i ≤ b ∧ b < e ∧ e ≤ n ∧ SP n e r
theorem SP.le {n : Nat} : ∀ {r : List (Int × Int)} {i : Nat}, SP n i r → i ≤ n
  | [], _, h => h
  | _ :: _, _, ⟨b, e, _, h1, h2, h3, _⟩ => by omega
theorem SP.less {n : Nat} : ∀ {r : List (Int × Int)} {i j : Nat}, j ≤ i → SP n i r → SP n j r
  | [], _, _, hj, h => Nat.le_trans hj h
  | _ :: _, _, _, hj, ⟨b, e, h0, h1, h2, h3, h4⟩ => ⟨b, e, h0, by omega, h2, h3, h4⟩
theorem SP.drop {n : Nat} : ∀ {r : List (Int × Int)} {i : Nat} (k : Nat), SP n i r → SP n i (r.drop k)
  | r, _, 0, h => by simpa using h
  | [], _, k + 1, h => by simpa using h
  | p :: r, i, k + 1, ⟨b, e, h0, h1, h2, h3, h4⟩ => by
    rw [List.drop_succ_cons]
    exact SP.drop k (SP.less (by omega) h4)
theorem scan_sp : ∀ (r : List Int) (i : Nat) (i0 : Nat), i0 ≤ i →
    SP (i + r.length) i0 (scan i none r) ∧ ∀ b : Nat, i0 ≤ b → b < i → SP (i + r.length) i0 (scan i (some (b : Int)) r) := by
  intro r
  induction r with
  | nil =>
    intro i i0 h
    refine ⟨by simpa [scan, SP] using h, fun b h1 h2 => ?_⟩
    rw [scan]
    exact ⟨b, i, rfl, h1, h2, by simp, by simp [SP]⟩
  | cons y r ih =>
    intro i i0 h
    have e : i + (y :: r).length = (i + 1) + r.length := by rw [List.length_cons]; omega
    have c : (i : Int) + 1 = ((i + 1 : Nat) : Int) := by omega
    rw [e]
    constructor
    · rw [scan, c]
      split
      · exact (ih (i + 1) i0 (by omega)).1
      · exact (ih (i + 1) i0 (by omega)).2 i h (by omega)
    · intro b h1 h2
      rw [scan, c]
      split
      · exact ⟨b, i, rfl, h1, h2, by omega, (ih (i + 1) i (by omega)).1⟩
      · exact (ih (i + 1) i0 (by omega)).2 b h1 (by omega)
theorem sp_scan (xs : List Int) : SP xs.length 0 (scan 0 none xs) := by
  have := (scan_sp xs 0 0 (Nat.le_refl _)).1
  simpa using this
theorem findF_spec (P : Nat → Bool) : ∀ (n i : Nat), findF P n i < i + n → P (findF P n i) = true ∧ i ≤ findF P n i := by
  intro n
  induction n with
  | zero => intro i h; simp [findF] at h
  | succ n ih =>
    intro i h
    rw [findF] at h ⊢
    by_cases hp : P i = true
    · rw [if_pos hp]; exact ⟨hp, Nat.le_refl _⟩
    · rw [if_neg hp] at h ⊢
      have := ih (i + 1) (by omega)
      exact ⟨this.1, by omega⟩
theorem kp_keep (xs ys : List Int) (sps : List (Int × Int)) : ∀ (r : List (Int × Int)) (k i j : Nat), SP xs.length i (sps.drop k) → SP ys.length j r → KP xs ys i j (keepF xs ys sps k r) := by
  intro r
  induction r with
  | nil => intro k i j h1 h2; exact ⟨h1.le, h2⟩
  | cons p r ih =>
    intro k i j h1 h2
    obtain ⟨f, l, rfl, g1, g2, g3, g4⟩ := h2
    rw [keepF]
    dsimp only
    split
    · rename_i hlt
      generalize hk : findF (fun k => decide (cut xs (sps.getD k (0, 0)).1 (sps.getD k (0, 0)).2 = cut ys (f : Int) (l : Int))) (min sps.length (k + 4) - k) k = q at hlt ⊢
      have hs := findF_spec (fun k => decide (cut xs (sps.getD k (0, 0)).1 (sps.getD k (0, 0)).2 = cut ys (f : Int) (l : Int))) (min sps.length (k + 4) - k) k
      rw [hk] at hs
      by_cases hkk : k < min sps.length (k + 4)
      · obtain ⟨s1, s2⟩ := hs (by omega)
        have s3 := of_decide_eq_true s1
        have h5 := h1.drop (q - k)
        rw [List.drop_drop, show k + (q - k) = q by omega, drop_getD' sps q (0, 0) (by omega)] at h5
        obtain ⟨b, e, h0, h6, h7, h8, h9⟩ := h5
        rw [h0] at s3 ⊢
        exact ⟨b, e, f, l, rfl, h6, h7, h8, g1, g2, g3, s3, ih _ _ _ h9 g4⟩
      · exfalso
        have : findF (fun k => decide (cut xs (sps.getD k (0, 0)).1 (sps.getD k (0, 0)).2 = cut ys (f : Int) (l : Int))) (min sps.length (k + 4) - k) k = k := by rw [show min sps.length (k + 4) - k = 0 by omega]; rfl
        omega
    · exact ih _ _ _ h1 (g4.less (by omega))
theorem kp_scan (xs ys : List Int) : KP xs ys 0 0 (keepF xs ys (scan 0 none xs) 0 (scan 0 none ys)) := kp_keep xs ys _ _ 0 0 0 (by simpa using sp_scan xs) (sp_scan ys)
theorem sep_of_kp {xs ys : List Int} : ∀ {K : List ((Int × Int) × (Int × Int))} {i j : Nat}, KP xs ys i j K → Sep xs.length ys.length i j (K ++ [(((xs.length : Int), (xs.length : Int)), ((ys.length : Int), (ys.length : Int)))])
  | [], i, j, h => by
    have h1 := h.1
    have h2 := h.2
    refine ⟨?_, ?_, ?_, ?_, ?_, ?_, trivial⟩ <;> dsimp only <;> omega
  | p :: K, i, j, ⟨b, e, f, l, h0, h1, h2, h3, h4, h5, h6, h7, h8⟩ => by
    subst h0
    refine ⟨?_, ?_, ?_, ?_, ?_, ?_, sep_of_kp h8⟩ <;> dsimp only <;> omega
theorem sep_kept (xs ys : List Int) : Sep xs.length ys.length 0 0 (keptE xs ys) := sep_of_kp (kp_scan xs ys)
/-- what the law asks of one edit -/
structure EGood (xs : List Int) (upto : Int) (p : Int × Int × List Int) : Prop where
  lo : 0 ≤ p.1
  mid : p.1 ≤ p.2.1
  hi : p.2.1 < upto
  ne : cut xs p.1 p.2.1 ≠ p.2.2
  first : cut xs p.1 p.2.1 ≠ [] → p.2.2 ≠ [] → (cut xs p.1 p.2.1).getD 0 0 ≠ p.2.2.getD 0 0
  last : cut xs p.1 p.2.1 ≠ [] → p.2.2 ≠ [] → (cut xs p.1 p.2.1).getD ((cut xs p.1 p.2.1).length - 1) 0 ≠ p.2.2.getD (p.2.2.length - 1) 0
def stepE (f : List Int) (p : Int × Int × List Int) : List Int := f.take p.1.toNat ++ p.2.2 ++ f.drop p.2.1.toNat
def uptoOf (xs : List Int) (R : List (Int × Int × List Int)) (i : Nat) : Int := if i = 0 then (xs.length : Int) + 1 else (R.getD (i - 1) (0, 0, [])).1
structure EAll (xs ys : List Int) (E : List (Int × Int × List Int)) : Prop where
  good : ∀ i, i < E.reverse.length → EGood xs (uptoOf xs E.reverse i) (E.reverse.getD i (0, 0, []))
  done : E.reverse.foldl stepE xs = ys
  none : E = [] ↔ xs = ys
  few : E.length ≤ ys.length + 1
  short : ∀ p ∈ E, p.2.2.length ≤ ys.length
def seg (xs : List Int) (b e : Nat) : List Int := (xs.drop b).take (e - b)
theorem cut_seg {xs : List Int} {b e : Nat} (h : e ≤ xs.length) : cut xs (b : Int) (e : Int) = seg xs b e := by
  unfold cut seg
  rw [Int.toNat_natCast, Int.toNat_natCast, Nat.min_eq_left h]
theorem take_seg {xs : List Int} {i b : Nat} (h : i ≤ b) : xs.take b = xs.take i ++ seg xs i b := by
  unfold seg
  rw [← List.take_add, show i + (b - i) = b by omega]
theorem drop_seg {ys : List Int} {j f : Nat} (h : j ≤ f) : ys.drop j = seg ys j f ++ ys.drop f := by
  unfold seg
  have := List.take_append_drop (f - j) (ys.drop j)
  rw [List.drop_drop, show j + (f - j) = f by omega] at this
  exact this.symm
theorem seg_cat {xs : List Int} {i b e : Nat} (h1 : i ≤ b) (h2 : b ≤ e) : seg xs i b ++ seg xs b e = seg xs i e := by
  unfold seg
  have := List.take_add (l := xs.drop i) (i := b - i) (j := e - b)
  rw [List.drop_drop, show i + (b - i) = b by omega, show (b - i) + (e - b) = e - i by omega] at this
  exact this.symm
theorem seg_len {xs : List Int} {b e : Nat} (h : e ≤ xs.length) : (seg xs b e).length = e - b := by
  unfold seg
  rw [List.length_take, List.length_drop]; omega
theorem seg_getD {xs : List Int} {b e k : Nat} (h : e ≤ xs.length) (hk : k < e - b) : (seg xs b e).getD k 0 = xs.getD (b + k) 0 := by
  unfold seg
  rw [List.getD_eq_getElem?_getD, List.getElem?_take_of_lt hk, List.getElem?_drop, ← List.getD_eq_getElem?_getD]
theorem drop_take_seg {xs : List Int} {b e : Nat} : (xs.take e).drop b = seg xs b e := by
  unfold seg
  rw [List.drop_take]
theorem getD_eq' {l : List Int} {k : Nat} (h : k < l.length) : l.getD k 0 = l[k] := by
  rw [List.getD_eq_getElem?_getD, List.getElem?_eq_getElem h]; rfl
theorem take_eq {u v : List Int} {A : Nat} (hu : A ≤ u.length) (hv : A ≤ v.length) (h : ∀ k, k < A → u.getD k 0 = v.getD k 0) : u.take A = v.take A := by
  refine List.ext_getElem (by rw [List.length_take, List.length_take]; omega) fun k h1 h2 => ?_
  rw [List.length_take] at h1
  have := h k (by omega)
  rw [getD_eq' (by omega), getD_eq' (by omega)] at this
  rw [List.getElem_take, List.getElem_take]
  exact this
theorem sub_flip {n B k : Nat} (h : B ≤ n) (hk : k < B) : n - (B - 1 - k) - 1 = n - B + k := by omega
theorem ix_last {i A B b : Nat} (h : i + A + B < b) : i + (A + (b - i - B - A - 1)) = b - B - 1 := by omega
theorem ix_min {i A b : Nat} (h : i + A ≤ b) : i + A - i = min A (b - i) := by omega
theorem drop_eq {u v : List Int} {B : Nat} (hu : B ≤ u.length) (hv : B ≤ v.length) (h : ∀ k, k < B → u.getD (u.length - k - 1) 0 = v.getD (v.length - k - 1) 0) : u.drop (u.length - B) = v.drop (v.length - B) := by
  refine List.ext_getElem (by rw [List.length_drop, List.length_drop]; omega) fun k h1 h2 => ?_
  rw [List.length_drop] at h1
  have := h (B - 1 - k) (by omega)
  rw [getD_eq' (by omega), getD_eq' (by omega)] at this
  rw [List.getElem_drop, List.getElem_drop]
  have hk : k < B := by clear this; omega
  have e1 := sub_flip hu hk
  have e2 := sub_flip hv hk
  simp only [e1, e2] at this
  exact this
/-- a list's middle -/
def mid (l : List Int) (A B : Nat) : List Int := (l.drop A).take (l.length - B - A)
theorem split3 (l : List Int) {A B : Nat} (h : A + B ≤ l.length) : l = l.take A ++ (mid l A B ++ l.drop (l.length - B)) := by
  unfold mid
  have h1 := List.take_append_drop (l.length - B - A) (l.drop A)
  rw [List.drop_drop, show A + (l.length - B - A) = l.length - B by omega] at h1
  rw [h1, List.take_append_drop]
theorem mid_getD {l : List Int} {A B k : Nat} (h : k < l.length - B - A) : (mid l A B).getD k 0 = l.getD (A + k) 0 := by
  unfold mid
  rw [List.getD_eq_getElem?_getD, List.getElem?_take_of_lt h, List.getElem?_drop, ← List.getD_eq_getElem?_getD]
theorem mid_len (l : List Int) (A B : Nat) : (mid l A B).length = l.length - B - A := by
  unfold mid
  rw [List.length_take, List.length_drop]; omega
theorem mid_seg {xs : List Int} {i b A B : Nat} (hb : b ≤ xs.length) (h : i + A + B ≤ b) : mid (seg xs i b) A B = seg xs (i + A) (b - B) := by
  unfold mid
  rw [seg_len hb]
  unfold seg
  rw [List.drop_take, List.drop_drop, List.take_take]
  congr 1
  omega
/-- one edit between two kept pairs -/
theorem one_edit {xs v : List Int} {i b A B : Nat} {upto : Int} (hib : i ≤ b) (hb : b ≤ xs.length) (hne : seg xs i b ≠ v) (hn : Narrow xs v i b A B) (hu : (b : Int) - B < upto) :
    EGood xs upto ((i : Int) + A, (b : Int) - B, (v.drop A).take (v.length - B - A)) ∧ seg xs i b = v.take A ++ (seg xs (i + A) (b - B) ++ v.drop (v.length - B)) ∧ seg xs (b - B) b = v.drop (v.length - B) ∧ seg xs i (i + A) = v.take A := by
  have hlo := hn.lo
  have hhi := hn.hi
  have hl := seg_len (b := i) hb
  have hA : (seg xs i b).take A = v.take A := take_eq (by omega) (by omega) fun k hk => by
    rw [seg_getD hb (by omega)]; exact hn.ahead k hk
  have hB : (seg xs i b).drop ((seg xs i b).length - B) = v.drop (v.length - B) := drop_eq (by omega) (by omega) fun k hk => by
    rw [hl, seg_getD hb (by omega), show i + (b - i - k - 1) = b - k - 1 by omega]; exact hn.behind k hk
  have hsu := split3 (seg xs i b) (A := A) (B := B) (by omega)
  have hsv := split3 v (A := A) (B := B) (by omega)
  have hm := mid_seg (i := i) (A := A) (B := B) hb (by omega)
  have e1 : (i : Int) + A = ((i + A : Nat) : Int) := by omega
  have e2 : (b : Int) - B = ((b - B : Nat) : Int) := by omega
  have hc : cut xs ((i : Int) + A) ((b : Int) - B) = mid (seg xs i b) A B := by rw [e1, e2, cut_seg (by omega), hm]
  have hv : (v.drop A).take (v.length - B - A) = mid v A B := rfl
  have hll := mid_len (seg xs i b) A B
  have hlv := mid_len v A B
  refine ⟨⟨by dsimp only; omega, by dsimp only; omega, by dsimp only; omega, ?_, ?_, ?_⟩, ?_, ?_, ?_⟩
  · dsimp only
    rw [hc, hv]
    intro q
    apply hne
    rw [hsu, hsv, hA, hB, q]
  · dsimp only
    rw [hc, hv]
    intro g1 g2
    have k1 := List.length_pos_iff.mpr g1
    have k2 := List.length_pos_iff.mpr g2
    rw [mid_getD (by omega), mid_getD (by omega), seg_getD hb (by omega)]
    rcases hn.stop1 with h | h | h
    · omega
    · omega
    · exact h
  · dsimp only
    rw [hc, hv]
    intro g1 g2
    have k1 := List.length_pos_iff.mpr g1
    have k2 := List.length_pos_iff.mpr g2
    rw [hll, hlv, mid_getD (by omega), mid_getD (by omega), seg_getD hb (by omega), hl]
    rw [ix_last (i := i) (A := A) (B := B) (b := b) (by omega), show A + (v.length - B - A - 1) = v.length - B - 1 by omega]
    rcases hn.stop2 with h | h | h
    · omega
    · omega
    · exact h
  · rw [← hm, ← hA, ← hB]; exact hsu
  · rw [← hB, hl]
    unfold seg
    rw [List.drop_take, List.drop_drop]
    congr 1
    · omega
    · congr 1; omega
  · rw [← hA]
    unfold seg
    rw [List.take_take]
    congr 1
    omega
def nextOf (xs : List Int) : List (Int × Int × List Int) → Int
  | [] => (xs.length : Int) + 1
  | q :: _ => q.1
def UpE (xs : List Int) : List (Int × Int × List Int) → Prop
  | [] => True
  | p :: r => EGood xs (nextOf xs r) p ∧ UpE xs r
theorem stepE_eq {xs R v c : List Int} {i b e A B : Nat} (hib : i ≤ b) (hbe : b ≤ e) (he : e ≤ xs.length) (hlo : i + A + B ≤ b) (hA : seg xs i (i + A) = v.take A) (hB : seg xs (b - B) b = v.drop (v.length - B)) :
    stepE (xs.take e ++ R) ((i : Int) + A, (b : Int) - B, c) = xs.take i ++ ((v.take A ++ (c ++ v.drop (v.length - B))) ++ (seg xs b e ++ R)) := by
  unfold stepE
  dsimp only
  rw [show ((i : Int) + A).toNat = i + A by omega, show ((b : Int) - B).toNat = b - B by omega]
  have hl : (xs.take e).length = e := by rw [List.length_take]; omega
  rw [List.take_append_of_le_length (by omega), List.drop_append_of_le_length (by omega), List.take_take, show min (i + A) e = i + A by omega, drop_take_seg, take_seg (i := i) (b := i + A) (by omega), hA, ← seg_cat (i := b - B) (b := b) (e := e) (by omega) hbe, hB]
  simp only [List.append_assoc]
theorem edits_up {xs ys : List Int} : ∀ {K : List ((Int × Int) × (Int × Int))} {i j : Nat} {E : List (Int × Int × List Int)}, KP xs ys i j K →
    Edits xs ys i j (K ++ [(((xs.length : Int), (xs.length : Int)), ((ys.length : Int), (ys.length : Int)))]) E →
    UpE xs E ∧ (i : Int) ≤ nextOf xs E ∧ E.foldr (fun p f => stepE f p) xs = xs.take i ++ ys.drop j ∧ E.length ≤ K.length + 1 ∧ ∀ p ∈ E, p.2.2.length ≤ ys.length := by
  intro K
  induction K with
  | nil =>
    intro i j E hK hE
    obtain ⟨h1, h2⟩ := hK
    rw [List.nil_append] at hE
    generalize hL : [(((xs.length : Int), (xs.length : Int)), ((ys.length : Int), (ys.length : Int)))] = L at hE
    cases hE with
    | nil => cases hL
    | @same i j b e f l r E hc hr =>
      injection hL with e1 e2
      injection e1 with e3 e4
      injection e3 with e5 e6
      injection e4 with e7 e8
      obtain rfl : xs.length = b := by omega
      obtain rfl : ys.length = f := by omega
      subst e2
      cases hr
      rw [cut_seg (Nat.le_refl _), cut_seg (Nat.le_refl _)] at hc
      refine ⟨trivial, by simp only [nextOf]; omega, ?_, by simp, by intro p hp; cases hp⟩
      show xs = _
      have d1 := take_seg (xs := xs) h1
      have d2 := drop_seg (ys := ys) h2
      rw [List.take_length] at d1
      rw [List.drop_length, List.append_nil] at d2
      rw [d2, ← hc]
      exact d1
    | @diff i j b e f l A B r E hc hn hr =>
      injection hL with e1 e2
      injection e1 with e3 e4
      injection e3 with e5 e6
      injection e4 with e7 e8
      obtain rfl : xs.length = b := by omega
      obtain rfl : ys.length = f := by omega
      subst e2
      cases hr
      rw [cut_seg (Nat.le_refl _)] at hc
      have hlo := hn.lo
      have hlv := seg_len (xs := ys) (b := j) (Nat.le_refl _)
      rw [cut_seg (Nat.le_refl _)] at hc hn ⊢
      obtain ⟨o1, o2, o3, o4⟩ := one_edit (upto := (xs.length : Int) + 1) h1 (Nat.le_refl _) hc hn (by omega)
      refine ⟨⟨o1, trivial⟩, by simp only [nextOf]; omega, ?_, by simp, fun p hp => ?_⟩
      · show stepE xs _ = _
        have hs := stepE_eq (xs := xs) (R := []) (c := ((seg ys j ys.length).drop A).take ((seg ys j ys.length).length - B - A)) h1 (Nat.le_refl _) (Nat.le_refl _) hlo o4 o3
        rw [List.take_length, List.append_nil] at hs
        rw [hs]
        have hz : seg xs xs.length xs.length = [] := by unfold seg; simp
        have d2 := drop_seg (ys := ys) h2
        rw [List.drop_length, List.append_nil] at d2
        rw [hz, List.append_nil, List.append_nil, d2]
        congr 1
        exact (split3 (seg ys j ys.length) (A := A) (B := B) hn.hi).symm
      · rw [List.mem_singleton] at hp
        subst hp
        dsimp only
        rw [List.length_take, List.length_drop]; omega
  | cons p K ih =>
    intro i j E hK hE
    obtain ⟨b, e, f, l, rfl, h1, h2, h3, h4, h5, h6, h7, h8⟩ := hK
    rw [List.cons_append] at hE
    generalize hL : (((b : Int), (e : Int)), ((f : Int), (l : Int))) :: (K ++ [(((xs.length : Int), (xs.length : Int)), ((ys.length : Int), (ys.length : Int)))]) = L at hE
    have h7' := h7
    rw [cut_seg h3, cut_seg h6] at h7'
    cases hE with
    | nil => cases hL
    | @same i j b' e' f' l' r E hc hr =>
      injection hL with e1 e2
      injection e1 with e3 e4
      injection e3 with e5 e6
      injection e4 with e7 e8
      obtain rfl : b = b' := by omega
      obtain rfl : f = f' := by omega
      obtain rfl : e = e' := by omega
      obtain rfl : l = l' := by omega
      subst e2
      obtain ⟨u1, u2, u3, u4, u5⟩ := ih h8 hr
      rw [cut_seg (by omega), cut_seg (by omega)] at hc
      refine ⟨u1, by omega, ?_, by simp only [List.length_cons]; omega, u5⟩
      rw [u3, take_seg (i := i) (b := e) (by omega), ← seg_cat h1 (Nat.le_of_lt h2), hc, h7', drop_seg (j := j) (f := l) (by omega), ← seg_cat h4 (Nat.le_of_lt h5)]
      simp only [List.append_assoc]
    | @diff i j b' e' f' l' A B r E hc hn hr =>
      injection hL with e1 e2
      injection e1 with e3 e4
      injection e3 with e5 e6
      injection e4 with e7 e8
      obtain rfl : b = b' := by omega
      obtain rfl : f = f' := by omega
      obtain rfl : e = e' := by omega
      obtain rfl : l = l' := by omega
      subst e2
      obtain ⟨u1, u2, u3, u4, u5⟩ := ih h8 hr
      have hlo := hn.lo
      have hlv := seg_len (xs := ys) (b := j) (e := f) (by omega)
      rw [cut_seg (by omega), cut_seg (by omega)] at hc
      rw [cut_seg (by omega)] at hn ⊢
      obtain ⟨o1, o2, o3, o4⟩ := one_edit (upto := nextOf xs E) h1 (by omega) hc hn (by omega)
      refine ⟨⟨o1, u1⟩, by simp only [nextOf]; omega, ?_, by simp only [List.length_cons]; omega, List.forall_mem_cons.mpr ⟨?_, u5⟩⟩
      · rw [List.foldr_cons, u3, stepE_eq h1 (Nat.le_of_lt h2) h3 hlo o4 o3, h7', drop_seg (j := j) (f := f) (by omega), drop_seg (j := f) (f := l) (by omega)]
        congr 1
        congr 1
        exact (split3 (seg ys j f) (A := A) (B := B) hn.hi).symm
      · dsimp only
        rw [List.length_take, List.length_drop]; omega
theorem upE_get {xs : List Int} : ∀ {E : List (Int × Int × List Int)} {k : Nat}, UpE xs E → k < E.length → EGood xs (nextOf xs (E.drop (k + 1))) (E.getD k (0, 0, []))
  | [], _, _, h => nomatch h
  | p :: r, 0, h, _ => by simpa using h.1
  | p :: r, k + 1, h, hk => by
    have := upE_get (k := k) h.2 (by simpa using hk)
    simpa using this
theorem rev_getD {α : Type} (E : List α) (d : α) {i : Nat} (h : i < E.length) : E.reverse.getD i d = E.getD (E.length - 1 - i) d := by
  rw [List.getD_eq_getElem?_getD, List.getD_eq_getElem?_getD, List.getElem?_reverse h]
theorem upE_rev {xs : List Int} {E : List (Int × Int × List Int)} (h : UpE xs E) : ∀ i, i < E.reverse.length → EGood xs (uptoOf xs E.reverse i) (E.reverse.getD i (0, 0, [])) := by
  intro i hi
  rw [List.length_reverse] at hi
  have hg := upE_get (k := E.length - 1 - i) h (by omega)
  rw [rev_getD E _ hi]
  have e : uptoOf xs E.reverse i = nextOf xs (E.drop (E.length - 1 - i + 1)) := by
    unfold uptoOf
    by_cases h0 : i = 0
    · subst h0
      rw [if_pos rfl, show E.length - 1 - 0 + 1 = E.length by omega, List.drop_length]; rfl
    · rw [if_neg h0, rev_getD E _ (by omega), drop_getD' E (E.length - 1 - i + 1) (0, 0, []) (by omega), show E.length - 1 - (i - 1) = E.length - 1 - i + 1 by omega]; rfl
  rw [e]
  exact hg
theorem findF_here (P : Nat → Bool) (n i : Nat) (h : P i = true) : findF P n i = i := by
  cases n with
  | zero => rfl
  | succ n => rw [findF, if_pos h]
theorem keep_all (xs ys : List Int) (S T : List (Int × Int)) (hl : S.length = T.length) (hc : ∀ k, k < S.length → cut xs (S.getD k (0, 0)).1 (S.getD k (0, 0)).2 = cut ys (T.getD k (0, 0)).1 (T.getD k (0, 0)).2) :
    ∀ (n k : Nat), k + n = S.length → keepF xs ys S k (T.drop k) = (S.drop k).zip (T.drop k) := by
  intro n
  induction n with
  | zero =>
    intro k hk
    rw [List.drop_of_length_le (l := T) (by omega), keepF, List.zip_nil_right]
  | succ n ih =>
    intro k hk
    rw [drop_getD' T k (0, 0) (by omega), drop_getD' S k (0, 0) (by omega), keepF]
    try dsimp only
    rw [findF_here (fun k' => decide (cut xs (S.getD k' (0, 0)).1 (S.getD k' (0, 0)).2 = cut ys (T.getD k (0, 0)).1 (T.getD k (0, 0)).2)) _ k (decide_eq_true (hc k (by omega)))]
    rw [if_pos (by omega), ih (k + 1) (by omega), List.zip_cons_cons]
theorem keep_zip (xs ys : List Int) (S T : List (Int × Int)) (hc : S.map (fun p => cut xs p.1 p.2) = T.map (fun p => cut ys p.1 p.2)) : keepF xs ys S 0 T = S.zip T := by
  have hl : S.length = T.length := by simpa using congrArg List.length hc
  have := keep_all xs ys S T hl (fun k hk => by
    have h1 : (S.map (fun p => cut xs p.1 p.2))[k]? = (T.map (fun p => cut ys p.1 p.2))[k]? := by rw [hc]
    rw [List.getElem?_map, List.getElem?_map, List.getElem?_eq_getElem hk, List.getElem?_eq_getElem (by omega)] at h1
    rw [List.getD_eq_getElem?_getD, List.getD_eq_getElem?_getD, List.getElem?_eq_getElem hk, List.getElem?_eq_getElem (by omega)]
    simpa using h1) S.length 0 (by omega)
  simpa using this
/-- how the words lie: blanks between them, and at least one -/
def Lay (xs : List Int) : Nat → List (Int × Int) → Prop
  | i, [] => i ≤ xs.length ∧ Blank (seg xs i xs.length)
  | i, p :: r => ∃ b e : Nat, p = ((b : Int), (e : Int)) ∧ i ≤ b ∧ b < e ∧ e ≤ xs.length ∧ Blank (seg xs i b) ∧ (i = 0 ∨ i < b) ∧ Lay xs e r
theorem seg_nil {xs : List Int} {i : Nat} : seg xs i i = [] := by unfold seg; simp
theorem seg_snoc {xs : List Int} {i b : Nat} (h : i ≤ b) (hb : b < xs.length) : seg xs i (b + 1) = seg xs i b ++ [xs.getD b 0] := by
  rw [← seg_cat h (Nat.le_succ b)]
  congr 1
  unfold seg
  rw [drop_getD xs b hb, show b + 1 - b = 1 by omega]; rfl
theorem lay_scan (xs : List Int) : ∀ (r : List Int) (i : Nat), xs.drop i = r → i ≤ xs.length →
    (∀ i0, i0 ≤ i → Blank (seg xs i0 i) → (i0 = 0 ∨ i0 < i ∨ i = xs.length) → Lay xs i0 (scan i none r)) ∧
    (∀ i0 b : Nat, i0 ≤ b → b < i → Blank (seg xs i0 b) → (i0 = 0 ∨ i0 < b) → Lay xs i0 (scan i (some (b : Int)) r)) := by
  intro r
  induction r with
  | nil =>
    intro i hr hi
    have hil : i = xs.length := by
      have := congrArg List.length hr
      rw [List.length_drop] at this
      simp at this; omega
    subst hil
    refine ⟨fun i0 h1 h2 h3 => ?_, fun i0 b h1 h2 h3 h4 => ?_⟩
    · rw [scan]; exact ⟨h1, h2⟩
    · rw [scan]; exact ⟨b, _, rfl, h1, h2, Nat.le_refl _, h3, h4, Nat.le_refl _, by rw [seg_nil]; intro x hx; cases hx⟩
  | cons y r ih =>
    intro i hr hi
    have hlt : i < xs.length := by
      have := congrArg List.length hr
      rw [List.length_drop, List.length_cons] at this
      omega
    rw [drop_getD xs i hlt] at hr
    injection hr with hy hr
    have c : (i : Int) + 1 = ((i + 1 : Nat) : Int) := by omega
    obtain ⟨k1, k2⟩ := ih (i + 1) hr hlt
    refine ⟨fun i0 h1 h2 h3 => ?_, fun i0 b h1 h2 h3 h4 => ?_⟩
    · rw [scan, c]
      split
      · rename_i hb
        refine k1 i0 (by omega) ?_ (by omega)
        rw [seg_snoc h1 hlt, hy]
        exact List.forall_mem_append.mpr ⟨h2, fun x hx => by rw [List.mem_singleton.mp hx]; exact hb⟩
      · exact k2 i0 i h1 (by omega) h2 (by omega)
    · rw [scan, c]
      split
      · rename_i hb
        refine ⟨b, i, rfl, h1, h2, by omega, h3, h4, k1 i (by omega) ?_ (by omega)⟩
        rw [seg_snoc (Nat.le_refl _) hlt, hy, seg_nil]
        exact fun x hx => by rw [List.mem_singleton.mp hx]; exact hb
      · exact k2 i0 b h1 (by omega) h3 h4
theorem lay0 (xs : List Int) : Lay xs 0 (scan 0 none xs) := (lay_scan xs xs 0 (by simp) (Nat.zero_le _)).1 0 (Nat.le_refl _) (by rw [seg_nil]; intro x hx; cases hx) (.inl rfl)
/-- the words that a scan finds -/
def wds : List Int → List Int → List (List Int)
  | acc, [] => if acc = [] then [] else [acc]
  | acc, x :: r => if blank x then (if acc = [] then wds [] r else acc :: wds [] r) else wds (acc ++ [x]) r
theorem scan_wds (xs : List Int) : ∀ (r : List Int) (i : Nat), xs.drop i = r → i ≤ xs.length →
    (scan i none r).map (fun p => cut xs p.1 p.2) = wds [] r ∧ ∀ b : Nat, b < i → (scan i (some (b : Int)) r).map (fun p => cut xs p.1 p.2) = wds (seg xs b i) r := by
  intro r
  induction r with
  | nil =>
    intro i hr hi
    refine ⟨by simp [scan, wds], fun b hb => ?_⟩
    have hne : seg xs b i ≠ [] := fun q => by
      have := congrArg List.length q
      rw [seg_len hi] at this
      simp at this; omega
    rw [scan, wds, if_neg hne, List.map_cons, List.map_nil, cut_seg hi]
  | cons y r ih =>
    intro i hr hi
    have hlt : i < xs.length := by
      have := congrArg List.length hr
      rw [List.length_drop, List.length_cons] at this
      omega
    rw [drop_getD xs i hlt] at hr
    injection hr with hy hr
    have c : (i : Int) + 1 = ((i + 1 : Nat) : Int) := by omega
    obtain ⟨k1, k2⟩ := ih (i + 1) hr hlt
    refine ⟨?_, fun b hb => ?_⟩
    · rw [scan, wds, c]
      split
      · rw [if_pos rfl]; exact k1
      · rw [k2 i (by omega), seg_snoc (Nat.le_refl _) hlt, seg_nil, hy]
    · have hne : seg xs b i ≠ [] := fun q => by
        have := congrArg List.length q
        rw [seg_len hi] at this
        simp at this; omega
      rw [scan, wds, c]
      split
      · first | rw [if_neg hne, List.map_cons, k1, cut_seg hi] | rw [List.map_cons, k1, cut_seg hi]
      · rw [k2 b (by omega), seg_snoc (by omega) hlt, hy]
theorem wds_blank : ∀ (g r : List Int), Blank g → wds [] (g ++ r) = wds [] r
  | [], _, _ => rfl
  | x :: g, r, h => by
    rw [List.cons_append, wds, if_pos (h x (.head _)), if_pos rfl]
    exact wds_blank g r fun y hy => h y (.tail _ hy)
theorem wds_word : ∀ (w acc r : List Int), (∀ x ∈ w, blank x = false) → wds acc (w ++ r) = wds (acc ++ w) r
  | [], acc, r, _ => by simp
  | x :: w, acc, r, h => by
    rw [List.cons_append, wds, h x (.head _), if_neg Bool.false_ne_true, wds_word w _ r (fun y hy => h y (.tail _ hy)), List.append_assoc]; rfl
theorem wds_cut : ∀ (c acc : List Int) (x : Int) (r : List Int), blank x = true → wds acc (c ++ x :: r) = wds acc c ++ wds [] r
  | [], acc, x, r, h => by
    rw [List.nil_append]
    simp only [wds, h, if_true]
    split <;> simp
  | y :: c, acc, x, r, h => by
    rw [List.cons_append, wds, wds]
    split
    · split
      · exact wds_cut c [] x r h
      · rw [wds_cut c [] x r h, List.cons_append]
    · exact wds_cut c _ x r h
theorem wds_gap (c g : List Int) (h : Blank g) : wds [] (c ++ g) = wds [] c := by
  cases g with
  | nil => rw [List.append_nil]
  | cons x g =>
    rw [wds_cut c [] x g (h x (.head _))]
    have := wds_blank g [] (fun y hy => h y (.tail _ hy))
    rw [List.append_nil] at this
    rw [this, wds, if_pos rfl, List.append_nil]
theorem wds_one (g w : List Int) (hg : Blank g) (hw : WordOk w) : wds [] (g ++ w) = [w] := by
  rw [wds_blank g w hg]
  have := wds_word w [] [] hw.solid
  rw [List.append_nil, List.nil_append] at this
  rw [this, wds, if_neg hw.ne]
theorem wds_txt {W : List (List Int)} {c : List Int} (h : Txt W c) : (∀ w ∈ W, WordOk w) → wds [] c = W := by
  induction h with
  | nil hg =>
    intro _
    have := wds_blank _ [] hg
    rw [List.append_nil] at this
    rw [this, wds, if_pos rfl]
  | one hg => intro hw; exact wds_one _ _ hg (hw _ (.head _))
  | @snoc W c g w hc _ hg hb ih =>
    intro hw
    have h1 := ih fun v hv => hw v (List.mem_append_left _ hv)
    cases g with
    | nil => exact absurd rfl hg
    | cons x g =>
      rw [List.append_assoc, List.cons_append, wds_cut c [] x _ (hb x (.head _)), h1, wds_one g w (fun y hy => hb y (.tail _ hy)) (hw w (List.mem_append_right _ (.head _)))]
theorem scan_text {W : List (List Int)} {t : List Int} (h : Text W t) (hW : ∀ w ∈ W, WordOk w) : (scan 0 none t).map (fun p => cut t p.1 p.2) = W := by
  obtain ⟨c, g, hc, hg, rfl⟩ := h
  have := (scan_wds (c ++ g) (c ++ g) 0 (by simp) (Nat.zero_le _)).1
  rw [show ((0 : Nat) : Int) = 0 from rfl] at this
  rw [this, wds_gap c g hg, wds_txt hc hW]
theorem edits_self {xs : List Int} : ∀ {S : List (Int × Int)} {i : Nat} {E : List (Int × Int × List Int)},
    Edits xs xs i i (S.zip S ++ [(((xs.length : Int), (xs.length : Int)), ((xs.length : Int), (xs.length : Int)))]) E → E = [] := by
  intro S
  induction S with
  | nil =>
    intro i E hE
    rw [List.zip_nil_right, List.nil_append] at hE
    generalize hL : [(((xs.length : Int), (xs.length : Int)), ((xs.length : Int), (xs.length : Int)))] = L at hE
    cases hE with
    | nil => cases hL
    | @same i j b e f l r E hc hr =>
      injection hL with e1 e2
      subst e2
      cases hr
      rfl
    | @diff i j b e f l A B r E hc hn hr =>
      injection hL with e1 e2
      injection e1 with e3 e4
      injection e3 with e5 e6
      injection e4 with e7 e8
      rw [← e5, ← e7] at hc
      exact absurd rfl hc
  | cons p S ih =>
    intro i E hE
    rw [List.zip_cons_cons, List.cons_append] at hE
    generalize hL : (p, p) :: (S.zip S ++ [(((xs.length : Int), (xs.length : Int)), ((xs.length : Int), (xs.length : Int)))]) = L at hE
    cases hE with
    | nil => cases hL
    | @same i j b e f l r E hc hr =>
      injection hL with e1 e2
      injection e1 with e3 e4
      rw [e3] at e4
      injection e4 with e7 e8
      obtain rfl : e = l := by omega
      subst e2
      exact ih hr
    | @diff i j b e f l A B r E hc hn hr =>
      injection hL with e1 e2
      injection e1 with e3 e4
      rw [e3] at e4
      injection e4 with e7 e8
      rw [← e7] at hc
      exact absurd rfl hc
theorem edits_all {xs ys : List Int} {E : List (Int × Int × List Int)} (h : Edits xs ys 0 0 (keptE xs ys) E) : EAll xs ys E := by
  obtain ⟨u1, u2, u3, u4, u5⟩ := edits_up (kp_scan xs ys) h
  have hk := keepF_length xs ys (scan 0 none xs) 0 (scan 0 none ys)
  have hs := scan_length ys
  refine ⟨upE_rev u1, ?_, ⟨fun q => ?_, fun q => ?_⟩, by omega, u5⟩
  · rw [List.foldl_reverse, u3]; simp
  · subst q
    simpa using u3
  · subst q
    unfold keptE at h
    rw [keep_zip xs xs _ _ rfl] at h
    exact edits_self h
theorem mem_mid {l : List Int} {A B : Nat} {x : Int} (h : x ∈ mid l A B) : x ∈ l := List.mem_of_mem_drop (List.mem_of_mem_take h)
theorem one_clean {xs v : List Int} {i b A B : Nat} (hib : i ≤ b) (hb : b ≤ xs.length) (hn : Narrow xs v i b A B) (hg : Blank (seg xs i b)) (hv : Blank v) (h0 : i = 0 ∨ i < b ∨ b = xs.length) :
    Clean xs ((i : Int) + A, (b : Int) - B, (v.drop A).take (v.length - B - A)) := by
  have hlo := hn.lo
  have e1 : (i : Int) + A = ((i + A : Nat) : Int) := by omega
  have e2 : (b : Int) - B = ((b - B : Nat) : Int) := by omega
  have hl := seg_len (b := i) hb
  have at_ : ∀ k, k < b - i → blank (xs.getD (i + k) 0) = true := fun k hk => by
    rw [← seg_getD hb hk]; exact hg _ (getD_mem (by omega))
  refine ⟨by dsimp only; omega, by dsimp only; omega, by dsimp only; omega, ?_, ?_, ?_⟩
  · dsimp only
    rw [e1, e2, cut_seg (by omega), ← mid_seg hb (by omega)]
    exact fun x hx => hg x (mem_mid hx)
  · exact fun x hx => hv x (mem_mid hx)
  · dsimp only
    intro g1 g2
    rw [show ((i : Int) + A - 1).toNat = i + A - 1 by omega, show ((i : Int) + A).toNat = i + A by omega]
    by_cases hA : A = 0
    · right
      rcases h0 with h0 | h0 | h0
      · omega
      · exact at_ A (by omega)
      · exact at_ A (by omega)
    · left
      rw [show i + A - 1 = i + (A - 1) by omega]
      exact at_ (A - 1) (by omega)
theorem clean_aux {xs ys : List Int} : ∀ {S T : List (Int × Int)} {i j : Nat} {E : List (Int × Int × List Int)}, S.length = T.length → Lay xs i S → Lay ys j T →
    Edits xs ys i j (S.zip T ++ [(((xs.length : Int), (xs.length : Int)), ((ys.length : Int), (ys.length : Int)))]) E → ∀ p ∈ E, Clean xs p := by
  intro S
  induction S with
  | nil =>
    intro T i j E hl hx hy hE
    obtain rfl : T = [] := by
      cases T with
      | nil => rfl
      | cons _ _ => simp at hl
    obtain ⟨h1, h2⟩ := hx
    obtain ⟨h3, h4⟩ := hy
    rw [List.zip_nil_right, List.nil_append] at hE
    generalize hL : [(((xs.length : Int), (xs.length : Int)), ((ys.length : Int), (ys.length : Int)))] = L at hE
    cases hE with
    | nil => cases hL
    | @same i j b e f l r E hc hr =>
      injection hL with e1 e2
      subst e2
      cases hr
      intro p hp; cases hp
    | @diff i j b e f l A B r E hc hn hr =>
      injection hL with e1 e2
      injection e1 with e3 e4
      injection e3 with e5 e6
      injection e4 with e7 e8
      obtain rfl : xs.length = b := by omega
      obtain rfl : ys.length = f := by omega
      subst e2
      cases hr
      rw [cut_seg (Nat.le_refl _)] at hn ⊢
      intro p hp
      rw [List.mem_singleton] at hp
      subst hp
      exact one_clean h1 (Nat.le_refl _) hn h2 h4 (.inr (.inr rfl))
  | cons p S ih =>
    intro T i j E hl hx hy hE
    cases T with
    | nil => simp at hl
    | cons q T =>
      obtain ⟨b, e, rfl, h1, h2, h3, h4, h5, h6⟩ := hx
      obtain ⟨f, l, rfl, k1, k2, k3, k4, k5, k6⟩ := hy
      rw [List.zip_cons_cons, List.cons_append] at hE
      generalize hL : (((b : Int), (e : Int)), ((f : Int), (l : Int))) :: (S.zip T ++ [(((xs.length : Int), (xs.length : Int)), ((ys.length : Int), (ys.length : Int)))]) = L at hE
      have hl' : S.length = T.length := by simpa using hl
      cases hE with
      | nil => cases hL
      | @same i j b' e' f' l' r E hc hr =>
        injection hL with e1 e2
        injection e1 with e3 e4
        injection e3 with e5 e6
        injection e4 with e7 e8
        obtain rfl : e = e' := by omega
        obtain rfl : l = l' := by omega
        subst e2
        exact ih hl' h6 k6 hr
      | @diff i j b' e' f' l' A B r E hc hn hr =>
        injection hL with e1 e2
        injection e1 with e3 e4
        injection e3 with e5 e6
        injection e4 with e7 e8
        obtain rfl : b = b' := by omega
        obtain rfl : f = f' := by omega
        obtain rfl : e = e' := by omega
        obtain rfl : l = l' := by omega
        subst e2
        rw [cut_seg (by omega)] at hn ⊢
        refine List.forall_mem_cons.mpr ⟨one_clean h1 (by omega) hn h4 k4 ?_, ih hl' h6 k6 hr⟩
        rcases h5 with h5 | h5
        · exact .inl h5
        · exact .inr (.inl h5)
theorem edits_clean {xs ys : List Int} {E : List (Int × Int × List Int)} {W : List (List Int)} (h : Edits xs ys 0 0 (keptE xs ys) E) (hx : Text W xs) (hy : Text W ys) (hW : ∀ w ∈ W, WordOk w) : ∀ p ∈ E, Clean xs p := by
  have e1 := scan_text hx hW
  have e2 := scan_text hy hW
  have hc := e1.trans e2.symm
  unfold keptE at h
  rw [keep_zip xs ys _ _ hc] at h
  exact clean_aux (by simpa using congrArg List.length hc) (lay0 xs) (lay0 ys) h
/-- the law's loop between two turns -/
def loJ (xs : List Int) (E : List (Int × Int × List Int)) (vw vo : Value) (l1 l2 tg el dr : Addr) (evs : List Value) (base : List (Addr × Obj)) (i : Nat) (m₁ : Str → Option Value) (n₁ : List (Addr × Obj)) : Prop :=
  ∃ (f : Addr) (fk : Nat) (fvs : List Value) (ta : Tok), m₁ "words" = some vw ∧ m₁ "others" = some vo ∧ m₁ "old" = some (.ref l1) ∧ m₁ "new" = some (.ref l2) ∧ m₁ "given" = some (.ref tg) ∧ m₁ "edits" = some (.ref el) ∧ m₁ "found" = some (.ref f) ∧
    m₁ "at" = some (.int (uptoOf xs E.reverse i) ta) ∧ n₁ = (f, listOf fvs.toArray fk) :: (dr, listOf evs.reverse.toArray 0) :: base ∧ IntsAre fvs ((E.reverse.take i).foldl stepE xs) ∧ fvs.length ≤ 36 + 68 * i
theorem step_next {E : List (Int × Int × List Int)} {xs ff : List Int} {i : Nat} {p : Int × Int × List Int} (hi : i < E.reverse.length) (hp : E.reverse.getD i (0, 0, []) = p) (hf : (E.reverse.take i).foldl stepE xs = ff) :
    (E.reverse.take (i + 1)).foldl stepE xs = stepE ff p := by
  rw [List.take_succ_eq_append_getElem hi, List.foldl_append, hf]
  have h2 : E.reverse.getD i (0, 0, []) = E.reverse[i] := by
    rw [List.getD_eq_getElem?_getD, List.getElem?_eq_getElem hi, Option.getD_some]
  rw [← hp, h2]
  rfl
theorem upto_next {E : List (Int × Int × List Int)} {xs : List Int} {i : Nat} {p : Int × Int × List Int} (hp : E.reverse.getD i (0, 0, []) = p) : uptoOf xs E.reverse (i + 1) = p.1 := by
  unfold uptoOf
  rw [if_neg (Nat.succ_ne_zero i), Nat.add_sub_cancel, hp]
section
local macro_rules | `(tactic| tb_start) => `(tactic| first | assumption | (simp only [depth_deeper, depth_caller, units_deeper, units_caller, units_in1, depth_in1, List.length_tail, List.length_cons, List.length_nil] at *; first | omega | decide) | decide)
local macro_rules | `(tactic| walk_at "exec Assign cons ListComp") => `(tactic| ((with_reducible show wpAny _ _ (exec (Stmt.Assign [Expr.Name "words" _] _ _) _) _ _ _); refine Hold.out ?_))
local macro_rules | `(tactic| walk_at "CompSrc") => `(tactic| ((rename WMark => hW9); refine Hold.out ?_))
local macro_rules | `(tactic| walk_at "CompEnd") => `(tactic| ((rename WMark => hW9); refine Hold.out ?_))
local macro_rules | `(tactic| walk_at "FinA") => `(tactic| ((rename WMark => hW9); refine Hold.out ?_))
local macro_rules | `(tactic| walk_at "exec Assign cons IfExp") => `(tactic| ((fail_if_success (with_reducible show wpAny _ _ _ (MidE _ _ _ _) _ _)); (with_reducible show wpAny _ _ (exec (Stmt.Assign [Expr.Name "others" _] _ _) _) _ _ _); refine Hold.out ?_))
local macro_rules | `(tactic| walk_at "call ref") => `(tactic| ((with_reducible show wpAny _ _ (call (Value.ref 78) _) _ _ _); refine Hold.out ?_))
local macro_rules | `(tactic| walk_at "call ref") => `(tactic| ((with_reducible show wpAny _ _ (call (Value.ref 71) _) _ _ _); refine Hold.out ?_))
local macro_rules | `(tactic| walk_at "call ref") => `(tactic| ((with_reducible show wpAny _ _ (call (Value.ref 43) _) _ _ _); refine Hold.out ?_))
local macro_rules | `(tactic| walk_at "call ref") => `(tactic| ((with_reducible show wpAny _ _ (call (Value.ref 83) _) _ _ _); refine Hold.out ?_))
local macro_rules | `(tactic| walk_at "subscriptTail Name Slice ref ref") => `(tactic| (k_here; (with_reducible show wpAny _ _ (subscriptTail _ (PySem.Expr.Slice none none (some _) _) (Value.ref _) (Value.ref _)) _ _ _); k_dflt (refine' krv_lit ?F ?N ?l ?k rfl ?_ ?s ?t ?z; (case F => k_asm); (case N => k_asm); (case l => exact News.isList (by k_asm) (by ktr_rel)); (case k => exact IsPart.int _ _); (case s => with_unfolding_all rfl); (case t => kmk_pure); (case z => (simp only [sizeLine_eq, List.size_toArray]; omega))); intro D' h' F' N' l1; (try k_lt l1); (try k_sweep)))
local macro_rules | `(tactic| walk_at "exec If BoolOp cons nil") => `(tactic| ((fail_if_success (with_reducible show wpAny _ _ _ (MidE _ _ _ _) _ _)); (with_reducible show wpAny _ _ (exec (Stmt.If (Expr.BoolOp BoolOp.And _ _) _ _ _) _) _ _ _); refine Hold.out ?_))
local macro_rules | `(tactic| walk_at "compareOp Eq ref ref") => `(tactic| (k_here; (with_reducible show wpAny _ _ (compareOp CmpOp.Eq (Value.ref _) (Value.ref _)) _ _ _); k_dflt (refine' cmp_none ?N ?ma ?Da ?sa ?mb ?hn ?hu ?_; (case N => k_asm); (case ma => k_mem); (case Da => with_reducible assumption); (case sa => kqd_sub); (case mb => k_mem); (case hn => with_reducible assumption); (case hu => ke_room); k_whole)))
local macro_rules | `(tactic| walk_at "compareOp NotEq ref ref") => `(tactic| (k_here; (with_reducible show wpAny _ _ (compareOp CmpOp.NotEq (Value.ref _) (Value.ref _)) _ _ _); k_dflt (refine' cmp_given ?N ?ma ?mb ?m1 ?m2 ?m3 ?m4 ?i1 ?i2 ?i3 ?i4 ?hu ?_; (case N => k_asm); (case ma => k_mem); (case mb => k_mem); (case m1 => k_mem); (case m2 => k_mem); (case m3 => k_mem); (case m4 => k_mem); (case i1 => with_reducible assumption); (case i2 => with_reducible assumption); (case i3 => with_reducible assumption); (case i4 => with_reducible assumption); (case hu => ke_room); k_whole)))
local macro_rules | `(tactic| walk_at "compareOp NotEq ref ref") => `(tactic| (k_here; (with_reducible show wpAny _ _ (compareOp CmpOp.NotEq (Value.ref _) (Value.ref _)) _ _ _); k_dflt (refine' cmp_words ?N ?hv ?hw ?sa ?hu ?_; (case N => k_asm); (case hv => with_reducible assumption); (case hw => with_reducible assumption); (case sa => kqd_sub); (case hu => ke_room); k_whole)))
local macro_rules | `(tactic| walk_at "subscriptTail Name Constant ref int") => `(tactic| (k_here; (with_reducible show wpAny _ _ (subscriptTail _ _ (Value.ref _) (Value.int _ _)) _ _ _); k_dflt (refine' item_first ?k1 ?k2 ?k3 ?_ ?k4; (case k1 => exact News.isList (by k_asm) (by ktr_rel)); (case k2 => with_reducible assumption); (case k3 => assumption); (case k4 => with_unfolding_all rfl)); intro _))
local macro_rules | `(tactic| walk_at "subscriptTail Name UnaryOp ref int") => `(tactic| (k_here; (with_reducible show wpAny _ _ (subscriptTail _ _ (Value.ref _) (Value.int _ _)) _ _ _); k_dflt (with_unfolding_all refine' item_last ?k1 ?k2 ?k3 ?_ ?k4; (case k1 => exact News.isList (by k_asm) (by ktr_rel)); (case k2 => with_reducible assumption); (case k3 => assumption); (case k4 => with_unfolding_all rfl)); intro _))
theorem top10 : PySem.Challenge.rw_pq0274_01.Holds := Mine.hd (by
  w_top off
  w_strict (
  k_go0
  (all_goals try k_fold)
  k_steps
  refine Hold.mk ?_
  rename Fr _ _ _ _ => F9
  rename News _ _ _ _ => N9
  rename_i hi9 _ D9 _ _ ne9 _ c9 d9
  obtain ⟨xs9, hi9, hx9⟩ := deck_gen hi9
  generalize bindL _ _ _ = m9 at F9
  have hcD := ne9.2
  replace N9 := nsub (b := [(D9, listOf ys.toArray ys.length), (_, c9)]) N9 (by kqd_sub)
  clear ne9
  have hW9 : WMark := ⟨⟩
  rename Shared => s1
  k_dflt (refine LCg.Assign_ListComp_U (F₀ := by k_asm) (by rfl) (by with_unfolding_all rfl) (by with_unfolding_all rfl) (by decide) (by rfl) (by decide) (by rfl) (by rfl) (by rfl) ?_)
  k_steps
  refine Hold.mk ?_
  rename IsRange _ _ _ _ _ _ _ _ => hr9
  rename Fr _ _ _ _ => F8
  rename News _ _ _ _ => N8
  rename IntsAre _ (List.tail _) => hi8
  have hq0 : 0 ≤ xs9.headD 0 % 9 := Int.emod_nonneg _ (by decide)
  have hq9 : xs9.headD 0 % 9 < 9 := Int.emod_lt_of_pos _ (by decide)
  have hx8 : xs9.tail.length ≤ 60 := by rw [List.length_tail]; omega
  generalize xs9.headD 0 % 9 = q9 at hr9 hq0 hq9
  generalize xs9.tail = xs8 at hi8 hx8
  clear hi9 hx9 F9 N9
  refine LCg.CompSrc.range (by rfl) F8 N8 hr9 (range_q hq0 hq9).1 (range_q hq0 hq9).2 (by rw [sizeLine_eq]; omega) fun g' => ?_
  refine rest_inv (WdJ D9 _ c9) ?turn ?fin _ 0 [] _ (Nat.zero_add _) ⟨_, _, _, _, rfl, .head _, hi8, hx8, List.forall_mem_cons.mpr ⟨hcD, fun _ h => nomatch h⟩, WIn.nil, rfl⟩
  case turn =>
    clear F8 N8 hi8
    rintro i ys news v I oI C oC D' m₂ h tk E' hlt ⟨its, n, xs, own, rfl, hcm, hi, hx, hne, hwi, hyl⟩ ⟨t9, rfl⟩ hC hx2 F N off ne
    have off0 := off
    obtain ⟨⟨e1, e2, e3⟩, e7⟩ := off
    k_steps
    rename Fr _ _ _ _ => F7
    rename News _ _ _ _ => N7
    rename_i l7 vs7 its7 n7 _ _ hi7 hv7 hl7
    refine Hold.mk ?_
    exact LCg.CompEnd.intro F7 N7 ((D9, listOf its7 n7) :: (l7, listOf vs7.toArray 0) :: own) (by kqd_sub) ⟨⟨e1, e2, e3⟩, ⟨Nat.ne_of_gt hl7.1, Nat.ne_of_gt hl7.2.1, Nat.ne_of_gt hl7.2.2.1⟩, e7⟩ trivial
      ⟨its7, n7, _, (l7, listOf vs7.toArray 0) :: own, rfl, .tail _ hcm, hi7, (by rw [List.length_tail]; omega), List.forall_mem_cons.mpr ⟨Nat.ne_of_gt hl7.2.2.2.1, hne⟩, (hwi.mono fun p hp => .tail _ hp).append (WIn.cons (.head _) hv7 (wordOf_ok _) WIn.nil), by rw [List.length_append, hyl]; rfl⟩
  case fin =>
    clear F8 N8 hi8
    refine fun ys news hJ => ?_
    unfold LCg.FinA
    obtain ⟨its, n, xs, own, rfl, hcm, hi, hx, hne, ⟨W, hW1, hW2, hW3⟩, hyl⟩ := hJ
    rintro D h tk F N off
    obtain ⟨e1, e3⟩ := off
    have hfz : ∀ p ∈ (D, listOf ys.toArray ys.length) :: own, p.1 ≠ D9 := List.forall_mem_cons.mpr ⟨Ne.symm e1, hne⟩
    have hWD : DatIn ((D, listOf ys.toArray ys.length) :: own) (.ref D) (.list (W.map dI)) := .list (.head _) (hW1.mono fun p hp => .tail _ hp)
    have hW8 : W.length ≤ 8 := by omega
    replace N := nsub (b := (D9, listOf its n) :: (D, listOf ys.toArray ys.length) :: own) N (by kqd_sub)
    clear e1 e3
    k_steps
    refine Hold.mk ?_
    clear N F
    rename Fr _ _ _ _ => F6
    rename News _ _ _ _ => N6
    rename IntsAre _ (List.tail _) => hi6
    rename_i its6 n6 _ _ _
    have hx6 : xs.tail.length ≤ 60 := by rw [List.length_tail]; omega
    generalize xs.tail = xs6 at hi6 hx6
    clear hi hx
    refine stmt_mid F6 (OtX D9 (s1.heap.objs.size + 1) c9) ?_ ?_
    · k_steps
      · rename Fr _ _ _ _ => F5
        rename News _ _ _ _ => N5
        exact MidE.intro F5 N5 ⟨its6, n6, xs6, (D, listOf ys.toArray ys.length) :: own, W, W, _, _, rfl, rfl, rfl, hfz, .tail _ hcm, hi6, hx6, hWD, hWD, hW2, hW2, hW8, by omega⟩
      · refine Hold.mk ?_
        k_dflt (refine t_changed0 (by k_asm) F6 (by k_asm) N6 (by k_asm) rfl hi6 hfz (by tb_start) hWD (by omega) hW2 (by tb_start) (by tb_start) ?_)
        intro l5 vs5 k5 W5 its5 n5 xs5 own5 h5 tk5 F5 N5 ab5 hm5 hd5 hok5 hln5 hi5 hx5
        clear F6 N6
        k_steps
        rename Fr _ _ _ _ => F5
        rename News _ _ _ _ => N5
        exact MidE.intro F5 N5 ⟨its5, n5, xs5, own5 ++ (D, listOf ys.toArray ys.length) :: own, W, W5, _, _, rfl, rfl, rfl, List.forall_mem_append.mpr ⟨abv_ne ab5 (.head _), hfz⟩, List.mem_append_right _ (.tail _ hcm), hi5, by omega,
          hWD.mono (fun p hp => List.mem_append_right _ hp), .list (List.mem_append_left _ hm5) hd5, hW2, hok5, hW8, by omega⟩
    · clear F6 N6 hi6 hx6 hWD hfz hW1 hW2 hW3 hW8 hcm hne hyl
      rintro m₁ news₁ h₁ tk₁ F N ⟨its, n, xs, own, W, V, vw, vo, g1, g2, rfl, hne, hcm, hi, hx, hw, hv, hW, hV, hW8, hV16⟩
      have F₂ := fr2 F g1 g2
      clear F g1 g2
      k_steps
      refine Hold.mk ?_
      k_dflt (refine t_text0 (by k_asm) F₂ (by k_asm) N (by k_asm) rfl hi hne (by omega) hw (by omega) (fun w hw' => (hW w hw').short) (by tb_start) (by tb_start) ?_)
      intro l1 vs1 k1 t1 its1 n1 xs1 own1 h1 tk1 F1 N1 ab1 hm1 hi1 hd1 hx1 ht1 hl1
      clear F₂ N hi
      have hne1 : ∀ p ∈ own1 ++ own, p.1 ≠ D9 := List.forall_mem_append.mpr ⟨abv_ne ab1 (.head _), hne⟩
      k_steps
      refine Hold.mk ?_
      k_dflt (refine t_text0 (by k_asm) F1 (by k_asm) N1 (by k_asm) rfl hd1 hne1 (by omega) (hv.mono fun p hp => List.mem_append_right _ hp) (by omega) (fun w hw' => (hV w hw').short) (by tb_start) (by tb_start) ?_)
      intro l2 vs2 k2 t2 its2 n2 xs2 own2 h2 tk2 F2 N2 ab2 hm2 hi2 hd2 hx2 ht2 hl2
      have N3 := nsub (b := (l1, listOf vs1.toArray k1) :: (l2, listOf vs2.toArray k2) :: own) N2 (List.forall_mem_cons.mpr ⟨.tail _ (List.mem_append_right _ (List.mem_append_left _ hm1)), List.forall_mem_cons.mpr ⟨.tail _ (List.mem_append_left _ hm2), fun p hp => .tail _ (List.mem_append_right _ (List.mem_append_right _ hp))⟩⟩)
      have hT1 : t1.length ≤ 36 := by omega
      have hT2 : t2.length ≤ 68 := by omega
      clear N1 N2 hm1 hm2 ab1 ab2 hd1 hd2 hx1 hx2 hne1 F1 hl1 hl2
      k_steps
      refine Hold.mk ?_
      try clear F2
      try clear N3
      rename Fr _ _ _ _ => F0
      rename News _ _ _ _ => N0
      k_dflt (refine t_edits (by k_asm) F0 (by k_asm) N0 (by k_asm) rfl (dI_in (by ktr_rel) hi1) (dI_in (by ktr_rel) hi2) (by omega) (by omega) (sep_kept _ _) (by tb_start) (by tb_start) ?_)
      intro E u own3 h3 tk3 F3 N3 ab3 hE hu
      clear F0 N0
      obtain ⟨el, evs, en, rfl, hem, hed⟩ := dL_out hu
      have hG := edits_all hE
      k_steps
      refine Hold.mk ?_
      rename Fr _ _ _ _ => F9
      rename News _ _ _ _ => N9
      rename_i g1 cg1 _ _ g2 cg2 _ _ tg _ _ fd cf _ _ _ _ _ _ _ _ _ _
      obtain ⟨base, N8, b1, b2, b3, b4, b5, b6, b7, b8, b9⟩ := pack5 (fd := (fd, listOf vs1.toArray cf)) (l1 := (l1, listOf vs1.toArray k1)) (l2 := (l2, listOf vs2.toArray k2)) (tg := (tg, tupOf [.ref g1, .ref g2] 0)) (g1 := (g1, listOf vs1.toArray cg1)) (g2 := (g2, listOf vs2.toArray cg2)) (B := own3 ++ own) N9 (by kqd_sub)
        (fun base => (el, listOf evs.toArray en) ∈ base ∧ DatAll base evs (E.map d3) ∧ DatIn base vw (.list (W.map dI)) ∧ DatIn base vo (.list (V.map dI)))
        ⟨by ktr_rel, hed.mono (by intro p hp; ktr_rel), hw.mono (by intro p hp; ktr_rel), hv.mono (by intro p hp; ktr_rel)⟩
      have hev := b7.length
      rw [List.length_map] at hev
      have hEl := hG.few
      clear N9 hem hed hu ab3 hw hv
      show wpAny _ _ _ _ _ { s1 with heap := _, toks := _ }
      refine For_turns F9 ?_
      k_steps
      refine Hold.mk ?_
      try clear F9
      rename Fr _ _ _ _ => F9
      rename News _ _ _ _ => N9
      rename_i dr _ _
      show wpAny _ _ _ _ _ { s1 with heap := _, toks := _ }
      have hrv : DatAll base evs.reverse (E.reverse.map d3) := by rw [List.map_reverse]; exact dat_reverse b7
      have hil := IntsAre.length hi1
      refine for_inv (vs := evs.reverse) (n := 0) (loJ t1 E vw vo l1 l2 tg el dr evs base) rfl F9 (nsub (b := (fd, listOf vs1.toArray cf) :: (dr, listOf evs.reverse.toArray 0) :: base) N9 (by kqd_sub)) ⟨fd, cf, vs1, _, rfl, rfl, rfl, rfl, rfl, rfl, rfl, rfl, rfl, hi1, by omega⟩ ?keep ?turn ?done
      case keep =>
        rintro i m₁ n₁ ⟨f, fk, fvs, ta, q1, q2, q3, q4, q5, q6, q7, q8, rfl, hf, hfl⟩
        exact .tail _ (.head _)
      case done =>
        clear N9 F9
        rintro m₁ n₁ h tk ⟨f, fk, fvs, ta, q1, q2, q3, q4, q5, q6, q7, q8, rfl, hf, hfl⟩ F N
        obtain ⟨aw, ws9, nw9, rfl, hwm, hwd⟩ := dL_out b8
        obtain ⟨ao, os9, no9, rfl, hom, hod⟩ := dL_out b9
        have hn9 := hG.none
        have hdn : (E.reverse.take evs.reverse.length).foldl stepE t1 = t2 := by
          rw [List.take_of_length_le (by simp only [List.length_reverse]; omega)]
          exact hG.done
        rw [hdn] at hf
        clear hdn
        have hfvl := IntsAre.length hf
        have F8 := fr8 F q1 q2 q3 q4 q5 q6 q7 q8
        clear F q1 q2 q3 q4 q5 q6 q7 q8
        refine gen_toks (s := s1) ?_
        intro tk9
        iterate 35 (first | walk1 | (dsimp only; walk1) | skip)
        · rename (_ != _) = true => hq9
          exact absurd hq9 (by rw [bne_self_eq_false]; decide)
        iterate 40 (first | walk1 | (dsimp only; walk1) | skip)
        · rename W = V => hWV
          subst hWV
          rename Fr _ _ _ _ => F7
          rename News _ _ _ _ => N7
          refine Hold.mk ?_
          k_dflt (refine t_touched (by k_asm) F7 (by k_asm) N7 (by k_asm) rfl (dI_in (by ktr_rel) hi1) (.list (by ktr_rel) (b7.mono (by intro p hp; ktr_rel))) (by omega) (edits_clean hE ht1 ht2 hW) (fun p hp => by have := hG.short p hp; omega) (by tb_start) (by tb_start) ?_)
          intro own6 h6 tk6 F6 N6
          k_steps
        · rename ¬ W = V => hWV
          have e9 : (!decide (W = V)) = true := by rw [decide_eq_false hWV]; rfl
          generalize (!decide (W = V)) = r9 at e9 ⊢
          subst e9
          k_steps
      case turn =>
        clear N9 F9
        rintro I hI i v m₁ n₁ h tk oI hv ⟨f, fk, fvs, ta, q1, q2, q3, q4, q5, q6, q7, q8, rfl, hf, hfl⟩ F N hne
        obtain ⟨hi', hp⟩ := d3_get hrv hv
        have hgd := hG.good i hi'
        have hsh := hG.short _ (List.mem_reverse.mp (getD_mem (d := (0, 0, [])) hi'))
        generalize hpq : E.reverse.getD i (0, 0, []) = q at hp hgd hsh
        obtain ⟨b, e, cd⟩ := q
        obtain ⟨T, c, cvs, n1, eT, u1, u2, rfl, hT, hc, hic⟩ := d3_out hp
        have hcvl := IntsAre.length hic
        have hfvl := IntsAre.length hf
        generalize hff : (E.reverse.take i).foldl stepE t1 = ff at hf hfvl
        obtain ⟨z1, z2, z3, z4, z5, z6⟩ := hgd
        dsimp only at hT hic z1 z2 z3 z4 z5 z6 hsh hcvl
        generalize uptoOf t1 E.reverse i = up at q8 z3
        have F8 := fr8 F q1 q2 q3 q4 q5 q6 q7 q8
        clear F q1 q2 q3 q4 q5 q6 q7 q8
        k_steps
        refine gen_toks (s := s1) ?_
        intro tk9
        refine test_link ?_
        iterate 36 (first | walk1 | (dsimp only; walk1) | skip)
        · rename _ = cd => hq9
          exact absurd hq9 z4
        k_steps
        refine Hold.mk ?_
        rename Fr _ _ _ _ => F7
        rename News _ _ _ _ => N7
        refine gen_toks (s := s1) ?_
        intro tk8
        refine stmt_same F7 N7 ?_ ?_
        · iterate 25 (first | walk1 | (dsimp only; walk1) | skip)
          · rename Fr _ _ _ _ => F6
            rename News _ _ _ _ => N6
            exact MidE.intro F6 (nsub N6 (by kqd_sub)) ⟨rfl, rfl⟩
          iterate 25 (first | walk1 | (dsimp only; walk1) | skip)
          · rename Fr _ _ _ _ => F6
            rename News _ _ _ _ => N6
            exact MidE.intro F6 (nsub N6 (by kqd_sub)) ⟨rfl, rfl⟩
          rename decide (List.take (min e.toNat t1.length - b.toNat) (List.drop b.toNat t1) = []) = false => y1
          rename decide (cd = []) = false => y2
          have y3 := of_decide_eq_false y1
          have y4 := of_decide_eq_false y2
          have y5 : 0 < (List.take (min e.toNat t1.length - b.toNat) (List.drop b.toNat t1)).length := List.length_pos_iff.mpr y3
          have y6 : 0 < cd.length := List.length_pos_iff.mpr y4
          replace z5 := z5 y3 y4
          replace z6 := z6 y3 y4
          iterate 24 (first | walk1 | (dsimp only; walk1) | skip)
          · rename (List.take (min e.toNat t1.length - b.toNat) (List.drop b.toNat t1)).getD 0 0 = cd.getD 0 0 => hq9
            exact absurd hq9 z5
          iterate 24 (first | walk1 | (dsimp only; walk1) | skip)
          · rename (List.take (min e.toNat t1.length - b.toNat) (List.drop b.toNat t1)).getD _ 0 = cd.getD _ 0 => hq9
            exact absurd hq9 z6
          · iterate 12 (first | walk1 | (dsimp only; walk1) | skip)
            rename Fr _ _ _ _ => F6
            rename News _ _ _ _ => N6
            exact MidE.intro F6 (nsub N6 (by kqd_sub)) ⟨rfl, rfl⟩
        · clear F7 N7
          intro h8 tk8 F7 N7
          iterate 100 (first | walk1 | (dsimp only; walk1) | skip)
          rename Fr _ _ _ _ => F6
          rename News _ _ _ _ => N6
          rename IntsAre _ (List.take b.toNat ff ++ cd ++ List.drop e.toNat ff) => hi6
          rename Addr => D6
          rename List Value => ws6
          rename _ < D6 ∧ _ < D6 ∧ _ < D6 ∧ _ < D6 ∧ I < D6 ∧ _ => lt6
          have hw6 := IntsAre.length hi6
          rw [List.length_append, List.length_append, List.length_take, List.length_drop] at hw6
          exact ForE.intro F6 (nsub (b := (I, oI) :: (D6, listOf ws6.toArray 0) :: (dr, listOf evs.reverse.toArray 0) :: base) N6 (by kqd_sub)) (List.forall_mem_cons.mpr ⟨Nat.ne_of_gt lt6.2.2.2.2.1, fun p hp => hne p (.tail _ hp)⟩)
            ⟨D6, _, ws6, u1, rfl, rfl, rfl, rfl, rfl, rfl, rfl, congrArg (fun z => some (Value.int z u1)) (upto_next hpq).symm, rfl, by rw [step_next hi' hpq hff]; exact hi6, by omega⟩
  ))
end
end
end
end
end
end Mine

theorem PySem.Challenge.cw_pq0274_01_holds : PySem.Challenge.rw_pq0274_01.Holds := by
  exact Mine.top10
