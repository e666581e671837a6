import PyProof.Rows.All
import Wide.All
import OpenK.AllK
import Wide.FinOn
import KE.KStateDown
import KE.KDictKeyed
import KE.KDictDisplayH
import KE.GoesEnum
import Lean
import HandS.ForMost
import HandS.Defaults
import HandS.Property
import HandS.Zip
import HandS.Walk
import HandS.IsInst
import HandS.Style
import HandS.Flow
import HandS.TupAny
import HandS.TupLe
import HandS.Small
import HandS.Exc
import HandS.WordsExc
import HandS.Head0
import HandS.Head1
import HandS.Head2
import HandS.HeadEnd
import HandS.HeadHook1
import HandS.HeadHook2
import HandS.HeadNt
import HandS.Star
import HandS.Conv
import HandS.Wide
import HandS.WideMore
import HandS.WideBits
import HandS.NoneIn
import HandS.More
import HandS.RaiseMore
import HandS.FStrTup
import HandS.Rev
import PySem.Challenge.RW_pointrents_k71_whole_bundle_partings
set_option Elab.async false
set_option linter.all false
set_option maxRecDepth 100000
set_option maxHeartbeats 4000000
/-! Plain mathematics: courses in their order, the breadth-first row of nodes, the least course that parts. -/
namespace PB

/-! ### the order of courses -/
def lexLt : List Int → List Int → Prop
  | _, [] => False
  | [], _ :: _ => True
  | a :: as, b :: bs => a < b ∨ (a = b ∧ lexLt as bs)
def cLt (a b : List Int) : Prop := a.length < b.length ∨ (a.length = b.length ∧ lexLt a b)
def cLe (a b : List Int) : Prop := a = b ∨ cLt a b

theorem lexLt_irrefl : ∀ a : List Int, ¬ lexLt a a
  | [] => fun h => h
  | a :: as => fun h => by
    rcases h with h | ⟨_, h⟩
    · omega
    · exact lexLt_irrefl as h
theorem lexLt_trans : ∀ {a b c : List Int}, lexLt a b → lexLt b c → lexLt a c
  | _, _, [], _, h => by simp [lexLt] at h
  | _, [], _ :: _, h, _ => by simp [lexLt] at h
  | [], _ :: _, _ :: _, _, _ => trivial
  | a :: as, b :: bs, c :: cs, h1, h2 => by
    rcases h1 with h1 | ⟨e1, h1⟩
    · rcases h2 with h2 | ⟨e2, h2⟩
      · exact .inl (by omega)
      · exact .inl (by omega)
    · rcases h2 with h2 | ⟨e2, h2⟩
      · exact .inl (by omega)
      · exact .inr ⟨by omega, lexLt_trans h1 h2⟩
theorem lexLt_tri : ∀ {a b : List Int}, a.length = b.length → a = b ∨ lexLt a b ∨ lexLt b a
  | [], [], _ => .inl rfl
  | [], _ :: _, h => by simp at h
  | _ :: _, [], h => by simp at h
  | a :: as, b :: bs, h => by
    rcases Int.lt_trichotomy a b with q | q | q
    · exact .inr (.inl (.inl q))
    · have h' : as.length = bs.length := by simpa using h
      rcases lexLt_tri h' with z | z | z
      · exact .inl (by rw [q, z])
      · exact .inr (.inl (.inr ⟨q, z⟩))
      · exact .inr (.inr (.inr ⟨q.symm, z⟩))
    · exact .inr (.inr (.inl q))
theorem lexLt_append {x y : List Int} : ∀ {a b : List Int}, a.length = b.length → lexLt a b → lexLt (a ++ x) (b ++ y)
  | [], [], _, h => by simp [lexLt] at h
  | [], _ :: _, h, _ => by simp at h
  | _ :: _, [], h, _ => by simp at h
  | a :: as, b :: bs, h, q => by
    rcases q with q | ⟨e, q⟩
    · exact .inl q
    · exact .inr ⟨e, lexLt_append (by simpa using h) q⟩
theorem lexLt_snoc {x y : Int} (h : x < y) : ∀ a : List Int, lexLt (a ++ [x]) (a ++ [y])
  | [] => .inl h
  | _ :: as => .inr ⟨rfl, lexLt_snoc h as⟩
theorem cLt_irrefl (a : List Int) : ¬ cLt a a := fun h => by
  rcases h with h | ⟨_, h⟩
  · omega
  · exact lexLt_irrefl a h
theorem cLt_trans {a b c : List Int} (h1 : cLt a b) (h2 : cLt b c) : cLt a c := by
  rcases h1 with h1 | ⟨e1, h1⟩
  · rcases h2 with h2 | ⟨e2, h2⟩
    · exact .inl (by omega)
    · exact .inl (by omega)
  · rcases h2 with h2 | ⟨e2, h2⟩
    · exact .inl (by omega)
    · exact .inr ⟨by omega, lexLt_trans h1 h2⟩
theorem cLt_tri (a b : List Int) : a = b ∨ cLt a b ∨ cLt b a := by
  rcases Nat.lt_trichotomy a.length b.length with q | q | q
  · exact .inr (.inl (.inl q))
  · rcases lexLt_tri q with z | z | z
    · exact .inl z
    · exact .inr (.inl (.inr ⟨q, z⟩))
    · exact .inr (.inr (.inr ⟨q.symm, z⟩))
  · exact .inr (.inr (.inl q))
theorem cLt_le {a b c : List Int} (h1 : cLt a b) (h2 : cLe b c) : cLt a c := by
  rcases h2 with e | h2
  · exact e ▸ h1
  · exact cLt_trans h1 h2
theorem cLe_lt {a b c : List Int} (h1 : cLe a b) (h2 : cLt b c) : cLt a c := by
  rcases h1 with e | h1
  · exact e ▸ h2
  · exact cLt_trans h1 h2
theorem cLe_refl (a : List Int) : cLe a a := .inl rfl
theorem cLe_trans {a b c : List Int} (h1 : cLe a b) (h2 : cLe b c) : cLe a c := by
  rcases h1 with e | h1
  · exact e ▸ h2
  · exact .inr (cLt_le h1 h2)
theorem cLe_antisymm {a b : List Int} (h1 : cLe a b) (h2 : cLe b a) : a = b := by
  rcases h1 with e | h1
  · exact e
  · exact (cLt_irrefl a (cLt_le h1 h2)).elim
theorem cLt_snoc {a b : List Int} (h : cLt a b) (x y : Int) : cLt (a ++ [x]) (b ++ [y]) := by
  rcases h with h | ⟨e, h⟩
  · exact .inl (by simp; omega)
  · exact .inr ⟨by simp [e], lexLt_append e h⟩
theorem cLt_snoc_same {x y : Int} (h : x < y) (a : List Int) : cLt (a ++ [x]) (a ++ [y]) := .inr ⟨by simp, lexLt_snoc h a⟩
theorem cLe_snoc {a b : List Int} (h : cLe a b) (x : Int) : cLe (a ++ [x]) (b ++ [x]) := by
  rcases h with e | h
  · exact .inl (by rw [e])
  · exact .inr (cLt_snoc h x x)
theorem cLe_append (a d : List Int) : cLe a (a ++ d) := by
  cases d with
  | nil => exact .inl (by simp)
  | cons x d => exact .inr (.inl (by simp))
theorem cLt_len {a b : List Int} (h : cLe a b) : a.length ≤ b.length := by
  rcases h with e | h | ⟨e, _⟩
  · rw [e]; exact Nat.le_refl _
  · omega
  · omega

/-! ### runs -/
section
variable {S : Type} (nxt : S → Int → S) (gain : S → Int → Int)
def run (s : S) (c : List Int) : S := c.foldl nxt s
def tot : S → List Int → Int
  | _, [] => 0
  | s, m :: c => gain s m + tot (nxt s m) c
theorem run_snoc (s : S) (c : List Int) (m : Int) : run nxt s (c ++ [m]) = nxt (run nxt s c) m := by simp [run]
theorem tot_snoc : ∀ (c : List Int) (s : S) (m : Int), tot nxt gain s (c ++ [m]) = tot nxt gain s c + gain (run nxt s c) m
  | [], s, m => by simp [tot, run]
  | x :: c, s, m => by
    have := tot_snoc c (nxt s x) m
    simp only [List.cons_append, tot, this, run, List.foldl_cons, Int.add_assoc]
/-- a course whose sum is not 0 has a step that is not 0 -/
theorem tot_step : ∀ (c : List Int) (s : S), tot nxt gain s c ≠ 0 → ∃ p m q, c = p ++ m :: q ∧ gain (run nxt s p) m ≠ 0
  | [], s, h => by simp [tot] at h
  | x :: c, s, h => by
    by_cases hx : gain s x = 0
    · have h' : tot nxt gain (nxt s x) c ≠ 0 := by
        simp only [tot, hx] at h
        omega
      obtain ⟨p, m, q, e, g⟩ := tot_step c (nxt s x) h'
      exact ⟨x :: p, m, q, by rw [e]; rfl, g⟩
    · exact ⟨[], x, c, rfl, hx⟩
end

/-! ### the row of nodes in breadth -/
section
variable {S : Type} [DecidableEq S] (nxt : S → Int → S) (ms : List Int) (s0 : S)
abbrev En (S : Type) := S × List Int
def has (E : List (En S)) (s : S) : Bool := E.any fun e => decide (e.1 = s)
theorem has_iff {E : List (En S)} {s : S} : has E s = true ↔ s ∈ E.map (·.1) := by
  simp [has, List.any_eq_true]
def add1 (s : S) (c : List Int) (E : List (En S)) (m : Int) : List (En S) := if has E (nxt s m) = true then E else E ++ [(nxt s m, c ++ [m])]
def turn (E : List (En S)) (n : Nat) : List (En S) := match E[n]? with
  | none => E
  | some e => ms.foldl (add1 nxt e.1 e.2) E
def bfs : Nat → List (En S)
  | 0 => [(s0, [])]
  | n + 1 => turn nxt ms (bfs n) n

structure BInv (n : Nat) (E : List (En S)) : Prop where
  root : E[0]? = some (s0, [])
  run_ : ∀ e ∈ E, e.1 = run nxt s0 e.2
  mem : ∀ e ∈ E, ∀ x ∈ e.2, x ∈ ms
  srt : E.Pairwise fun a b => cLt a.2 b.2
  nd : (E.map (·.1)).Nodup
  frt : ∀ i e', n ≤ i → E[i]? = some e' → ∀ e ∈ E, ∀ m : Int, cLt e.2 (e'.2 ++ [m])
  cls : ∀ i e, i < n → E[i]? = some e → ∀ m ∈ ms, ∃ e' ∈ E, e'.1 = nxt e.1 m ∧ cLe e'.2 (e.2 ++ [m])
  frm : ∀ j, 0 < j → j < E.length → ∃ (i : Nat) (ei ej : En S) (m : Int), i < j ∧ i < n ∧ E[i]? = some ei ∧ E[j]? = some ej ∧ m ∈ ms ∧ ej = (nxt ei.1 m, ei.2 ++ [m])

theorem binv0 : BInv nxt ms s0 0 [(s0, [])] where
  root := rfl
  run_ := by intro e h; simp at h; subst h; rfl
  mem := by intro e h; simp at h; subst h; simp
  srt := by simp
  nd := by simp
  frt := by
    intro i e' _ h e he m
    simp at he; subst he
    exact .inl (by simp)
  cls := by intro i e h; omega
  frm := by intro j h1 h2; simp at h2; omega

/-- within a turn -/
structure FInv (E0 : List (En S)) (n : Nat) (s : S) (c : List Int) (done : List Int) (E : List (En S)) : Prop where
  pre : ∃ new, E = E0 ++ new ∧ ∀ e ∈ new, ∃ m ∈ done, e = (nxt s m, c ++ [m])
  srt : E.Pairwise fun a b => cLt a.2 b.2
  nd : (E.map (·.1)).Nodup
  cls : ∀ m ∈ done, ∃ e' ∈ E, e'.1 = nxt s m ∧ cLe e'.2 (c ++ [m])

theorem finv_step {E0 E : List (En S)} {n : Nat} {s : S} {c done : List Int} {m : Int} (I : FInv nxt E0 n s c done E) (hf : ∀ e ∈ E0, ∀ m : Int, cLt e.2 (c ++ [m])) (hm : ∀ x ∈ done, x < m) :
    FInv nxt E0 n s c (done ++ [m]) (add1 nxt s c E m) := by
  have low : ∀ e ∈ E, cLt e.2 (c ++ [m]) := by
    obtain ⟨new, e1, h1⟩ := I.pre
    intro e he
    rw [e1] at he
    rcases List.mem_append.mp he with h | h
    · exact hf e h m
    · obtain ⟨x, hx, rfl⟩ := h1 e h
      exact cLt_snoc_same (hm x hx) c
  unfold add1
  by_cases h : has E (nxt s m) = true
  · rw [if_pos h]
    refine ⟨?_, I.srt, I.nd, ?_⟩
    · obtain ⟨new, e1, h1⟩ := I.pre
      exact ⟨new, e1, fun e he => let ⟨x, hx, q⟩ := h1 e he; ⟨x, List.mem_append_left _ hx, q⟩⟩
    · intro x hx
      rcases List.mem_append.mp hx with hx | hx
      · exact I.cls x hx
      · have : x = m := by simpa using hx
        subst this
        obtain ⟨e', he', q⟩ := List.mem_map.mp (has_iff.mp h)
        exact ⟨e', he', q, .inr (low e' he')⟩
  · rw [if_neg h]
    refine ⟨?_, ?_, ?_, ?_⟩
    · obtain ⟨new, e1, h1⟩ := I.pre
      refine ⟨new ++ [(nxt s m, c ++ [m])], by rw [e1, List.append_assoc], fun e he => ?_⟩
      rcases List.mem_append.mp he with he | he
      · obtain ⟨x, hx, q⟩ := h1 e he
        exact ⟨x, List.mem_append_left _ hx, q⟩
      · exact ⟨m, by simp, by simpa using he⟩
    · rw [List.pairwise_append]
      refine ⟨I.srt, by simp, fun a ha b hb => ?_⟩
      have : b = (nxt s m, c ++ [m]) := by simpa using hb
      subst this
      exact low a ha
    · rw [List.map_append, List.nodup_append]
      refine ⟨I.nd, by simp, fun a ha b hb q => h (has_iff.mpr ?_)⟩
      have : b = nxt s m := by simpa using hb
      rw [← this, ← q]
      exact ha
    · intro x hx
      rcases List.mem_append.mp hx with hx | hx
      · obtain ⟨e', he', q⟩ := I.cls x hx
        exact ⟨e', List.mem_append_left _ he', q⟩
      · have : x = m := by simpa using hx
        subst this
        exact ⟨_, List.mem_append_right _ (List.mem_singleton.mpr rfl), rfl, cLe_refl _⟩
theorem finv_fold {E0 : List (En S)} {n : Nat} {s : S} {c : List Int} (hf : ∀ e ∈ E0, ∀ m : Int, cLt e.2 (c ++ [m])) : ∀ (rest done : List Int) (E : List (En S)), FInv nxt E0 n s c done E → (done ++ rest).Pairwise (· < ·) →
    FInv nxt E0 n s c (done ++ rest) (rest.foldl (add1 nxt s c) E)
  | [], done, E, I, _ => by simpa using I
  | m :: rest, done, E, I, hp => by
    have hm : ∀ x ∈ done, x < m := fun x hx => (List.pairwise_append.mp hp).2.2 x hx m (by simp)
    have := finv_fold hf rest (done ++ [m]) _ (finv_step nxt I hf hm) (by simpa using hp)
    simpa using this
theorem binv_turn {n : Nat} {E : List (En S)} (hms : ms.Pairwise (· < ·)) (B : BInv nxt ms s0 n E) : BInv nxt ms s0 (n + 1) (turn nxt ms E n) := by
  unfold turn
  cases hn : E[n]? with
  | none =>
    show BInv nxt ms s0 (n + 1) E
    have hl : E.length ≤ n := List.getElem?_eq_none_iff.mp hn
    refine ⟨B.root, B.run_, B.mem, B.srt, B.nd, fun i e' h q => ?_, fun i e h q => ?_, fun j h1 h2 => ?_⟩
    · have := (List.getElem?_eq_some_iff.mp q).1
      omega
    · have := (List.getElem?_eq_some_iff.mp q).1
      exact B.cls i e (by omega) q
    · obtain ⟨i, ei, ej, m, q1, q2, q3⟩ := B.frm j h1 h2
      exact ⟨i, ei, ej, m, q1, by omega, q3⟩
  | some e =>
    have hf := B.frt n e (Nat.le_refl _) hn
    have F : FInv nxt E n e.1 e.2 ms (ms.foldl (add1 nxt e.1 e.2) E) := by
      have := finv_fold nxt (n := n) (s := e.1) hf ms [] E ⟨⟨[], by simp, by simp⟩, B.srt, B.nd, by simp⟩ (by simpa using hms)
      simpa using this
    show BInv nxt ms s0 (n + 1) (ms.foldl (add1 nxt e.1 e.2) E)
    generalize ms.foldl (add1 nxt e.1 e.2) E = E' at F
    obtain ⟨new, e1, h1⟩ := F.pre
    have he : e ∈ E := List.mem_of_getElem? hn
    have old : ∀ {i : Nat} {x : En S}, i < E.length → E'[i]? = some x → E[i]? = some x := fun {i x} hi q => by
      rw [e1, List.getElem?_append_left hi] at q
      exact q
    have up : ∀ {i : Nat} {x : En S}, E[i]? = some x → E'[i]? = some x := fun {i x} q => by
      rw [e1, List.getElem?_append_left (List.getElem?_eq_some_iff.mp q).1]
      exact q
    refine ⟨up B.root, fun x hx => ?_, fun x hx => ?_, F.srt, F.nd, fun i e' hi q x hx m => ?_, fun i x hi q m hm => ?_, fun j h1' h2 => ?_⟩
    · rw [e1] at hx
      rcases List.mem_append.mp hx with hx | hx
      · exact B.run_ x hx
      · obtain ⟨m, _, rfl⟩ := h1 x hx
        show nxt e.1 m = run nxt s0 (e.2 ++ [m])
        rw [run_snoc, B.run_ e he]
    · rw [e1] at hx
      rcases List.mem_append.mp hx with hx | hx
      · exact B.mem x hx
      · obtain ⟨m, hm, rfl⟩ := h1 x hx
        intro y hy
        rcases List.mem_append.mp hy with hy | hy
        · exact B.mem e he y hy
        · have : y = m := by simpa using hy
          subst this
          exact hm
    · have hlt : cLt e.2 e'.2 := by
        obtain ⟨hi', e2⟩ := List.getElem?_eq_some_iff.mp q
        obtain ⟨hn', e3⟩ := List.getElem?_eq_some_iff.mp (up hn)
        have := List.pairwise_iff_getElem.mp F.srt n i hn' hi' (by omega)
        rw [e2, e3] at this
        exact this
      rw [e1] at hx
      rcases List.mem_append.mp hx with hx | hx
      · exact cLt_trans (hf x hx m) (cLt_snoc hlt m m)
      · obtain ⟨m', _, rfl⟩ := h1 x hx
        exact cLt_snoc hlt m' m
    · by_cases hin : i = n
      · subst hin
        have : x = e := by
          rw [up hn] at q
          exact (Option.some.inj q).symm
        subst this
        exact F.cls m hm
      · have hlt : i < E.length := by
          have := (List.getElem?_eq_some_iff.mp hn).1
          omega
        obtain ⟨e', he', z⟩ := B.cls i x (by omega) (old hlt q) m hm
        exact ⟨e', by rw [e1]; exact List.mem_append_left _ he', z⟩
    · by_cases hj : j < E.length
      · obtain ⟨i, ei, ej, m, q1, q2, q3, q4, q5⟩ := B.frm j h1' hj
        exact ⟨i, ei, ej, m, q1, by omega, up q3, up q4, q5⟩
      · have hnl := (List.getElem?_eq_some_iff.mp hn).1
        have q : E'[j]? = some E'[j] := List.getElem?_eq_getElem h2
        have hmem : E'[j] ∈ new := by
          have hm2 : E'[j] ∈ E' := List.getElem_mem h2
          generalize E'[j] = y at q hm2 ⊢
          rw [e1, List.getElem?_append_right (by omega)] at q
          exact List.mem_of_getElem? q
        obtain ⟨m, hm, z⟩ := h1 _ hmem
        exact ⟨n, e, E'[j], m, by omega, by omega, up hn, q, hm, z⟩
theorem binv (hms : ms.Pairwise (· < ·)) : ∀ n, BInv nxt ms s0 n (bfs nxt ms s0 n)
  | 0 => binv0 nxt ms s0
  | n + 1 => binv_turn nxt ms s0 hms (binv hms n)

theorem foldl_add_prefix (s : S) (c : List Int) : ∀ (l : List Int) (E : List (En S)), ∃ new, l.foldl (add1 nxt s c) E = E ++ new
  | [], E => ⟨[], by simp⟩
  | m :: l, E => by
    obtain ⟨new, q⟩ := foldl_add_prefix s c l (add1 nxt s c E m)
    rw [List.foldl_cons, q]
    unfold add1
    split
    · exact ⟨new, rfl⟩
    · exact ⟨(nxt s m, c ++ [m]) :: new, by simp⟩
theorem turn_prefix (E : List (En S)) (n : Nat) : ∃ new, turn nxt ms E n = E ++ new := by
  unfold turn
  split
  · exact ⟨[], by simp⟩
  · exact foldl_add_prefix nxt _ _ ms E
theorem bfs_prefix (n : Nat) : ∀ k, ∃ new, bfs nxt ms s0 (n + k) = bfs nxt ms s0 n ++ new
  | 0 => ⟨[], by simp⟩
  | k + 1 => by
    obtain ⟨new, q⟩ := bfs_prefix n k
    obtain ⟨new', q'⟩ := turn_prefix nxt ms (bfs nxt ms s0 (n + k)) (n + k)
    exact ⟨new ++ new', by show turn nxt ms (bfs nxt ms s0 (n + k)) (n + k) = _; rw [q', q, List.append_assoc]⟩
theorem bfs_still {n : Nat} (h : (bfs nxt ms s0 n).length ≤ n) : ∀ k, bfs nxt ms s0 (n + k) = bfs nxt ms s0 n
  | 0 => rfl
  | k + 1 => by
    have ih := bfs_still h k
    show turn nxt ms (bfs nxt ms s0 (n + k)) (n + k) = _
    rw [ih]
    unfold turn
    rw [List.getElem?_eq_none (by omega)]
theorem bfs_mono {n k : Nat} (h : n ≤ k) : (bfs nxt ms s0 n).length ≤ (bfs nxt ms s0 k).length := by
  obtain ⟨new, q⟩ := bfs_prefix nxt ms s0 n (k - n)
  rw [show n + (k - n) = k by omega] at q
  rw [q, List.length_append]
  omega
/-- closed at n: the same at each later turn -/
theorem bfs_same {n k : Nat} (h : (bfs nxt ms s0 n).length ≤ n) (hk : n ≤ k) : bfs nxt ms s0 k = bfs nxt ms s0 n := by
  have := bfs_still nxt ms s0 h (k - n)
  rw [show n + (k - n) = k by omega] at this
  exact this

/-- at most so many nodes can be come to -/
def Few (N : Nat) : Prop := (bfs nxt ms s0 (N + 1)).length ≤ N
theorem few_len {N : Nat} (h : Few nxt ms s0 N) (k : Nat) : (bfs nxt ms s0 k).length ≤ N := by
  by_cases hk : k ≤ N + 1
  · exact Nat.le_trans (bfs_mono nxt ms s0 hk) h
  · rw [bfs_same nxt ms s0 (n := N + 1) (k := k) (Nat.le_succ_of_le h) (by omega)]
    exact h
/-- where the row ends by itself it is the whole one -/
theorem few_end {N k : Nat} (h : Few nxt ms s0 N) (hk : (bfs nxt ms s0 k).length ≤ k) : bfs nxt ms s0 k = bfs nxt ms s0 (N + 1) := by
  by_cases hq : k ≤ N + 1
  · exact (bfs_same nxt ms s0 hk hq).symm
  · exact bfs_same nxt ms s0 (n := N + 1) (k := k) (Nat.le_succ_of_le h) (by omega)

/-! ### what is reached -/
theorem reach {n : Nat} {E : List (En S)} (B : BInv nxt ms s0 n E) (hn : E.length ≤ n) : ∀ (c : List Int), (∀ x ∈ c, x ∈ ms) → ∃ e ∈ E, e.1 = run nxt s0 c ∧ cLe e.2 c := by
  have key : ∀ (k : Nat) (c : List Int), c.length = k → (∀ x ∈ c, x ∈ ms) → ∃ e ∈ E, e.1 = run nxt s0 c ∧ cLe e.2 c := by
    intro k
    induction k with
    | zero =>
      intro c hc _
      have : c = [] := List.length_eq_zero_iff.mp hc
      subst this
      exact ⟨_, List.mem_of_getElem? B.root, rfl, cLe_refl _⟩
    | succ k ih =>
      intro c hc hm
      have hne : c ≠ [] := by intro e; subst e; simp at hc
      obtain ⟨p, m, rfl⟩ : ∃ p m, c = p ++ [m] := ⟨c.dropLast, c.getLast hne, (List.dropLast_concat_getLast hne).symm⟩
      obtain ⟨e, he, h1, h2⟩ := ih p (by simpa using hc) fun x hx => hm x (List.mem_append_left _ hx)
      obtain ⟨i, hi⟩ := List.mem_iff_getElem?.mp he
      have hlt := (List.getElem?_eq_some_iff.mp hi).1
      obtain ⟨e', he', q1, q2⟩ := B.cls i e (by omega) hi m (hm m (by simp))
      exact ⟨e', he', by rw [q1, h1, run_snoc], cLe_trans q2 (cLe_snoc h2 m)⟩
  exact fun c => key c.length c rfl

variable (gain : S → Int → Int)
/-- the first step that parts -/
def hit1 (e : En S) : Option (List Int) := (ms.find? fun m => decide (gain e.1 m ≠ 0)).map fun m => e.2 ++ [m]
def firstHit (E : List (En S)) : Option (List Int) := E.findSome? (hit1 ms gain)
/-- r is the least course that parts, none if there is none -/
def Parts (r : Option (List Int)) : Prop := match r with
  | none => ∀ c : List Int, (∀ x ∈ c, x ∈ ms) → tot nxt gain s0 c = 0
  | some c => (∀ x ∈ c, x ∈ ms) ∧ tot nxt gain s0 c ≠ 0 ∧ ∀ d : List Int, (∀ x ∈ d, x ∈ ms) → tot nxt gain s0 d ≠ 0 → cLe c d

theorem hit1_none {e : En S} : hit1 ms gain e = none ↔ ∀ m ∈ ms, gain e.1 m = 0 := by
  unfold hit1
  rw [Option.map_eq_none_iff, List.find?_eq_none]
  simp
theorem hit1_some {e : En S} {c : List Int} (h : hit1 ms gain e = some c) : ∃ m as bs, ms = as ++ m :: bs ∧ (∀ a ∈ as, gain e.1 a = 0) ∧ gain e.1 m ≠ 0 ∧ c = e.2 ++ [m] := by
  unfold hit1 at h
  obtain ⟨m, hm, rfl⟩ := Option.map_eq_some_iff.mp h
  obtain ⟨h1, as, bs, h2, h3⟩ := List.find?_eq_some_iff_append.mp hm
  exact ⟨m, as, bs, h2, fun a ha => by simpa using h3 a ha, by simpa using h1, rfl⟩
theorem parts_hit {n : Nat} {E : List (En S)} (hms : ms.Pairwise (· < ·)) (B : BInv nxt ms s0 n E) (hn : E.length ≤ n) : Parts nxt ms s0 gain (firstHit ms gain E) := by
  cases hF : firstHit ms gain E with
  | none =>
    have hz := List.findSome?_eq_none_iff.mp hF
    intro c hc
    refine Classical.byContradiction fun h => ?_
    obtain ⟨p, m, q, rfl, g⟩ := tot_step nxt gain c s0 h
    obtain ⟨e, he, h1, _⟩ := reach nxt ms s0 B hn p fun x hx => hc x (List.mem_append_left _ hx)
    exact g (by rw [← h1]; exact (hit1_none ms gain).mp (hz e he) m (hc m (by simp)))
  | some c =>
    obtain ⟨l1, e, l2, hE, he, hl⟩ := List.findSome?_eq_some_iff.mp hF
    obtain ⟨m, as, bs, hm, has_, hg, rfl⟩ := hit1_some ms gain he
    have heE : e ∈ E := by rw [hE]; simp
    have hmm : m ∈ ms := by rw [hm]; simp
    have zero : ∀ p : List Int, (∀ x ∈ p, x ∈ ms) → ∀ y ∈ ms, cLt p e.2 → gain (run nxt s0 p) y = 0 := fun p hp y hy hlt => by
      obtain ⟨e', he', h1, h2⟩ := reach nxt ms s0 B hn p hp
      have hlt' : cLt e'.2 e.2 := cLe_lt h2 hlt
      have hin : e' ∈ l1 := by
        rw [hE] at he'
        rcases List.mem_append.mp he' with z | z
        · exact z
        · exfalso
          have hs := B.srt
          rw [hE] at hs
          have hs2 := (List.pairwise_append.mp hs).2.1
          rcases List.mem_cons.mp z with z | z
          · rw [z] at hlt'
            exact cLt_irrefl _ hlt'
          · exact cLt_irrefl _ (cLt_trans hlt' ((List.pairwise_cons.mp hs2).1 e' z))
      rw [← h1]
      exact (hit1_none ms gain).mp (hl e' hin) y hy
    have low : ∀ p : List Int, (∀ x ∈ p, x ∈ ms) → ∀ y ∈ ms, gain (run nxt s0 p) y ≠ 0 → cLe (e.2 ++ [m]) (p ++ [y]) := fun p hp y hy hgy => by
      rcases cLt_tri p e.2 with q | q | q
      · subst q
        rw [hm] at hy
        rw [B.run_ e heE] at hg has_
        rcases List.mem_append.mp hy with z | z
        · exact (hgy (has_ y z)).elim
        · rcases List.mem_cons.mp z with z | z
          · exact .inl (by rw [z])
          · rw [hm] at hms
            exact .inr (cLt_snoc_same ((List.pairwise_cons.mp (List.pairwise_append.mp hms).2.1).1 y z) _)
      · exact (hgy (zero p hp y hy q)).elim
      · exact .inr (cLt_snoc q m y)
    refine ⟨fun x hx => ?_, ?_, fun d hd hne => ?_⟩
    · rcases List.mem_append.mp hx with z | z
      · exact B.mem e heE x z
      · have : x = m := by simpa using z
        rw [this]; exact hmm
    · rw [tot_snoc, ← B.run_ e heE]
      have hz : tot nxt gain s0 e.2 = 0 := Classical.byContradiction fun h => by
        obtain ⟨p, y, q, hq, g⟩ := tot_step nxt gain e.2 s0 h
        have hp : ∀ x ∈ p, x ∈ ms := fun x hx => B.mem e heE x (by rw [hq]; exact List.mem_append_left _ hx)
        exact g (zero p hp y (B.mem e heE y (by rw [hq]; simp)) (by rw [hq]; exact .inl (by simp)))
      rw [hz]
      omega
    · obtain ⟨p, y, q, rfl, g⟩ := tot_step nxt gain d s0 hne
      have hp : ∀ x ∈ p, x ∈ ms := fun x hx => hd x (List.mem_append_left _ hx)
      refine cLe_trans (low p hp y (hd y (by simp)) g) ?_
      have := cLe_append (p ++ [y]) q
      simpa using this
theorem parts_unique {T : Type} {nxt' : T → Int → T} {t0 : T} {gain' : T → Int → Int} {r r' : Option (List Int)} (hg : ∀ c : List Int, (tot nxt gain s0 c = 0 ↔ tot nxt' gain' t0 c = 0))
    (h : Parts nxt ms s0 gain r) (h' : Parts (S := T) nxt' ms t0 gain' r') : r = r' := by
  cases r with
  | none => cases r' with
    | none => rfl
    | some c => exact (h'.2.1 ((hg c).mp (h c h'.1))).elim
  | some c => cases r' with
    | none => exact (h.2.1 ((hg c).mpr (h' c h.1))).elim
    | some d =>
      have h1 := h.2.2 d h'.1 fun z => h'.2.1 ((hg d).mp z)
      have h2 := h'.2.2 c h.1 fun z => h.2.1 ((hg c).mpr z)
      rw [cLe_antisymm h1 h2]
end
end PB

/-! Rows of clauses: what a year does, what two bundles come to, what the law's own search tells. -/
namespace PB

/-! ### clauses -/
structure Tm where
  every : Int
  first : Int
  rate : Int
  low : Option Int
  top : Option Int
  keep : Int
  plus : Int
  deriving DecidableEq
structure Tm.Ok (t : Tm) : Prop where
  every : 1 ≤ t.every ∧ t.every ≤ 3
  first : 1 ≤ t.first ∧ t.first ≤ t.every
  rate : 0 ≤ t.rate ∧ t.rate ≤ 5
  low : ∀ x, t.low = some x → -20 ≤ x ∧ x ≤ 20
  top : ∀ x, t.top = some x → t.low.getD (-20) ≤ x ∧ x ≤ 20
  keep : 0 ≤ t.keep ∧ t.keep ≤ 6
  keep0 : t.top = none → t.keep = 0
  plus : -9 ≤ t.plus ∧ t.plus ≤ 9
abbrev Sd := Int × Int × Int
def begN (t : Tm) : Sd := (t.first, 0, 0)
/-- the program's raise -/
def raiseN (t : Tm) (w : Int) : Int :=
  match t.top with
  | some c => if w > c then c else (match t.low with
    | some f => if w < f then f else w
    | none => w)
  | none => (match t.low with
    | some f => if w < f then f else w
    | none => w)
/-- the law's rise -/
def riseL (t : Tm) (w : Int) : Int :=
  let r := match t.top with
    | none => w
    | some c => if c < w then c else w
  match t.low with
  | none => r
  | some f => if f > r then f else r
theorem riseL_eq {t : Tm} (h : t.Ok) (w : Int) : riseL t w = raiseN t w := by
  have h1 := h.top
  unfold riseL raiseN
  cases ht : t.top with
  | none => cases hl : t.low with
    | none => rfl
    | some f =>
      show (if f > w then f else w) = if w < f then f else w
      rfl
  | some c =>
    have h2 := (h1 c ht).1
    cases hl : t.low with
    | none => rfl
    | some f =>
      rw [hl] at h2
      have h3 : f ≤ c := h2
      show (if f > (if c < w then c else w) then f else (if c < w then c else w)) = if w > c then c else if w < f then f else w
      repeat' split
      all_goals omega
def min2 (a b : Int) : Int := if b < a then b else a
def max2 (a b : Int) : Int := if b > a then b else a
def onN (t : Tm) (s : Sd) (m : Int) : Sd × Int :=
  if s.1 > 1 then ((s.1 - 1, s.2.1 + m, s.2.2), 0)
  else ((t.every, 0, min2 t.keep (max2 0 (t.rate * (s.2.1 + m) + s.2.2 - raiseN t (t.rate * (s.2.1 + m) + s.2.2)))), raiseN t (t.rate * (s.2.1 + m) + s.2.2) + t.plus)
def begR (row : List Tm) : List Sd := row.map begN
def stepN (row : List Tm) (ss : List Sd) (m : Int) : List Sd := List.zipWith (fun t s => (onN t s m).1) row ss
def riseN (row : List Tm) (ss : List Sd) (m : Int) : List Int := List.zipWith (fun t s => (onN t s m).2) row ss
def gapN (signs rs : List Int) : Int := (List.zipWith (fun a b => a * b) signs rs).sum
def gainN (row : List Tm) (signs : List Int) (ss : List Sd) (m : Int) : Int := gapN signs (riseN row ss m)
def sgn (a b : Nat) : List Int := List.replicate a 1 ++ List.replicate b (-1)
def msN (lo hi : Int) : List Int := (List.range (hi + 1 - lo).toNat).map fun (i : Nat) => lo + (i : Int)

theorem msN_mem {lo hi x : Int} : x ∈ msN lo hi ↔ lo ≤ x ∧ x ≤ hi := by
  unfold msN
  rw [List.mem_map]
  constructor
  · rintro ⟨i, hi', rfl⟩
    have := List.mem_range.mp hi'
    omega
  · intro h
    exact ⟨(x - lo).toNat, List.mem_range.mpr (by omega), by omega⟩
theorem msN_srt (lo hi : Int) : (msN lo hi).Pairwise (· < ·) := by
  unfold msN
  rw [List.pairwise_map]
  refine List.Pairwise.imp ?_ (List.pairwise_lt_range)
  intro a b h
  omega
theorem msN_len (lo hi : Int) : (msN lo hi).length = (hi + 1 - lo).toNat := by simp [msN]
theorem msN_get {lo hi : Int} {i : Nat} (h : i < (hi + 1 - lo).toNat) : (msN lo hi)[i]? = some (lo + (i : Int)) := by
  unfold msN
  rw [List.getElem?_map, List.getElem?_range h]
  rfl

theorem stepN_len {row : List Tm} {ss : List Sd} {m : Int} (h : ss.length = row.length) : (stepN row ss m).length = row.length := by simp [stepN, h]
theorem riseN_len {row : List Tm} {ss : List Sd} {m : Int} (h : ss.length = row.length) : (riseN row ss m).length = row.length := by simp [riseN, h]
theorem begR_len (row : List Tm) : (begR row).length = row.length := by simp [begR]
theorem run_len (row : List Tm) : ∀ (c : List Int) (ss : List Sd), ss.length = row.length → (run (stepN row) ss c).length = row.length
  | [], ss, h => h
  | m :: c, ss, h => run_len row c (stepN row ss m) (stepN_len h)

/-! ### sums of rises along a course -/
def sumsN (row : List Tm) : List Sd → List Int → List Int → List Int
  | _, sums, [] => sums
  | ss, sums, m :: c => sumsN row (stepN row ss m) (List.zipWith (fun a b => a + b) sums (riseN row ss m)) c
theorem gapN_nil_r (signs : List Int) : gapN signs [] = 0 := by cases signs <;> rfl
theorem gapN_cons (a b : Int) (as bs : List Int) : gapN (a :: as) (b :: bs) = a * b + gapN as bs := by simp [gapN]
theorem gapN_add : ∀ (signs xs ys : List Int), xs.length = ys.length → gapN signs (List.zipWith (fun a b => a + b) xs ys) = gapN signs xs + gapN signs ys
  | [], _, _, _ => rfl
  | _ :: _, [], [], _ => rfl
  | _ :: _, [], _ :: _, h => by simp at h
  | _ :: _, _ :: _, [], h => by simp at h
  | s :: signs, x :: xs, y :: ys, h => by
    have ih := gapN_add signs xs ys (by simpa using h)
    rw [List.zipWith_cons_cons, gapN_cons, gapN_cons, gapN_cons, ih, Int.mul_add]
    omega
theorem gapN_sums {row : List Tm} {signs : List Int} : ∀ (c : List Int) (ss : List Sd) (sums : List Int), ss.length = row.length → sums.length = row.length →
    gapN signs (sumsN row ss sums c) = gapN signs sums + tot (stepN row) (gainN row signs) ss c
  | [], ss, sums, _, _ => by simp [sumsN, tot]
  | m :: c, ss, sums, h1, h2 => by
    rw [sumsN, gapN_sums c _ _ (stepN_len h1) (by simp [riseN_len h1, h2]), gapN_add _ _ _ (by rw [h2, riseN_len h1]), tot]
    show gapN signs sums + gapN signs (riseN row ss m) + _ = gapN signs sums + (gapN signs (riseN row ss m) + _)
    omega
theorem gapN_zeros : ∀ (n : Nat) (signs : List Int), gapN signs (List.replicate n 0) = 0
  | 0, signs => gapN_nil_r signs
  | n + 1, [] => rfl
  | n + 1, s :: signs => by
    rw [List.replicate_succ, gapN_cons, gapN_zeros n signs]
    omega
theorem gap_tot (row : List Tm) (signs : List Int) (c : List Int) : gapN signs (sumsN row (begR row) (List.replicate row.length 0) c) = tot (stepN row) (gainN row signs) (begR row) c := by
  rw [gapN_sums c _ _ (begR_len row) (by simp), gapN_zeros]
  omega
theorem sumsN_snoc (row : List Tm) : ∀ (c : List Int) (ss : List Sd) (sums : List Int) (m : Int),
    sumsN row ss sums (c ++ [m]) = List.zipWith (fun a b => a + b) (sumsN row ss sums c) (riseN row (run (stepN row) ss c) m)
  | [], _, _, _ => rfl
  | x :: c, ss, sums, m => by
    rw [List.cons_append, sumsN, sumsN_snoc row c, sumsN]
    rfl
theorem sumsN_len {row : List Tm} : ∀ (c : List Int) (ss : List Sd) (sums : List Int), ss.length = row.length → sums.length = row.length → (sumsN row ss sums c).length = row.length
  | [], _, _, _, h => h
  | m :: c, ss, sums, h1, h2 => sumsN_len c _ _ (stepN_len h1) (by simp [riseN_len h1, h2])

/-! ### the bundles in the opposite order -/
theorem stepN_append {r1 r2 : List Tm} {a b : List Sd} (m : Int) (h : a.length = r1.length) : stepN (r1 ++ r2) (a ++ b) m = stepN r1 a m ++ stepN r2 b m := by
  unfold stepN
  exact List.zipWith_append h.symm
theorem riseN_append {r1 r2 : List Tm} {a b : List Sd} (m : Int) (h : a.length = r1.length) : riseN (r1 ++ r2) (a ++ b) m = riseN r1 a m ++ riseN r2 b m := by
  unfold riseN
  exact List.zipWith_append h.symm
theorem run_append {r1 r2 : List Tm} : ∀ (c : List Int) (a b : List Sd), a.length = r1.length → run (stepN (r1 ++ r2)) (a ++ b) c = run (stepN r1) a c ++ run (stepN r2) b c
  | [], _, _, _ => rfl
  | m :: c, a, b, h => by
    show run (stepN (r1 ++ r2)) (stepN (r1 ++ r2) (a ++ b) m) c = run (stepN r1) (stepN r1 a m) c ++ run (stepN r2) (stepN r2 b m) c
    rw [stepN_append m h]
    exact run_append c _ _ (stepN_len h)
theorem gapN_append {s1 s2 a b : List Int} (h : s1.length = a.length) : gapN (s1 ++ s2) (a ++ b) = gapN s1 a + gapN s2 b := by
  unfold gapN
  rw [List.zipWith_append h, List.sum_append]
theorem gapN_ones : ∀ xs : List Int, gapN (List.replicate xs.length 1) xs = xs.sum
  | [] => rfl
  | x :: xs => by
    rw [List.length_cons, List.replicate_succ, gapN_cons, gapN_ones xs, List.sum_cons]
    omega
theorem gapN_minus : ∀ xs : List Int, gapN (List.replicate xs.length (-1)) xs = - xs.sum
  | [] => rfl
  | x :: xs => by
    rw [List.length_cons, List.replicate_succ, gapN_cons, gapN_minus xs, List.sum_cons]
    omega
theorem gainN_split {r1 r2 : List Tm} {a b : List Sd} (m : Int) (h1 : a.length = r1.length) (h2 : b.length = r2.length) :
    gainN (r1 ++ r2) (sgn r1.length r2.length) (a ++ b) m = (riseN r1 a m).sum - (riseN r2 b m).sum := by
  have e1 := gapN_ones (riseN r1 a m)
  have e2 := gapN_minus (riseN r2 b m)
  rw [riseN_len h1] at e1
  rw [riseN_len h2] at e2
  unfold gainN sgn
  rw [riseN_append m h1, gapN_append (by rw [List.length_replicate, riseN_len h1]), e1, e2]
  omega
theorem tot_swap {r1 r2 : List Tm} : ∀ (c : List Int) (a b : List Sd), a.length = r1.length → b.length = r2.length →
    tot (stepN (r2 ++ r1)) (gainN (r2 ++ r1) (sgn r2.length r1.length)) (b ++ a) c = - tot (stepN (r1 ++ r2)) (gainN (r1 ++ r2) (sgn r1.length r2.length)) (a ++ b) c
  | [], _, _, _, _ => rfl
  | m :: c, a, b, h1, h2 => by
    have ih := tot_swap (r1 := r1) (r2 := r2) c (stepN r1 a m) (stepN r2 b m) (stepN_len h1) (stepN_len h2)
    rw [tot, tot, stepN_append m h1, stepN_append m h2, gainN_split m h1 h2, gainN_split m h2 h1, ih]
    omega

/-! ### as many nodes -/
theorem length_le_of_sub {α : Type} [DecidableEq α] : ∀ {l k : List α}, l.Nodup → (∀ x ∈ l, x ∈ k) → l.length ≤ k.length
  | [], _, _, _ => Nat.zero_le _
  | x :: l, k, h, hs => by
    obtain ⟨h1, h2⟩ := List.nodup_cons.mp h
    have hx := hs x (by simp)
    have ih := length_le_of_sub (l := l) (k := k.erase x) h2 fun y hy => (List.mem_erase_of_ne (fun e => h1 (by rw [← e]; exact hy))).mpr (hs y (by simp [hy]))
    rw [List.length_erase_of_mem hx] at ih
    have : 0 < k.length := List.length_pos_of_mem hx
    rw [List.length_cons]
    omega
theorem few_of {S T : Type} [DecidableEq S] [DecidableEq T] {nxt : S → Int → S} {nxt' : T → Int → T} {ms : List Int} {s0 : S} {t0 : T} {N : Nat} (hms : ms.Pairwise (· < ·)) (h : Few nxt ms s0 N)
    (hr : ∀ c d : List Int, run nxt s0 c = run nxt s0 d → run nxt' t0 c = run nxt' t0 d) : Few nxt' ms t0 N := by
  have B := binv nxt ms s0 hms (N + 1)
  have B' := binv nxt' ms t0 hms (N + 1)
  have hl : (bfs nxt ms s0 (N + 1)).length ≤ N := h
  have hn : ((bfs nxt' ms t0 (N + 1)).map fun e => run nxt s0 e.2).Nodup := by
    have hp := B'.nd
    rw [List.Nodup, List.pairwise_map] at hp ⊢
    refine List.Pairwise.imp_of_mem ?_ hp
    intro a b ha hb hne e
    exact hne (by rw [B'.run_ a ha, B'.run_ b hb]; exact hr _ _ e)
  have hs := length_le_of_sub hn (k := (bfs nxt ms s0 (N + 1)).map (·.1)) fun x hx => by
    obtain ⟨e, he, rfl⟩ := List.mem_map.mp hx
    obtain ⟨e', he', q, _⟩ := reach nxt ms s0 B (by omega) e.2 (B'.mem e he)
    exact List.mem_map.mpr ⟨e', he', q⟩
  rw [List.length_map, List.length_map] at hs
  exact Nat.le_trans hs hl

/-- what bundle_parting tells -/
abbrev rowE (row : List Tm) (lo hi : Int) (n : Nat) : List (En (List Sd)) := bfs (stepN row) (msN lo hi) (begR row) n
def toldN (r1 r2 : List Tm) (lo hi : Int) (n : Nat) : Option (List Int) := firstHit (msN lo hi) (gainN (r1 ++ r2) (sgn r1.length r2.length)) (rowE (r1 ++ r2) lo hi n)
abbrev FewR (row : List Tm) (lo hi : Int) (N : Nat) : Prop := Few (stepN row) (msN lo hi) (begR row) N
abbrev PartsR (row : List Tm) (signs : List Int) (lo hi : Int) (r : Option (List Int)) : Prop := Parts (stepN row) (msN lo hi) (begR row) (gainN row signs) r
theorem told_parts {r1 r2 : List Tm} {lo hi : Int} {n : Nat} (h : (rowE (r1 ++ r2) lo hi n).length ≤ n) : PartsR (r1 ++ r2) (sgn r1.length r2.length) lo hi (toldN r1 r2 lo hi n) :=
  parts_hit _ _ _ _ (msN_srt lo hi) (binv _ _ _ (msN_srt lo hi) n) h
theorem few_swap {r1 r2 : List Tm} {lo hi : Int} {N : Nat} (h : FewR (r1 ++ r2) lo hi N) : FewR (r2 ++ r1) lo hi N := by
  refine few_of (msN_srt lo hi) h fun c d e => ?_
  have b1 : begR (r1 ++ r2) = begR r1 ++ begR r2 := by simp [begR]
  have b2 : begR (r2 ++ r1) = begR r2 ++ begR r1 := by simp [begR]
  rw [b1, run_append c _ _ (begR_len r1), run_append d _ _ (begR_len r1)] at e
  rw [b2, run_append c _ _ (begR_len r2), run_append d _ _ (begR_len r2)]
  obtain ⟨e1, e2⟩ := List.append_inj e (by rw [run_len r1 c _ (begR_len r1), run_len r1 d _ (begR_len r1)])
  rw [e1, e2]
theorem told_swap {r1 r2 : List Tm} {lo hi : Int} {n k : Nat} (h : (rowE (r1 ++ r2) lo hi n).length ≤ n) (h' : (rowE (r2 ++ r1) lo hi k).length ≤ k) : toldN r2 r1 lo hi k = toldN r1 r2 lo hi n := by
  refine (parts_unique _ _ _ _ (fun c => ?_) (told_parts h) (told_parts h')).symm
  have b1 : begR (r1 ++ r2) = begR r1 ++ begR r2 := by simp [begR]
  have b2 : begR (r2 ++ r1) = begR r2 ++ begR r1 := by simp [begR]
  rw [b1, b2, tot_swap c _ _ (begR_len r1) (begR_len r2)]
  omega

/-! ### the law's own search: how far the nearest step is -/
section
variable {S : Type} [DecidableEq S] (nxt : S → Int → S) (ms : List Int) (s0 : S) (gain : S → Int → Int)
def found1 (e : En S) : List Int := (ms.filter fun m => decide (gain e.1 m ≠ 0)).map fun _ => (e.2.length : Int) + 1
def foundN (E : List (En S)) : List Int := E.flatMap (found1 ms gain)
theorem found_nil {E : List (En S)} : foundN ms gain E = [] ↔ firstHit ms gain E = none := by
  unfold foundN firstHit
  rw [List.flatMap_eq_nil_iff, List.findSome?_eq_none_iff]
  refine forall_congr' fun e => forall_congr' fun he => ?_
  rw [hit1_none]
  unfold found1
  rw [List.map_eq_nil_iff, List.filter_eq_nil_iff]
  simp
theorem found_hit {n : Nat} {E : List (En S)} (B : BInv nxt ms s0 n E) {c : List Int} (h : firstHit ms gain E = some c) : (c.length : Int) ∈ foundN ms gain E ∧ ∀ x ∈ foundN ms gain E, (c.length : Int) ≤ x := by
  obtain ⟨l1, e, l2, hE, he, hl⟩ := List.findSome?_eq_some_iff.mp h
  obtain ⟨m, as, bs, hm, has_, hg, rfl⟩ := hit1_some ms gain he
  have hs := B.srt
  rw [hE] at hs
  have hs2 := (List.pairwise_append.mp hs).2.1
  refine ⟨?_, fun x hx => ?_⟩
  · refine List.mem_flatMap.mpr ⟨e, by rw [hE]; simp, ?_⟩
    refine List.mem_map.mpr ⟨m, List.mem_filter.mpr ⟨by rw [hm]; simp, by simpa using hg⟩, by simp⟩
  · obtain ⟨e', he', hx'⟩ := List.mem_flatMap.mp hx
    obtain ⟨y, hy, rfl⟩ := List.mem_map.mp hx'
    obtain ⟨hy1, hy2⟩ := List.mem_filter.mp hy
    rw [hE] at he'
    rcases List.mem_append.mp he' with z | z
    · exact ((by simpa using hy2 : ¬ gain e'.1 y = 0) ((hit1_none ms gain).mp (hl e' z) y hy1)).elim
    · rcases List.mem_cons.mp z with z | z
      · subst z
        simp
      · have := cLt_len (.inr ((List.pairwise_cons.mp hs2).1 e' z))
        simp
        omega
/-! ### and its courses, one after another -/
def waysN : Nat → List (List Int)
  | 0 => [[]]
  | k + 1 => (waysN k).flatMap fun c => ms.map fun m => c ++ [m]
theorem ways_mem : ∀ {k : Nat} {c : List Int}, c ∈ waysN ms k ↔ c.length = k ∧ ∀ x ∈ c, x ∈ ms
  | 0, c => by
    simp only [waysN, List.mem_singleton]
    constructor
    · rintro rfl
      simp
    · exact fun h => List.length_eq_zero_iff.mp h.1
  | k + 1, c => by
    simp only [waysN, List.mem_flatMap, List.mem_map]
    constructor
    · rintro ⟨p, hp, m, hm, rfl⟩
      obtain ⟨h1, h2⟩ := ways_mem.mp hp
      refine ⟨by simp [h1], fun x hx => ?_⟩
      rcases List.mem_append.mp hx with z | z
      · exact h2 x z
      · have : x = m := by simpa using z
        rw [this]; exact hm
    · rintro ⟨h1, h2⟩
      have hne : c ≠ [] := by intro e; subst e; simp at h1
      obtain ⟨p, m, rfl⟩ : ∃ p m, c = p ++ [m] := ⟨c.dropLast, c.getLast hne, (List.dropLast_concat_getLast hne).symm⟩
      exact ⟨p, ways_mem.mpr ⟨by simpa using h1, fun x hx => h2 x (List.mem_append_left _ hx)⟩, m, h2 m (by simp), rfl⟩
theorem ways_srt (hms : ms.Pairwise (· < ·)) : ∀ k : Nat, (waysN ms k).Pairwise cLt
  | 0 => by simp [waysN]
  | k + 1 => by
    unfold waysN
    rw [List.pairwise_flatMap]
    refine ⟨fun c _ => ?_, ?_⟩
    · rw [List.pairwise_map]
      exact hms.imp fun h => cLt_snoc_same h c
    · refine (ways_srt hms k).imp fun {a b} h x hx y hy => ?_
      obtain ⟨m, _, rfl⟩ := List.mem_map.mp hx
      obtain ⟨m', _, rfl⟩ := List.mem_map.mp hy
      exact cLt_snoc h m m'
theorem ways_len (b : Nat) (h : ms.length ≤ b) : ∀ k : Nat, (waysN ms k).length ≤ b ^ k
  | 0 => by simp [waysN]
  | k + 1 => by
    unfold waysN
    rw [List.length_flatMap]
    have e : ((waysN ms k).map fun c => (ms.map fun m => c ++ [m]).length) = List.replicate (waysN ms k).length ms.length := by
      rw [List.eq_replicate_iff]
      refine ⟨by simp, fun x hx => ?_⟩
      obtain ⟨c, _, rfl⟩ := List.mem_map.mp hx
      simp
    have e2 : ∀ n v : Nat, (List.replicate n v).sum = n * v := by
      intro n v
      induction n with
      | zero => simp
      | succ n ih => rw [List.replicate_succ, List.sum_cons, ih, Nat.succ_mul]; omega
    rw [e, e2, Nat.pow_succ]
    exact Nat.mul_le_mul (ways_len b h k) h
variable {ms s0 gain nxt}
/-- no shorter course parts -/
theorem ways_short {told : List Int} (P : Parts nxt ms s0 gain (some told)) {k : Nat} (hk : k < told.length) {d : List Int} (hd : d ∈ waysN ms k) : tot nxt gain s0 d = 0 :=
  Classical.byContradiction fun h => by
    obtain ⟨h1, h2⟩ := (ways_mem ms).mp hd
    have := cLt_len (P.2.2 d h2 h)
    omega
/-- of those as long the first one that parts is the least one -/
theorem ways_first {told : List Int} (hms : ms.Pairwise (· < ·)) (P : Parts nxt ms s0 gain (some told)) {i : Nat} {d : List Int} (hd : (waysN ms told.length)[i]? = some d) (hne : tot nxt gain s0 d ≠ 0)
    (hb : ∀ (j : Nat) (e : List Int), j < i → (waysN ms told.length)[j]? = some e → tot nxt gain s0 e = 0) : d = told := by
  obtain ⟨h1, h2⟩ := (ways_mem ms).mp (List.mem_of_getElem? hd)
  obtain ⟨j, hj⟩ := List.mem_iff_getElem?.mp ((ways_mem ms).mpr ⟨rfl, P.1⟩)
  rcases Nat.lt_trichotomy j i with q | q | q
  · exact (P.2.1 (hb j told q hj)).elim
  · subst q
    rw [hj] at hd
    exact (Option.some.inj hd).symm
  · exfalso
    obtain ⟨g1, e1⟩ := List.getElem?_eq_some_iff.mp hd
    obtain ⟨g2, e2⟩ := List.getElem?_eq_some_iff.mp hj
    have hlt := List.pairwise_iff_getElem.mp (ways_srt ms hms told.length) i j g1 g2 q
    rw [e1, e2] at hlt
    exact cLt_irrefl _ (cLt_le hlt (P.2.2 d h2 hne))
theorem ways_some {told : List Int} (P : Parts nxt ms s0 gain (some told)) (h : ∀ d ∈ waysN ms told.length, tot nxt gain s0 d = 0) : False := P.2.1 (h told ((ways_mem ms).mpr ⟨rfl, P.1⟩))
end

/-! ### clauses reviewed each year with nothing kept -/
def yearly (t : Tm) : Tm := { t with every := 1, first := 1 }
def unkept (t : Tm) : Tm := { t with keep := 0 }
theorem yearly_ok {t : Tm} (h : t.Ok) : (yearly t).Ok := ⟨by simp [yearly], by simp [yearly], h.rate, h.low, h.top, h.keep, h.keep0, h.plus⟩
theorem unkept_ok {t : Tm} (h : t.Ok) : (unkept t).Ok := ⟨h.every, h.first, h.rate, h.low, h.top, by simp [unkept], fun _ => rfl, h.plus⟩
theorem on_still (t : Tm) (m : Int) : (onN (unkept (yearly t)) (1, 0, 0) m).1 = (1, 0, 0) := by
  unfold onN
  rw [if_neg (by decide)]
  show ((1 : Int), (0 : Int), min2 0 (max2 0 _)) = (1, 0, 0)
  congr 2
  unfold min2 max2
  repeat' split
  all_goals omega
theorem step_still (row : List Tm) (m : Int) : stepN (row.map fun t => unkept (yearly t)) (begR (row.map fun t => unkept (yearly t))) m = begR (row.map fun t => unkept (yearly t)) := by
  induction row with
  | nil => rfl
  | cons t row ih =>
    show (onN (unkept (yearly t)) (1, 0, 0) m).1 :: stepN (row.map fun t => unkept (yearly t)) (begR (row.map fun t => unkept (yearly t))) m = (1, 0, 0) :: begR (row.map fun t => unkept (yearly t))
    rw [ih, on_still]
theorem few_still (row : List Tm) (lo hi : Int) {N : Nat} (h : 1 ≤ N) : FewR (row.map fun t => unkept (yearly t)) lo hi N := by
  generalize hr : (row.map fun t => unkept (yearly t)) = row'
  have hs : ∀ m, stepN row' (begR row') m = begR row' := by
    subst hr
    exact step_still row
  have hf : ∀ (l : List Int), l.foldl (add1 (stepN row') (begR row') []) [(begR row', [])] = [(begR row', [])] := by
    intro l
    induction l with
    | nil => rfl
    | cons m l ih =>
      rw [List.foldl_cons]
      have : add1 (stepN row') (begR row') [] [(begR row', [])] m = [(begR row', [])] := by
        unfold add1
        rw [if_pos (by rw [has_iff, hs]; simp)]
      rw [this, ih]
  have h1 : rowE row' lo hi 1 = [(begR row', [])] := by
    show turn _ _ [(begR row', [])] 0 = _
    exact hf _
  show (rowE row' lo hi (N + 1)).length ≤ N
  have : rowE row' lo hi (N + 1) = rowE row' lo hi 1 := bfs_same _ _ _ (by show (rowE row' lo hi 1).length ≤ 1; rw [h1]; simp) (by omega)
  rw [this, h1]
  exact h
end PB

namespace PB
open PySem PySem.Spec PyProof.Rows L2
/-! the text by places -/
def topS (i : Nat) : Stmt := PySem.Challenge.pw_pointrents_k71_whole_bundle_partings.main.body.getD i (.Pass ⟨0, 0, 0, 0⟩)
abbrev st_is_integer : Stmt := topS 18
abbrev st_is_between : Stmt := topS 19
abbrev st_is_band : Stmt := topS 20
abbrev st_check_band : Stmt := topS 21
abbrev st_moves_of : Stmt := topS 22
abbrev st_bounds_of : Stmt := topS 26
abbrev st_is_part : Stmt := topS 27
abbrev st_Clause_init : Stmt := inClass (topS 30) 0
abbrev st_Clause_every : Stmt := inClass (topS 30) 2
abbrev st_Clause_rate : Stmt := inClass (topS 30) 4
abbrev st_Clause_floor : Stmt := inClass (topS 30) 5
abbrev st_Clause_ceiling : Stmt := inClass (topS 30) 6
abbrev st_Clause_keep : Stmt := inClass (topS 30) 7
abbrev st_Clause_plus : Stmt := inClass (topS 30) 8
abbrev st_Clause_begun : Stmt := inClass (topS 30) 9
abbrev st_raise_of : Stmt := topS 31
abbrev st_behind : Stmt := topS 32
abbrev st_Web_init : Stmt := inClass (topS 34) 0
abbrev st_Web_place_of : Stmt := inClass (topS 34) 1
abbrev st_Web_course_to : Stmt := inClass (topS 34) 2
abbrev st_Row_init : Stmt := inClass (topS 36) 0
abbrev st_Row_after : Stmt := inClass (topS 36) 1
abbrev st_check_some : Stmt := topS 37
abbrev st_begun_row : Stmt := topS 38
abbrev st_web_of_bundles : Stmt := topS 39
abbrev st_checked_bundles : Stmt := topS 40
abbrev st_bundle_parting : Stmt := topS 41
abbrev st_law_jar : Stmt := topS 43
abbrev st_law_draw : Stmt := topS 44
abbrev st_law_wide : Stmt := topS 45
abbrev st_law_terms : Stmt := topS 46
abbrev st_law_near : Stmt := topS 47
abbrev st_law_pair_of : Stmt := topS 48
abbrev st_law_on : Stmt := topS 49
abbrev st_law_year : Stmt := topS 50
abbrev st_law_begun : Stmt := topS 51
abbrev st_law_net : Stmt := topS 52
abbrev st_law_tame : Stmt := topS 53
abbrev st_law_clause : Stmt := topS 54
abbrev st_law_clauses : Stmt := topS 55
abbrev st_law_ways : Stmt := topS 56
abbrev st_law_paths : Stmt := topS 57
abbrev st_law_sides : Stmt := topS 58
abbrev st_law_tame_sides : Stmt := topS 59
abbrev st_law_gap : Stmt := topS 60
abbrev st_law_is_int : Stmt := topS 61
abbrev st_law_is_course : Stmt := topS 62
abbrev st_law_nearest : Stmt := topS 63
abbrev st_law_least : Stmt := topS 64
abbrev st_law_right : Stmt := topS 65
abbrev st_law : Stmt := topS 66
end PB

set_option maxHeartbeats 0
namespace PB
open PySem PySem.Spec PyProof.Rows L2
def d_is_integer : He5.DefA := ⟨fun K => He.ga K "is_integer", "is_integer", "is_integer", defArgs st_is_integer, defBody st_is_integer, defScope st_is_integer, [], []⟩
def d_is_between : He5.DefA := ⟨fun K => He.ga K "is_between", "is_between", "is_between", defArgs st_is_between, defBody st_is_between, defScope st_is_between, [], []⟩
def d_is_band : He5.DefA := ⟨fun K => He.ga K "is_band", "is_band", "is_band", defArgs st_is_band, defBody st_is_band, defScope st_is_band, [], []⟩
def d_check_band : He5.DefA := ⟨fun K => He.ga K "check_band", "check_band", "check_band", defArgs st_check_band, defBody st_check_band, defScope st_check_band, [], []⟩
def d_moves_of : He5.DefA := ⟨fun K => He.ga K "moves_of", "moves_of", "moves_of", defArgs st_moves_of, defBody st_moves_of, defScope st_moves_of, [], []⟩
def d_bounds_of : He5.DefA := ⟨fun K => He.ga K "bounds_of", "bounds_of", "bounds_of", defArgs st_bounds_of, defBody st_bounds_of, defScope st_bounds_of, [], []⟩
def d_is_part : He5.DefA := ⟨fun K => He.ga K "is_part", "is_part", "is_part", defArgs st_is_part, defBody st_is_part, defScope st_is_part, [], []⟩
def d_Clause_init : He5.DefA := ⟨fun K => He.ma K (He.ga K "Clause") "__init__", "__init__", "Clause.__init__", defArgs st_Clause_init, defBody st_Clause_init, defScope st_Clause_init, [.non, .non, .int 0, .int 0], []⟩
def d_Clause_every : He5.DefA := ⟨fun K => He5.wf K (He.ga K "Clause") "property" "every", "every", "Clause.every", defArgs st_Clause_every, defBody st_Clause_every, defScope st_Clause_every, [], []⟩
def d_Clause_rate : He5.DefA := ⟨fun K => He5.wf K (He.ga K "Clause") "property" "rate", "rate", "Clause.rate", defArgs st_Clause_rate, defBody st_Clause_rate, defScope st_Clause_rate, [], []⟩
def d_Clause_floor : He5.DefA := ⟨fun K => He5.wf K (He.ga K "Clause") "property" "floor", "floor", "Clause.floor", defArgs st_Clause_floor, defBody st_Clause_floor, defScope st_Clause_floor, [], []⟩
def d_Clause_ceiling : He5.DefA := ⟨fun K => He5.wf K (He.ga K "Clause") "property" "ceiling", "ceiling", "Clause.ceiling", defArgs st_Clause_ceiling, defBody st_Clause_ceiling, defScope st_Clause_ceiling, [], []⟩
def d_Clause_keep : He5.DefA := ⟨fun K => He5.wf K (He.ga K "Clause") "property" "keep", "keep", "Clause.keep", defArgs st_Clause_keep, defBody st_Clause_keep, defScope st_Clause_keep, [], []⟩
def d_Clause_plus : He5.DefA := ⟨fun K => He5.wf K (He.ga K "Clause") "property" "plus", "plus", "Clause.plus", defArgs st_Clause_plus, defBody st_Clause_plus, defScope st_Clause_plus, [], []⟩
def d_Clause_begun : He5.DefA := ⟨fun K => He5.wf K (He.ga K "Clause") "property" "begun", "begun", "Clause.begun", defArgs st_Clause_begun, defBody st_Clause_begun, defScope st_Clause_begun, [], []⟩
def d_raise_of : He5.DefA := ⟨fun K => He.ga K "raise_of", "raise_of", "raise_of", defArgs st_raise_of, defBody st_raise_of, defScope st_raise_of, [], []⟩
def d_behind : He5.DefA := ⟨fun K => He.ga K "behind", "behind", "behind", defArgs st_behind, defBody st_behind, defScope st_behind, [], []⟩
def d_Web_init : He5.DefA := ⟨fun K => He.ma K (He.ga K "Web") "__init__", "__init__", "Web.__init__", defArgs st_Web_init, defBody st_Web_init, defScope st_Web_init, [], []⟩
def d_Web_place_of : He5.DefA := ⟨fun K => He.ma K (He.ga K "Web") "place_of", "place_of", "Web.place_of", defArgs st_Web_place_of, defBody st_Web_place_of, defScope st_Web_place_of, [], []⟩
def d_Web_course_to : He5.DefA := ⟨fun K => He.ma K (He.ga K "Web") "course_to", "course_to", "Web.course_to", defArgs st_Web_course_to, defBody st_Web_course_to, defScope st_Web_course_to, [], []⟩
def d_Row_init : He5.DefA := ⟨fun K => He.ma K (He.ga K "Row") "__init__", "__init__", "Row.__init__", defArgs st_Row_init, defBody st_Row_init, defScope st_Row_init, [], []⟩
def d_Row_after : He5.DefA := ⟨fun K => He.ma K (He.ga K "Row") "after", "after", "Row.after", defArgs st_Row_after, defBody st_Row_after, defScope st_Row_after, [], []⟩
def d_check_some : He5.DefA := ⟨fun K => He.ga K "check_some", "check_some", "check_some", defArgs st_check_some, defBody st_check_some, defScope st_check_some, [], []⟩
def d_begun_row : He5.DefA := ⟨fun K => He.ga K "begun_row", "begun_row", "begun_row", defArgs st_begun_row, defBody st_begun_row, defScope st_begun_row, [], []⟩
def d_web_of_bundles : He5.DefA := ⟨fun K => He.ga K "web_of_bundles", "web_of_bundles", "web_of_bundles", defArgs st_web_of_bundles, defBody st_web_of_bundles, defScope st_web_of_bundles, [], []⟩
def d_checked_bundles : He5.DefA := ⟨fun K => He.ga K "checked_bundles", "checked_bundles", "checked_bundles", defArgs st_checked_bundles, defBody st_checked_bundles, defScope st_checked_bundles, [], []⟩
def d_bundle_parting : He5.DefA := ⟨fun K => He.ga K "bundle_parting", "bundle_parting", "bundle_parting", defArgs st_bundle_parting, defBody st_bundle_parting, defScope st_bundle_parting, [], []⟩
def d_law_jar : He5.DefA := ⟨fun K => He.ga K "_law_jar", "_law_jar", "_law_jar", defArgs st_law_jar, defBody st_law_jar, defScope st_law_jar, [], []⟩
def d_law_draw : He5.DefA := ⟨fun K => He.ga K "_law_draw", "_law_draw", "_law_draw", defArgs st_law_draw, defBody st_law_draw, defScope st_law_draw, [], []⟩
def d_law_wide : He5.DefA := ⟨fun K => He.ga K "_law_wide", "_law_wide", "_law_wide", defArgs st_law_wide, defBody st_law_wide, defScope st_law_wide, [], []⟩
def d_law_terms : He5.DefA := ⟨fun K => He.ga K "_law_terms", "_law_terms", "_law_terms", defArgs st_law_terms, defBody st_law_terms, defScope st_law_terms, [], []⟩
def d_law_near : He5.DefA := ⟨fun K => He.ga K "_law_near", "_law_near", "_law_near", defArgs st_law_near, defBody st_law_near, defScope st_law_near, [], []⟩
def d_law_pair_of : He5.DefA := ⟨fun K => He.ga K "_law_pair_of", "_law_pair_of", "_law_pair_of", defArgs st_law_pair_of, defBody st_law_pair_of, defScope st_law_pair_of, [], []⟩
def d_law_on : He5.DefA := ⟨fun K => He.ga K "_law_on", "_law_on", "_law_on", defArgs st_law_on, defBody st_law_on, defScope st_law_on, [], []⟩
def d_law_year : He5.DefA := ⟨fun K => He.ga K "_law_year", "_law_year", "_law_year", defArgs st_law_year, defBody st_law_year, defScope st_law_year, [], []⟩
def d_law_begun : He5.DefA := ⟨fun K => He.ga K "_law_begun", "_law_begun", "_law_begun", defArgs st_law_begun, defBody st_law_begun, defScope st_law_begun, [], []⟩
def d_law_net : He5.DefA := ⟨fun K => He.ga K "_law_net", "_law_net", "_law_net", defArgs st_law_net, defBody st_law_net, defScope st_law_net, [], []⟩
def d_law_tame : He5.DefA := ⟨fun K => He.ga K "_law_tame", "_law_tame", "_law_tame", defArgs st_law_tame, defBody st_law_tame, defScope st_law_tame, [], []⟩
def d_law_clause : He5.DefA := ⟨fun K => He.ga K "_law_clause", "_law_clause", "_law_clause", defArgs st_law_clause, defBody st_law_clause, defScope st_law_clause, [], []⟩
def d_law_clauses : He5.DefA := ⟨fun K => He.ga K "_law_clauses", "_law_clauses", "_law_clauses", defArgs st_law_clauses, defBody st_law_clauses, defScope st_law_clauses, [], []⟩
def d_law_ways : He5.DefA := ⟨fun K => He.ga K "_law_ways", "_law_ways", "_law_ways", defArgs st_law_ways, defBody st_law_ways, defScope st_law_ways, [], []⟩
def d_law_paths : He5.DefA := ⟨fun K => He.ga K "_law_paths", "_law_paths", "_law_paths", defArgs st_law_paths, defBody st_law_paths, defScope st_law_paths, [], []⟩
def d_law_sides : He5.DefA := ⟨fun K => He.ga K "_law_sides", "_law_sides", "_law_sides", defArgs st_law_sides, defBody st_law_sides, defScope st_law_sides, [], []⟩
def d_law_tame_sides : He5.DefA := ⟨fun K => He.ga K "_law_tame_sides", "_law_tame_sides", "_law_tame_sides", defArgs st_law_tame_sides, defBody st_law_tame_sides, defScope st_law_tame_sides, [], []⟩
def d_law_gap : He5.DefA := ⟨fun K => He.ga K "_law_gap", "_law_gap", "_law_gap", defArgs st_law_gap, defBody st_law_gap, defScope st_law_gap, [], []⟩
def d_law_is_int : He5.DefA := ⟨fun K => He.ga K "_law_is_int", "_law_is_int", "_law_is_int", defArgs st_law_is_int, defBody st_law_is_int, defScope st_law_is_int, [], []⟩
def d_law_is_course : He5.DefA := ⟨fun K => He.ga K "_law_is_course", "_law_is_course", "_law_is_course", defArgs st_law_is_course, defBody st_law_is_course, defScope st_law_is_course, [], []⟩
def d_law_nearest : He5.DefA := ⟨fun K => He.ga K "_law_nearest", "_law_nearest", "_law_nearest", defArgs st_law_nearest, defBody st_law_nearest, defScope st_law_nearest, [], []⟩
def d_law_least : He5.DefA := ⟨fun K => He.ga K "_law_least", "_law_least", "_law_least", defArgs st_law_least, defBody st_law_least, defScope st_law_least, [], []⟩
def d_law_right : He5.DefA := ⟨fun K => He.ga K "_law_right", "_law_right", "_law_right", defArgs st_law_right, defBody st_law_right, defScope st_law_right, [], []⟩
def d_law : He5.DefA := ⟨fun K => He.ga K "law", "law", "law", defArgs st_law, defBody st_law, defScope st_law, [], []⟩
def fnsA : List He5.DefA := [d_is_integer, d_is_between, d_is_band, d_check_band, d_moves_of, d_bounds_of, d_is_part, d_Clause_init, d_Clause_every, d_Clause_rate, d_Clause_floor, d_Clause_ceiling, d_Clause_keep, d_Clause_plus, d_Clause_begun, d_raise_of, d_behind, d_Web_init, d_Web_place_of, d_Web_course_to, d_Row_init, d_Row_after, d_check_some, d_begun_row, d_web_of_bundles, d_checked_bundles, d_bundle_parting, d_law_jar, d_law_draw, d_law_wide]
def fnsB : List He5.DefA := [d_law_terms, d_law_near, d_law_pair_of, d_law_on, d_law_year, d_law_begun, d_law_net, d_law_tame, d_law_clause, d_law_clauses, d_law_ways, d_law_paths, d_law_sides, d_law_tame_sides, d_law_gap, d_law_is_int, d_law_is_course, d_law_nearest, d_law_least, d_law_right, d_law]
def fns : List He5.DefA := fnsA ++ fnsB
def fasA : List He.Fa := [.free "isinstance", .free "int", .free "bool", .free "tuple", .free "len", .free "list", .free "range", .free "min", .free "max", .free "enumerate", .free "zip", .free "sum", .free "abs", .free "all", .free "repr", .free "divmod", .glo "is_integer", .glo "is_between", .glo "is_band", .glo "check_band", .glo "moves_of", .glo "bounds_of", .glo "is_part", .glo "raise_of", .glo "behind", .glo "check_some", .glo "begun_row", .glo "web_of_bundles"]
def fasB : List He.Fa := [.glo "checked_bundles", .glo "bundle_parting", .glo "_law_jar", .glo "_law_draw", .glo "_law_wide", .glo "_law_terms", .glo "_law_near", .glo "_law_pair_of", .glo "_law_on", .glo "_law_year", .glo "_law_begun", .glo "_law_net", .glo "_law_tame", .glo "_law_clause", .glo "_law_clauses", .glo "_law_ways", .glo "_law_paths", .glo "_law_sides", .glo "_law_tame_sides", .glo "_law_gap", .glo "_law_is_int", .glo "_law_is_course", .glo "_law_nearest", .glo "_law_least", .glo "_law_right", .glo "law", .glo "Clause", .cls "Clause"]
def fasC : List He.Fa := [.mkr "Clause", .glo "Web", .cls "Web", .mkr "Web", .glo "Row", .cls "Row", .mkr "Row", .int "MOST_EVERY" 3, .int "MOST_RATE" 5, .int "MOST_BOUND" 20, .int "MOST_KEEP" 6, .int "MOST_PLUS" 9, .int "MOST_BAND" 3, .int "MOST_STANDINGS" 600, .int "MOST_BUNDLE" 3, .noat "Clause" "parts", .noat "Web" "nodes", .noat "Web" "places", .noat "Web" "steps", .noat "Web" "origins", .noat "Row" "row", .noat "Row" "signs", .meth "Web" "place_of", .meth "Web" "course_to", .meth "Row" "after"]
def fas : List He.Fa := fasA ++ (fasB ++ fasC)
def looseA : List PySem.Str := ["_wall", "NotRight", "InvalidPart", "InvalidText", "InvalidBand", "InvalidClauses", "CannotBe", "TooMany", "MOST_EVERY", "MOST_RATE", "MOST_BOUND", "MOST_KEEP", "MOST_PLUS", "MOST_BAND", "MOST_STANDINGS", "MOST_BUNDLE", "is_integer", "is_between", "is_band", "check_band"]
def looseB : List PySem.Str := ["moves_of", "WORDS", "DIGITS", "bounds_of", "is_part", "is_numeral", "parts_of", "Clause", "raise_of", "behind", "Web", "Row", "check_some", "begun_row", "web_of_bundles", "checked_bundles", "bundle_parting", "_law_jar", "_law_draw", "_law_wide"]
def looseC : List PySem.Str := ["_law_terms", "_law_near", "_law_pair_of", "_law_on", "_law_year", "_law_begun", "_law_net", "_law_tame", "_law_clause", "_law_clauses", "_law_ways", "_law_paths", "_law_sides", "_law_tame_sides", "_law_gap", "_law_is_int", "_law_is_course", "_law_nearest", "_law_least", "_law_right"]
def looseN : List PySem.Str := looseA ++ (looseB ++ looseC)
def propNames : List PySem.Str := ["every", "rate", "floor", "ceiling", "keep", "plus", "begun"]
/-- a property of the class: its record, its getter -/
def propB (K : PySem.W.Frag) (C : Addr) (f : PySem.Str) : Bool :=
  He.eqO (PySem.W.findIn K (.ref C) f) (some (some (.ref (He.ma K C f)))) && (He.eqO (PySem.W.specialIn K (.ref (He.ma K C f)) "__get__") (some (some (.builtin "property.__get__"))) &&
    (decide (PySem.W.takesIn K (.ref (He.ma K C f)) = some true) && (match PySem.W.recIn K (He.ma K C f) "property" with
      | some (.ref _ :: _) => true
      | _ => false)))
theorem propB_ok {K : PySem.W.Frag} {C : Addr} {f : PySem.Str} (h : propB K C f = true) : PropOf K C f (He.ma K C f) (He5.wf K C "property" f) := by
  obtain ⟨h1, h⟩ := He.ba h
  obtain ⟨h2, h⟩ := He.ba h
  obtain ⟨h3, h4⟩ := He.ba h
  refine ⟨He.eqO_ok h1, He.eqO_ok h2, of_decide_eq_true h3, ?_⟩
  unfold He5.wf
  split at h4
  · rename_i g r e
    exact ⟨r, by rw [e]⟩
  · cases h4
/-- isinstance of one of the class's own -/
def isiB (K : PySem.W.Frag) (C : Addr) : Bool :=
  He.eqO (PySem.W.findIn K (.ref C) "__class__") (some (some (.builtin "object.__class__"))) && (He.eqO (PySem.W.specialIn K (.builtin "object.__class__") "__get__") (some (some (.builtin "getset_descriptor.__get__"))) &&
    (decide (PySem.W.takesIn K (.builtin "object.__class__") = some true) && (decide (PySem.W.mroIn K C (.type "object") = some true) && decide (PySem.W.kitOne K (.ref C) (.ref C) = some true))))
structure IsiF (K : PySem.W.Frag) (C : Addr) : Prop where
  ha : PySem.W.findIn K (.ref C) "__class__" = some (some (.builtin "object.__class__"))
  hn : PySem.W.specialIn K (.builtin "object.__class__") "__get__" = some (some (.builtin "getset_descriptor.__get__"))
  ht : PySem.W.takesIn K (.builtin "object.__class__") = some true
  hm : PySem.W.mroIn K C (.type "object") = some true
  one : PySem.W.kitOne K (.ref C) (.ref C) = some true
theorem isiB_ok {K : PySem.W.Frag} {C : Addr} (h : isiB K C = true) : IsiF K C := by
  obtain ⟨h1, h⟩ := He.ba h
  obtain ⟨h2, h⟩ := He.ba h
  obtain ⟨h3, h⟩ := He.ba h
  obtain ⟨h4, h5⟩ := He.ba h
  exact ⟨He.eqO_ok h1, He.eqO_ok h2, of_decide_eq_true h3, of_decide_eq_true h4, of_decide_eq_true h5⟩
def exB (K : PySem.W.Frag) : Bool := (propNames.all fun f => propB K (He.ga K "Clause") f) && isiB K (He.ga K "Clause")
/-! the Hook: facts, defs at any address, properties -/
def obsB (K : PySem.W.Frag) : He.AlD := (((fas.all fun f => f.ok K) && fns.all fun d => d.ok K) && exB K, fns.map fun d => He5.fnA K (d.at_ K))
def valB : He.AlD := (true, fns.map He5.DefA.val)
def SaysB (K : PySem.W.Frag) : Prop := obsB K = valB
def obsBG (g : Addr → Option Obj) : He.AlD := obsB (He.frG g (He.asD g 6))
def hookB : PySem.W.Hook where
  α := He.AlD
  obs := fun s => obsBG s.heap.get?
  val := fun _ => valB
  says := fun _ h => ∃ K : PySem.W.Frag, K.In h ∧ SaysB K
  of := fun _ _ e => ⟨_, He.frG_in, e⟩
  keeps := fun _ _ _ ⟨K, hK, c⟩ k => ⟨K, PySem.W.Frag.In.keeps hK k, c⟩
theorem obsBG_eq {g : Addr → Option Obj} {s : Shared} (h : ∀ a, g a = s.heap.get? a) : obsBG g = hookB.obs s := by
  have e : g = s.heap.get? := funext h
  rw [e] <;> rfl
abbrev R : PySem.W.OpenRow := PySem.W.OpenLaw.row PySem.Challenge.rw_pointrents_k71_whole_bundle_partings
def obT (s : PySem.W.SharedT) : He.AlD := obsBG (HandSHeadRun.getT s)
theorem obT_eq (s : PySem.W.SharedT) : obT s = hookB.obs s.abs := obsBG_eq (HandSHeadRun.getT_eq s)
section
variable {K : PySem.W.Frag}
theorem SaysB.all (c : SaysB K) : ((fas.all fun f => f.ok K) && fns.all fun d => d.ok K) = true ∧ exB K = true := He.ba (congrArg (fun z : He.AlD => z.1) c)
theorem SaysB.fact (c : SaysB K) (i : Nat) {f : He.Fa} (h : fas[i]? = some f := by rfl) : f.ok K = true := List.all_eq_true.mp (He.ba c.all.1).1 f (List.mem_of_getElem? h)
theorem SaysB.def_ (c : SaysB K) (i : Nat) {d : He5.DefA} (h : fns[i]? = some d := by rfl) : ∃ fd, L2.FunD K d.name d.qual d.params d.body d.scope (d.dvs K) (d.kws K) (d.at_ K) fd := by
  have c2 := (He.ba c.all.1).2
  have e : fns.map (fun d => He5.fnA K (d.at_ K)) = fns.map He5.DefA.val := congrArg (fun z : He.AlD => z.2) c
  have e2 : (fns.map fun d => He5.fnA K (d.at_ K))[i]? = (fns.map He5.DefA.val)[i]? := by rw [e]
  rw [List.getElem?_map, List.getElem?_map, h] at e2
  exact He5.DefA.funD (Option.some.inj e2) (List.all_eq_true.mp c2 d (List.mem_of_getElem? h))
theorem SaysB.prop (c : SaysB K) (i : Nat) {f : PySem.Str} (h : propNames[i]? = some f := by rfl) : PropOf K (He.ga K "Clause") f (He.ma K (He.ga K "Clause") f) (He5.wf K (He.ga K "Clause") "property" f) :=
  propB_ok (List.all_eq_true.mp (He.ba c.all.2).1 f (List.mem_of_getElem? h))
theorem SaysB.isi (c : SaysB K) : IsiF K (He.ga K "Clause") := isiB_ok (He.ba c.all.2).2
end
theorem head_run (w : World) : HandSHeadRun.RunEq R (PySem.W.view R.prog [66]) hookB obT 20000 looseN w := by
  intro os
  kernel_rfl
end PB


set_option maxHeartbeats 4000000
/-! Own rules: dicts whose keys are rows of standings (tuples of triples). -/
namespace PB
open PySem PySem.Spec PyProof.Rows L2

/-! ### standings and rows of them in the heap -/
def sdV (s : Sd) : List V := [.int s.1, .int s.2.1, .int s.2.2]
def IsSd (H : Hp) (v : V) (s : Sd) : Prop := ∃ a, v = .ref a ∧ H a = some (.tup (sdV s))
def IsSds (H : Hp) (v : V) (ss : List Sd) : Prop := ∃ a vs, v = .ref a ∧ H a = some (.tup vs) ∧ Paired (IsSd H) vs ss
theorem IsSd.keep {H H' : Hp} {v : V} {s : Sd} (k : ∀ b xs, H b = some (.tup xs) → H' b = some (.tup xs)) (h : IsSd H v s) : IsSd H' v s :=
  let ⟨a, e, q⟩ := h; ⟨a, e, k _ _ q⟩
theorem IsSds.keep {H H' : Hp} {v : V} {ss : List Sd} (k : ∀ b xs, H b = some (.tup xs) → H' b = some (.tup xs)) (h : IsSds H v ss) : IsSds H' v ss :=
  let ⟨a, vs, e, q, r⟩ := h; ⟨a, vs, e, k _ _ q, Paired.mapP r fun _ _ z => z.keep k⟩
theorem IsSd.inj {H : Hp} {v : V} {s t : Sd} (h : IsSd H v s) (h' : IsSd H v t) : s = t := by
  obtain ⟨a, rfl, e⟩ := h
  obtain ⟨b, e', e2⟩ := h'
  cases e'
  rw [e] at e2
  have q : sdV s = sdV t := by injection e2 with e2; injection e2
  obtain ⟨s1, s2, s3⟩ := s
  obtain ⟨t1, t2, t3⟩ := t
  simp only [sdV, List.cons.injEq, V.int.injEq, and_true] at q
  obtain ⟨q1, q2, q3⟩ := q
  rw [q1, q2, q3]
def nk1 (s : Sd) : NestedKey := .tup [.num s.1, .num s.2.1, .num s.2.2]
def nkey (ss : List Sd) : NestedKey := .tup (ss.map nk1)
theorem nk1_inj {s t : Sd} (h : nk1 s = nk1 t) : s = t := by
  obtain ⟨s1, s2, s3⟩ := s
  obtain ⟨t1, t2, t3⟩ := t
  simp only [nk1, NestedKey.tup.injEq, List.cons.injEq, NestedKey.num.injEq, and_true] at h
  obtain ⟨q1, q2, q3⟩ := h
  rw [q1, q2, q3]
theorem nkey_inj : ∀ {a b : List Sd}, nkey a = nkey b → a = b := by
  have key : ∀ a b : List Sd, a.map nk1 = b.map nk1 → a = b := by
    intro a
    induction a with
    | nil => intro b h; cases b with
      | nil => rfl
      | cons _ _ => simp at h
    | cons x a ih => intro b h; cases b with
      | nil => simp at h
      | cons y b =>
        simp only [List.map_cons, List.cons.injEq] at h
        rw [nk1_inj h.1, ih b h.2]
  intro a b h
  exact key a b (NestedKey.tup.inj h)
theorem nkey_iff {a b : List Sd} : nkey a = nkey b ↔ a = b := ⟨nkey_inj, fun e => by rw [e]⟩
theorem nkey_depth (ss : List Sd) : (nkey ss).depth ≤ 8 := by
  have h : ∀ l : List Sd, NestedKey.depthAll (l.map nk1) ≤ 1 := by
    intro l
    induction l with
    | nil => simp [NestedKey.depthAll]
    | cons x l ih =>
      rw [List.map_cons, NestedKey.depthAll]
      have : (nk1 x).depth = 1 := rfl
      omega
  have := h ss
  rw [nkey, NestedKey.depth]
  omega
section
variable {P : Program} {w : World} {H : Hp} {h : Heap}
theorem sd_is {v : V} {u : Value} {s : Sd} (ok : HOk P w H h) (r : RelV v u) (q : IsSd H v s) : NestedIs h (nk1 s) u := by
  obtain ⟨a, rfl, e⟩ := q
  obtain rfl : u = Value.ref a := r
  obtain ⟨_, its, rv, o, h1, h2, n, h3⟩ := (show ObjOk P w H h a (.tup (sdV s)) from ok a _ e)
  refine .tup h1 h2 h3 ?_
  have rv' : Vals [V.int s.1, V.int s.2.1, V.int s.2.2] its := rv
  cases rv' with
  | cons r1 t1 => cases t1 with
    | cons r2 t2 => cases t2 with
      | cons r3 t3 =>
        cases t3
        obtain ⟨k1, rfl⟩ := r1
        obtain ⟨k2, rfl⟩ := r2
        obtain ⟨k3, rfl⟩ := r3
        exact .cons (.int _ _) (.cons (.int _ _) (.cons (.int _ _) .nil))
theorem sds_all (ok : HOk P w H h) : ∀ {vs : List V} {ss : List Sd} {us : List Value}, Paired (IsSd H) vs ss → Vals vs us → NestedAll h (ss.map nk1) us
  | _, _, _, .nil, .nil => .nil
  | _, _, _, .cons q qs, .cons r rs => .cons (sd_is ok r q) (sds_all ok qs rs)
theorem sds_is {a : Addr} {ss : List Sd} (ok : HOk P w H h) (q : IsSds H (.ref a) ss) : (nestedKind P w).is h (nkey ss) a := by
  obtain ⟨b, vs, e, e2, r⟩ := q
  cases e
  obtain ⟨_, its, rv, o, h1, h2, n, h3⟩ := (show ObjOk P w H h a (.tup vs) from ok a _ e2)
  exact ⟨.tup h1 h2 h3 (by simpa using sds_all ok r rv), nkey_depth ss⟩
end

/-! ### the dict -/
abbrev Tab := List (List Sd × V)
abbrev NE (H : Hp) : Tab → List (NestedKey × Addr × Value) → Prop := Paired fun p q => q.1 = nkey p.1 ∧ IsSds H (.ref q.2.1) p.1 ∧ RelV p.2 q.2.2
structure ND (P : Program) (w : World) (H : Hp) (d : Addr) (o : Obj) (kvs : Tab) : Prop where
  at_ : H d = some (.ext fun h => h.get? d = some o)
  ns : (d == sysModules) = false
  len : kvs.length ≤ sizeLine
  nd : (kvs.map (·.1)).Nodup
  tab : ∃ (es : Array DictEntry) (ep : Nat) (xs : List (NestedKey × Addr × Value)), o.ExactDict ∧ o.data = .dict es ep ∧ es.toList = xs.map (entryOfKey (nestedKind P w)) ∧ NE H kvs xs
section
variable {P : Program} {w : World} {H H' : Hp} {h : Heap} {d : Addr} {o : Obj} {kvs : Tab}
theorem NE.keep {xs} (k : ∀ b xs, H b = some (.tup xs) → H' b = some (.tup xs)) (r : NE H kvs xs) : NE H' kvs xs := Paired.mapP r fun _ _ z => ⟨z.1, z.2.1.keep k, z.2.2⟩
theorem ND.keep (k : ∀ b xs, H b = some (.tup xs) → H' b = some (.tup xs)) (kd : H' d = H d) (n : ND P w H d o kvs) : ND P w H' d o kvs := by
  obtain ⟨es, ep, xs, h1, h2, h3, h4⟩ := n.tab
  exact ⟨by rw [kd]; exact n.at_, n.ns, n.len, n.nd, es, ep, xs, h1, h2, h3, h4.keep k⟩
theorem ND.same (s : Same H H') (n : ND P w H d o kvs) : ND P w H' d o kvs := n.keep (fun b xs e => s b _ e) (by rw [s _ _ n.at_, n.at_])
theorem NE.keys {xs} (r : NE H kvs xs) : xs.map (·.1) = kvs.map fun p => nkey p.1 := by
  induction r with
  | nil => rfl
  | cons h t ih => rw [List.map_cons, List.map_cons, ih, h.1]
theorem nodup_nkey {l : List (List Sd)} (h : l.Nodup) : (l.map nkey).Nodup := by
  rw [List.Nodup, List.pairwise_map]
  exact List.Pairwise.imp (fun {a b} hne e => hne (nkey_inj e)) h
theorem NE.nodup {xs} (r : NE H kvs xs) (n : (kvs.map (·.1)).Nodup) : (xs.map (·.1)).Nodup := by
  rw [r.keys]
  have := nodup_nkey n
  rwa [List.map_map] at this
theorem NE.val {xs} (r : NE H kvs xs) (k : List Sd) : RelO (valV kvs k) ((atKey xs (nkey k)).map (·.2)) := by
  induction r with
  | nil => exact True.intro
  | @cons p q ps qs h t ih =>
    obtain ⟨h1, _, h2⟩ := h
    by_cases e : p.1 = k
    · have e' : q.1 = nkey k := by rw [h1, e]
      have b : atKey (q :: qs) (nkey k) = some q.2 := by simp [atKey, List.find?_cons, e']
      rw [valV_pos e, b]
      exact h2
    · have e' : ¬ q.1 = nkey k := fun z => e (nkey_inj (h1.symm.trans z))
      have b : atKey (q :: qs) (nkey k) = atKey qs (nkey k) := by simp [atKey, List.find?_cons, e']
      rw [valV_neg e, b]
      exact ih
theorem ND.of (ok : HOk P w H h) (n : ND P w H d o kvs) : h.get? d = some o ∧ ∃ (es : Array DictEntry) (ep : Nat) (xs : List (NestedKey × Addr × Value)), o.ExactDict ∧ o.data = .dict es ep ∧
    es.toList = xs.map (entryOfKey (nestedKind P w)) ∧ NE H kvs xs ∧ h.DictOfH (nestedKind P w) d xs ∧ es.size = kvs.length := by
  obtain ⟨es, ep, xs, h1, h2, h3, h4⟩ := n.tab
  have hd : h.get? d = some o := (show ObjOk P w H h d (.ext fun h => h.get? d = some o) from ok d _ n.at_).1
  refine ⟨hd, es, ep, xs, h1, h2, h3, h4, ⟨o, es, ep, hd, h1, h2, h3, fun x hx => ?_, h4.nodup n.nd⟩, ?_⟩
  · have all : ∀ {l : Tab} {m : List (NestedKey × Addr × Value)}, NE H l m → ∀ x ∈ m, (nestedKind P w).is h x.1 x.2.1 := by
      intro l m q
      induction q with
      | nil => intro x hx; exact nomatch hx
      | @cons p q ps qs hq t ih =>
        intro x hx
        rcases List.mem_cons.mp hx with e | hx
        · subst e
          rw [hq.1]
          exact sds_is ok hq.2.1
        · exact ih x hx
    exact all h4 x hx
  · rw [size_of_entries h3]
    exact (Paired.length h4).symm
theorem nd_ext (hd : h.get? d = some o) : ObjOk P w H h d (.ext fun h => h.get? d = some o) := ⟨hd, ⟨o, hd⟩, fun h1 h2 e k => k o e⟩
theorem room8 {A : Around} (hu : A.units + 64 < cLine) : (nestedKind P w).room A.in1 := by
  show A.units + 1 + 8 < cLine
  omega
end

section
variable {X : Cx} {o : Obj} {kvs : Tab}
/-- k in d, k not in d -/
def rND (P : Program) (w : World) (neg : Bool) : R2 := fun x y H Q => ∃ d o kvs k, y = .ref d ∧ ND P w H d o kvs ∧ IsSds H x k ∧ Q (.bl (if neg then !(valV kvs k).isSome else (valV kvs k).isSome)) H
theorem op_inN (hu : X.A.units + 64 < cLine) : OpR X (compareOp .In) (rND X.prog X.w false) := by
  intro pins s σ H x y v u Q I rx ry h
  obtain ⟨d, o, kvs, k, rfl, n, hk, q⟩ := h
  obtain rfl : u = Value.ref d := ry
  obtain ⟨_, es, ep, xs, _, _, _, r, dd, _⟩ := n.of I.hok
  have hk2 := hk
  obtain ⟨a, vs, rfl, _, _⟩ := hk2
  obtain rfl : v = Value.ref a := rx
  refine wpAny_in_heap (room8 hu) (sds_is I.hok hk) n.ns dd ?_
  have e := (r.val k).isSome_eq
  rw [Option.isSome_map] at e
  rw [← e]
  exact ⟨.bl _, H, I.tok _, rfl, q⟩
theorem op_ninN (hu : X.A.units + 64 < cLine) : OpR X (compareOp .NotIn) (rND X.prog X.w true) := by
  intro pins s σ H x y v u Q I rx ry h
  obtain ⟨d, o, kvs, k, rfl, n, hk, q⟩ := h
  obtain rfl : u = Value.ref d := ry
  obtain ⟨_, es, ep, xs, _, _, _, r, dd, _⟩ := n.of I.hok
  have hk2 := hk
  obtain ⟨a, vs, rfl, _, _⟩ := hk2
  obtain rfl : v = Value.ref a := rx
  show wpAny _ _ (do return Value.bool (!(← contains (.ref d) (.ref a)))) _ _ s
  refine wpAny_bind (wpAny_contains_heap (room8 hu) (sds_is I.hok hk) n.ns dd (wpAny_pure ?_))
  have e := (r.val k).isSome_eq
  rw [Option.isSome_map] at e
  rw [← e]
  exact ⟨.bl _, H, I.tok _, rfl, q⟩
/-- d[k], there -/
def tNGet (P : Program) (w : World) (td ty : TE) : TE := fun σ H Q => td σ H fun x H1 => ty σ H1 fun y H2 => ∃ d o kvs k v, x = .ref d ∧ ND P w H2 d o kvs ∧ IsSds H2 y k ∧ valV kvs k = some v ∧ Q v H2
theorem pe_ixN {b i : Expr} {pos : Pos} {td ty : TE} (hu : X.A.units + 64 < cLine) (ho : PE X b td) (hi : PE X i ty) (hs : NoSl i) : PE X (.Subscript b i pos) (tNGet X.prog X.w td ty) := by
  refine ⟨fun pins s σ H Q I h => ?_⟩
  refine subD_of PySem.F.slot_dict_getitem.lookup hs (thn (ho.run pins s σ H _ I h) fun u s1 ⟨x, H1, I1, rx, q1⟩ => thn (hi.run pins s1 σ H1 _ I1 q1) fun iv s2 ⟨y, H2, I2, ry, d, o, kvs, k, v, ex, n, hk, hv, q2⟩ => ?_)
  subst ex
  obtain rfl : u = Value.ref d := rx
  obtain ⟨_, es, ep, xs, _, _, _, r, dd, _⟩ := n.of I2.hok
  have hk2 := hk
  obtain ⟨a, vs, rfl, _, _⟩ := hk2
  obtain rfl : iv = Value.ref a := ry
  refine ⟨dd.typeIs, ?_⟩
  obtain ⟨w', hw, rw'⟩ := RelO.some_of (v := v) (o := (atKey xs (nkey k)).map (·.2)) (by rw [← hv]; exact r.val k)
  obtain ⟨p, hp, hp2⟩ := Option.map_eq_some_iff.mp hw
  refine wpAny_getItem_heap (room8 hu) (sds_is I2.hok hk) dd hp ?_
  rw [hp2]
  exact ⟨v, H2, I2.tok _, rw', q2⟩

/-- the table behind d[k] = v -/
theorem NE.put {H : Hp} {xs : List (NestedKey × Addr × Value)} (r : NE H kvs xs) (k : List Sd) {b : Addr} {y : V} {u : Value} (hb : IsSds H (.ref b) k) (ry : RelV y u) : NE H (putK kvs k y) (storedH xs (nkey k) b u) := by
  have e : (kvs.any fun kv => decide (kv.1 = k)) = (atKey xs (nkey k)).isSome := by rw [valV_any, (r.val k).isSome_eq, Option.isSome_map]
  unfold putK storedH
  rw [e]
  by_cases q : (atKey xs (nkey k)).isSome = true
  · rw [if_pos q, if_pos q]
    clear e q
    induction r with
    | nil => exact .nil
    | @cons p q ps qs h t ih =>
      rw [List.map_cons, List.map_cons]
      refine .cons ?_ ih
      obtain ⟨h1, h2, h3⟩ := h
      unfold putAt
      by_cases z : p.1 = k
      · rw [if_pos z, if_pos (by rw [h1, z])]
        exact ⟨h1, h2, ry⟩
      · rw [if_neg z, if_neg (fun y => z (nkey_inj (h1.symm.trans y)))]
        exact ⟨h1, h2, h3⟩
  · rw [if_neg q, if_neg q]
    exact Paired.snoc r ⟨rfl, hb, ry⟩
theorem putK_keys {k : List Sd} {v : V} (n : (kvs.map (·.1)).Nodup) : ((putK kvs k v).map (·.1)).Nodup := by
  unfold putK
  by_cases q : (kvs.any fun kv => decide (kv.1 = k)) = true
  · rw [if_pos q]
    have : ((kvs.map fun kv => if kv.1 = k then (kv.1, v) else kv).map (·.1)) = kvs.map (·.1) := by
      rw [List.map_map]
      refine List.map_congr_left fun x _ => ?_
      by_cases z : x.1 = k <;> simp [z]
    rw [this]
    exact n
  · rw [if_neg q, List.map_append, List.nodup_append]
    refine ⟨n, by simp, fun a ha b hb e => q ?_⟩
    have hb' : b = k := by simpa using hb
    obtain ⟨p, hp, e2⟩ := List.mem_map.mp ha
    exact List.any_eq_true.mpr ⟨p, hp, by simp [e2, e, hb']⟩
/-- d[k] = v -/
def rSetN (P : Program) (w : World) : TSet := fun x i v H Q => ∃ d o kvs k, x = .ref d ∧ ND P w H d o kvs ∧ IsSds H i k ∧ kvs.length < sizeLine ∧
  ∀ (o' : Obj) (H' : Hp), H' = upd H d (.ext fun h => h.get? d = some o') → ND P w H' d o' (putK kvs k v) → Q H'
theorem set_N (hu : X.A.units + 64 < cLine) : PSet X (rSetN X.prog X.w) := by
  intro pins s σ H ov i v xv iv u Q I rx ri rv h
  obtain ⟨d, o, kvs, k, rfl, n, hk, hl, q⟩ := h
  obtain rfl : xv = Value.ref d := rx
  obtain ⟨hd, es, ep, xs, _, _, _, r, dd, hsz⟩ := n.of I.hok
  have hk2 := hk
  obtain ⟨a, vs, rfl, _, _⟩ := hk2
  obtain rfl : iv = Value.ref a := ri
  have hz : xs.length ≤ sizeLine := by rw [← Paired.length r]; exact n.len
  have hl2 : (putK kvs k v).length ≤ sizeLine := by have := length_putK kvs k v; omega
  refine wpAny_setItem_heap (hsz := hz) (room8 hu) (sds_is I.hok hk) dd fun h' dd' hs => ?_
  obtain ⟨o', es', ep', hq, h2, h3, h4, _, h5⟩ := dd'
  have I1 : Inv X pins σ (upd H d (.ext fun h => h.get? d = some o')) { s with heap := h', toks := s.toks + (nestedKind X.prog X.w).draws (nkey k) } :=
    I.write (x := d) (e := d) (by rw [n.at_]; exact True.intro) (.inl rfl) (fun b z hb e => (hs.2 b hb).trans e) ⟨o', hq⟩ (nd_ext hq)
  refine ⟨_, I1, q o' _ rfl ⟨upd_same, n.ns, hl2, putK_keys n.nd, es', ep', _, h2, h3, h4, (r.put k hk rv).keep fun b ys e => ?_⟩⟩
  rw [upd_ne (ne_of e n.at_ (fun z => nomatch z))]
  exact e
/-- len(d) -/
theorem call_lenN : CallR X (.builtin "len") (fun xs H Q => ∃ d o kvs, xs = [.ref d] ∧ ND X.prog X.w H d o kvs ∧ Q (.int (kvs.length : Int)) H) := by
  intro pins s σ H xs us Q I r h
  obtain ⟨d, o, kvs, rfl, n, q⟩ := h
  obtain ⟨u, rfl, rx⟩ := vals1 r
  obtain rfl : u = Value.ref d := rx
  obtain ⟨hd, es, ep, ys, hx, hdt, _, rr, dd, hsz⟩ := n.of I.hok
  have hl := n.len
  rw [sizeLine_eq] at hl
  refine PyProof.Rows.call_len_slot (n := kvs.length) dd.typeIs PySem.F.slot_dict_len (fun Q' hq => ?_) (by omega) (by omega) ?_
  rotate_left
  rotate_left
  · exact call_len_raw n.ns (es := es) (ep := ep) ⟨o, hd, hx, hdt⟩ (by rw [hsz]; exact hq)
  · exact ⟨.int _, H, I.tok _, ⟨_, rfl⟩, q⟩
/-- list(d): the keys' own tuples -/
theorem call_listN (hc : X.calm = true) : CallR X (.type "list") (fun xs H Q => ∃ d o kvs, xs = [.ref d] ∧ ND X.prog X.w H d o kvs ∧
    ∀ (p : Addr) (vs : List V), H p = none → Paired (IsSds H) vs (kvs.map (·.1)) → Q (.ref p) (upd H p (.lst vs))) := by
  intro pins s σ H xs us Q I r h
  obtain ⟨d, o, kvs, rfl, n, q⟩ := h
  obtain ⟨u, rfl, rx⟩ := vals1 r
  obtain rfl : u = Value.ref d := rx
  obtain ⟨hd, es, ep, ks, hx, hdt, he, rr, dd, hsz⟩ := n.of I.hok
  have hln := n.len
  refine PySem.W.kdl_call (kdl_raw n.ns hx hdt) (I.ok.hd hc) hd (by omega) fun h' tk acc' c' kp e it => ?_
  have l1 : es.size = ks.length := size_of_entries he
  have hacc : acc'.toList = (ks.map fun x => x.2.1).map Value.ref := by
    apply List.ext_getElem?
    intro j
    rw [List.map_map, List.getElem?_map]
    have hlen : acc'.toList.length = ks.length := by rw [Array.length_toList, it.1, l1]
    cases hj : acc'.toList[j]? with
    | none =>
      have := List.getElem?_eq_none_iff.mp hj
      rw [List.getElem?_eq_none (by omega)]
      rfl
    | some v =>
      obtain ⟨en, hen, hv⟩ := it.2 j v (by rw [← Array.getElem?_toList]; exact hj)
      have qe := entry_at he j
      rw [hen] at qe
      cases hb : ks[j]? with
      | none =>
        rw [hb] at qe
        cases qe
      | some b =>
        rw [hb] at qe
        have e2 : en = entryOfKey (nestedKind X.prog X.w) b := Option.some.inj qe
        rw [hv, e2]
        rfl
  have rv : Vals ((ks.map fun x => x.2.1).map V.ref) acc'.toList := by rw [hacc]; exact vals_refs _
  have hz : ((ks.map fun x => x.2.1).map V.ref).length ≤ sizeLine := by rw [List.length_map, List.length_map]; omega
  refine ⟨.ref s.heap.objs.size, _, I.laid (t' := tk) (o := .lst ((ks.map fun x => x.2.1).map V.ref)) kp (Nat.le_refl _) ⟨hz, acc'.toList, c', rv, by rw [Array.toArray_toList]; exact e⟩, rfl, q _ _ (I.hok.fresh (Nat.le_refl _)) ?_⟩
  clear he hacc rv hz l1 it
  have key : ∀ {l : Tab} {m : List (NestedKey × Addr × Value)}, NE H l m → Paired (IsSds H) ((m.map fun x => x.2.1).map V.ref) (l.map (·.1)) := by
    intro l m z
    induction z with
    | nil => exact .nil
    | cons h t ih => exact .cons h.2.1 ih
  exact key rr

/-! ### for k in d -/
def ItN (P : Program) (w : World) (d : Addr) (o : Obj) (kvs : Tab) : It :=
  ⟨fun i H => ND P w H d o kvs ∧ i < kvs.length, fun i H x H' => H' = H ∧ ∃ k v, kvs[i]? = some (k, v) ∧ IsSds H x k, fun i H => ND P w H d o kvs ∧ kvs.length ≤ i⟩
theorem turn_N {P : Program} {w : World} {K : PySem.W.Frag} {tg : Expr} {d : Addr} {es : Array DictEntry} {ep : Nat} (it : Addr) (hod : o.data = .dict es ep) :
    Turn P w K tg (ItN P w d o kvs) [it] it (fun i h => h.IsKeyIter it d i kvs.length ep) where
  mem := by simp
  obj := fun i h st b hb => by
    have e : b = it := by simpa using hb
    subst e
    obtain ⟨oi, e, c, dd⟩ := st
    exact ⟨oi, e, fun v z => by rw [dd] at z; cases z⟩
  keep := fun i h h' st k => st.at fun oi e => k it (by simp) oi e
  item := by
    intro X hP hw hK hc i pins s σ H E I hf st hg
    subst hP hw hK
    obtain ⟨n, hi⟩ := hg
    obtain ⟨f0, f1, f2, f3, f4, f5⟩ := hf it (by simp)
    obtain ⟨hgd, es', ep', xs, hx, hdt, he, r, dd, hsz⟩ := n.of I.hok
    obtain ⟨rfl, rfl⟩ := dict_ep hod hdt
    have hkv : kvs[i]? = some kvs[i] := List.getElem?_eq_getElem hi
    obtain ⟨b, hb, e1, e2, _⟩ := paired_get r hkv
    have hen := entry_at he i
    rw [hb] at hen
    refine next_key_item st hgd hdt hsz hen fun h' st' sb => ?_
    have I1 : Inv X pins σ H { s with heap := h' } := I.turned (t' := s.toks) (fun b ob hb e => (sb.2 b hb).trans e) f0 f1 f3 f4 f5
    obtain ⟨oi, e, c, dd⟩ := id st'
    exact ⟨_, rfl, go_of (s := { s with heap := h' }) e c dd (by decide) ⟨.ref b.2.1, H, I1, rfl, ⟨rfl, kvs[i].1, kvs[i].2, hkv, e2⟩, st', fun b hb => (hf b hb).1⟩⟩
  done := by
    intro X hP hw hK hc i pins s σ H E I hf st hg
    subst hP hw hK
    obtain ⟨n, hi⟩ := hg
    obtain ⟨f0, f1, f2, f3, f4, f5⟩ := hf it (by simp)
    obtain ⟨hgd, es', ep', xs, hx, hdt, he, r, dd, hsz⟩ := n.of I.hok
    obtain ⟨rfl, rfl⟩ := dict_ep hod hdt
    exact next_key_end (I.ok.hd hc) st hgd hdt hsz hi fun h' eb => ⟨rfl, I.turned (t' := s.toks) (fun b ob hb e => eb b ob hb e) f0 f1 f3 f4 f5⟩
  self := fun A i s Q E st h => wpAny_pyIter_keyiter st h
def iND (P : Program) (w : World) (td : TE) : TI := fun σ H R => td σ H fun x H1 => ∃ d o kvs, x = .ref d ∧ ND P w H1 d o kvs ∧ R (ItN P w d o kvs) H1
theorem pi_N {tg e : Expr} {td : TE} (he : PE X e td) : PI X tg e (iND X.prog X.w td) := by
  refine ⟨fun pins s σ H R I h => ?_⟩
  refine thn (he.run pins s σ H _ I h) fun u s1 ⟨x, H1, I1, rx, d, o, kvs, ex, n, q⟩ => ?_
  subst ex
  obtain rfl : u = Value.ref d := rx
  obtain ⟨hgd, es, ep, xs, hx, hdt, he, r, dd, hsz⟩ := n.of I1.hok
  refine iter_keys n.ns hgd hx hdt (pi_one (tk := s1.toks) I1 _ (turn_N _ hdt) ⟨_, Heap.get?_push_size _ rfl, rfl, ?_⟩ q)
  rw [hsz] <;> rfl
theorem walk_N {P : Program} {w : World} {d : Addr} : Walk (ItN P w d o kvs) kvs.length (fun H => ND P w H d o kvs) (fun i H x H' => H' = H ∧ ∃ k v, kvs[i]? = some (k, v) ∧ IsSds H x k) :=
  ⟨fun _ _ hi q => ⟨q, hi⟩, fun _ q => ⟨q, Nat.le_refl _⟩, fun _ _ _ _ _ _ y => y⟩

/-! ### {} and {k: v} -/
def tNNew (P : Program) (w : World) : TE := fun _ H Q => ∀ (p : Addr) (o : Obj) (H' : Hp), H p = none → H' = upd H p (.ext fun h => h.get? p = some o) → ND P w H' p o [] → Q (.ref p) H'
theorem pe_newN {pos : Pos} : PE X (.Dict [] [] pos) (tNNew X.prog X.w) := ⟨fun pins s σ H Q I h => by
  have hg : (s.heap.push { cls := .type "dict", data := .dict #[] }).get? s.heap.objs.size = some { cls := .type "dict", data := .dict #[] } := Heap.get?_push_size _ rfl
  refine wpAny_Dict_empty ⟨.ref s.heap.objs.size, _, I.laid (a := s.heap.objs.size) (o := .ext fun h => h.get? s.heap.objs.size = some { cls := .type "dict", data := .dict #[] }) (t' := s.toks) (fun _ _ q => Heap.get?_push_of_some _ q) (Nat.le_refl _) (nd_ext hg), rfl,
    h _ _ _ (I.hok.fresh (Nat.le_refl _)) rfl ⟨upd_same, beq_eq_false_iff_ne.mpr (Ne.symm (Nat.ne_of_lt I.big)), Nat.zero_le _, List.nodup_nil, #[], 0, [], ⟨rfl, rfl, rfl⟩, rfl, rfl, .nil⟩⟩⟩
def tNOne (P : Program) (w : World) (tk tv : TE) : TE := fun σ H Q => ∀ (p : Addr) (o : Obj), H p = none → tk σ (upd H p (.ext fun h => h.get? p = some o)) fun x H1 => tv σ H1 fun y H2 =>
  H2 p = some (.ext fun h => h.get? p = some o) ∧ ∃ k, IsSds H2 x k ∧ ∀ (o' : Obj) (H' : Hp), H' = upd H2 p (.ext fun h => h.get? p = some o') → ND P w H' p o' [(k, y)] → Q (.ref p) H'
end
/-- {k: v}, the key a row of standings -/
theorem pe_oneN {X : Cx} {pos : Pos} {k v : Expr} {tk tv : TE} (hu : X.A.units + 64 < cLine) (hk : PE X k tk) (hv : PE X v tv) : PE X (.Dict [some k] [v] pos) (tNOne X.prog X.w tk tv) := by
  refine ⟨fun pins s σ H Q I h => ?_⟩
  have hg : (s.heap.push { cls := .type "dict", data := .dict #[] }).get? s.heap.objs.size = some { cls := .type "dict", data := .dict #[] } := Heap.get?_push_size _ rfl
  have I1 := I.laid (a := s.heap.objs.size) (o := .ext fun h => h.get? s.heap.objs.size = some { cls := .type "dict", data := .dict #[] }) (t' := s.toks) (fun _ _ q => Heap.get?_push_of_some _ q) (Nat.le_refl _) (nd_ext hg)
  have hns : (s.heap.objs.size == sysModules) = false := beq_eq_false_iff_ne.mpr (Ne.symm (Nat.ne_of_lt I.big))
  have hshape : (evalEachOpt [some k] X.env).zip ((evalEach [v] X.env).map fun v => do let x ← v; standAt pos; pure x) = (pairTrees [some k] [v] X.env pos).map fun p => (some p.1, p.2) := by rfl
  rw [arm_eval_Dict, hshape, dictDisplay_pairs _ (by intro z; cases z) (by show 1 < 17; decide)]
  refine wpAny_bind (wpAny_standAt (wpAny_bind (wpAny_subDictH (knd := nestedKind X.prog X.w) (by show X.A.units + 8 < cLine; omega) (by show 1 ≤ 15; decide) ?_)))
  refine thn ((pps_cons hk hv pps_nil).run pins _ σ _ (fun ps H2 => match ps with
    | [(x, y)] => H2 s.heap.objs.size = some (.ext fun h => h.get? s.heap.objs.size = some { cls := .type "dict", data := .dict #[] }) ∧ ∃ kk, IsSds H2 x kk ∧
      ∀ (o' : Obj) (H' : Hp), H' = upd H2 s.heap.objs.size (.ext fun h => h.get? s.heap.objs.size = some o') → ND X.prog X.w H' s.heap.objs.size o' [(kk, y)] → Q (.ref s.heap.objs.size) H'
    | _ => False) I1 (h s.heap.objs.size _ (I.hok.fresh (Nat.le_refl _)))) fun ws s2 ⟨ps, H2, I2, rel, q2⟩ => ?_
  match ps, rel, q2 with
  | [], _, q2 => exact q2.elim
  | _ :: _ :: _, _, q2 => exact q2.elim
  | [(x, y)], rel, ⟨ha, kk, hkk, q2⟩ =>
    have hga : s2.heap.get? s.heap.objs.size = some { cls := .type "dict", data := .dict #[] } := (show ObjOk X.prog X.w H2 s2.heap _ (.ext fun h => h.get? s.heap.objs.size = some { cls := .type "dict", data := .dict #[] }) from I2.hok _ _ ha).1
    obtain ⟨a, vs, e, _, _⟩ := id hkk
    subst e
    cases rel with
    | @cons _ wv _ _ r rr =>
      cases rr
      obtain ⟨w1, w2⟩ := wv
      obtain ⟨r1, r2⟩ := r
      obtain rfl : w1 = Value.ref a := r1
      refine ⟨[(nkey kk, a, w2)], ⟨rfl, rfl, sds_is I2.hok hkk, True.intro⟩, ⟨_, #[], 0, hga, ⟨rfl, rfl, rfl⟩, rfl, rfl, (fun _ z => nomatch z), List.nodup_nil⟩, fun h' tk dd hs => wpAny_pure ?_⟩
      obtain ⟨o', es', ep', hq, h2, h3, h4, h5, h6⟩ := dd
      have I3 : Inv X pins σ (upd H2 s.heap.objs.size (.ext fun h => h.get? s.heap.objs.size = some o')) { s2 with heap := h', toks := tk } :=
        I2.write (x := s.heap.objs.size) (e := s.heap.objs.size) (by rw [ha]; exact True.intro) (.inl rfl) (fun b z hb e => (hs.2 b hb).trans e) ⟨o', hq⟩ (nd_ext hq)
      refine ⟨.ref s.heap.objs.size, _, I3, rfl, q2 o' _ rfl ⟨upd_same, hns, by show 1 ≤ sizeLine; decide, by simp, es', ep', _, h2, h3, h4, ?_⟩⟩
      refine .cons ⟨rfl, hkk.keep fun b xs eb => ?_, r2⟩ .nil
      rw [upd_ne (ne_of eb ha (fun z => nomatch z))]
      exact eb
end PB

/-! Own rules: enumerate(tuple), zip of lists and tuples in any mix. -/
namespace PB
open PySem PySem.Spec PyProof.Rows L2

/-! ### enumerate(t), t a tuple -/
set_option maxHeartbeats 4000000 in
theorem meets_enumT (t : Addr) (items : Array Value) :
    Meets (Builtin.«enumerate.__new__» ⟨[.type "enumerate", .ref t], []⟩) (fun _ R s => s.heap.IsTuple t items ∧
      R (.ok (.ret (.ref (s.heap.push { cls := .type "tuple_iterator", data := .fields #[.ref t, .int 0 0] }).objs.size)))
        { s with heap := (s.heap.push { cls := .type "tuple_iterator", data := .fields #[.ref t, .int 0 0] }).push { cls := .type "enumerate", data := .fields #[.none, .bool false, .ref s.heap.objs.size, rawInt 0, .none, .none] } }) :=
  .of_wp fun prog w A R s h => by
    obtain ⟨hp, g, d, tk, os⟩ := s
    obtain ⟨h1, h⟩ := h
    have hsub := sub_enumerate
    have q1 : ∀ {A' : Around} {E : Value → Shared → Prop} {Q : Value → Shared → Prop}, Q (.ref hp.objs.size) ⟨hp.push { cls := .type "tuple_iterator", data := .fields #[.ref t, .int 0 0] }, g, d, tk, os⟩ →
        wpAny (model prog w) A' (pyIter (.ref t)) Q E ⟨hp, g, d, tk, os⟩ := fun q => wpAny_pyIter_tuple (s := ⟨hp, g, d, tk, os⟩) h1 q
    wp_walk using q1
    refine wpAny_stack_any fun st => wpAny_pure ?_
    split
    · rename_i c _ _ _ _ _
      cases (c == Value.type "enumerate")
      all_goals (wp_walk using q1; exact ⟨_, rfl, h⟩)
    · wp_walk using q1
      exact ⟨_, rfl, h⟩
theorem call_enumT {prog : Program} {w : World} {A : Around} {E : Value → Shared → Prop} {s : Shared} {t : Addr} {items : Array Value} {Q : Value → Shared → Prop} (ht : s.heap.IsTuple t items)
    (h : ∀ h', IsEnum h' (s.heap.objs.size + 1) s.heap.objs.size 0 .none → h'.IsTupleIter s.heap.objs.size t 0 → (∀ b o, s.heap.get? b = some o → h'.get? b = some o) → Q (.ref (s.heap.objs.size + 1)) { s with heap := h' }) :
    wpAny (model prog w) A (call (.type "enumerate") [.ref t]) Q E s := by
  refine callType_new F.called_enumerate (by decide) (F.typeCall_enumerate_1 _) (F.newCall_enumerate_1 _) (fun obj => F.args_object_init_2 obj _) F.entry_enumerate_new (meets_enumT t items) ⟨ht, ?_⟩
  have hz : (s.heap.push { cls := .type "tuple_iterator", data := .fields #[.ref t, .int 0 0] }).objs.size = s.heap.objs.size + 1 := Heap.size_push ..
  have he := Heap.get?_push_size (s.heap.push { cls := .type "tuple_iterator", data := .fields #[.ref t, .int 0 0] }) (o := { cls := .type "enumerate", data := .fields #[.none, .bool false, .ref s.heap.objs.size, rawInt 0, .none, .none] }) rfl
  rw [hz] at he
  show _ ∧ _
  rw [hz]
  exact ⟨⟨_, he, rfl⟩, h _ he ⟨_, Heap.get?_push_of_some _ (Heap.get?_push_size _ rfl), rfl, rfl⟩ fun b o x => Heap.get?_push_of_some _ (Heap.get?_push_of_some _ x)⟩

def IteT (K : PySem.W.Frag) (a : Addr) : It :=
  ⟨fun i H => ∃ (xs : List V) (x : V), SqT K H a xs ∧ xs[i]? = some x,
   fun i H v H' => ∃ T x, v = .ref T ∧ H T = none ∧ H' = upd H T (.tup [.int (i : Nat), x]) ∧ ∀ xs, SqT K H a xs → xs[i]? = some x,
   fun i H => ∃ xs : List V, SqT K H a xs ∧ xs.length = i⟩
theorem turn_enumT {P : Program} {w : World} {K : PySem.W.Frag} {elts : List Expr} {kk : Nat} {tpos : Pos} (a e it : Addr) :
    Turn P w K (.Tuple elts kk tpos) (IteT K a) [e, it] e (fun i h => (∃ old, IsEnum h e it ((i : Nat) : Int) old) ∧ h.IsTupleIter it a i ∧ e ≠ it) where
  mem := by simp
  obj := fun i h st b hb => by
    obtain ⟨⟨old, he⟩, ⟨o, ho, hc, hd⟩, _⟩ := st
    have e' : b = e ∨ b = it := by simpa using hb
    rcases e' with z | z
    · rw [z]; exact ⟨_, he, fun v q => nomatch q⟩
    · rw [z]; exact ⟨o, ho, fun v q => by rw [hd] at q; cases q⟩
  keep := fun i h h' st k => let ⟨⟨old, he⟩, hi, hne⟩ := st; ⟨⟨old, k e (by simp) _ he⟩, hi.at fun o q => k it (by simp) o q, hne⟩
  item := by
    intro X hP hw hK hc i pins s σ H E I hf st hg
    subst hP hw hK
    obtain ⟨⟨old, he⟩, hit, hne⟩ := st
    obtain ⟨xs, x, hq, hx⟩ := hg
    obtain ⟨its, rv, p, hz⟩ := I.tuple hq
    obtain ⟨u, hu, ru⟩ := rv.get hx
    have hel : e < s.heap.objs.size := Heap.lt_size he
    have hil : it < s.heap.objs.size := by obtain ⟨_, q, _⟩ := hit; exact Heap.lt_size q
    have hea : e ≠ a := fun z => by
      obtain ⟨o, h1, h2, _⟩ := id p
      rw [← z, he] at h1
      cases h1
      simp at h2
    have hia : a ≠ it := fun z => by
      obtain ⟨o, h1, h2, n, h3⟩ := id p
      obtain ⟨o', h1', h2', h3'⟩ := id hit
      rw [z, h1'] at h1
      cases h1
      rw [h3'] at h3
      cases h3
    have hlt : i < its.toArray.size := by rw [List.size_toArray]; exact (List.getElem?_eq_some_iff.mp hu).1
    refine wpAny_pyNext_enum_itemC (Draws.tuple (A := X.A.in1) (I.ok.hd hc) it a hia its.toArray) he ⟨hit, p⟩ hlt hne (by simp [hne, hea]) fun v h' tk hv ho st' hT hsz hk => ?_
    have ev : v = u := by
      have hv' : its[i]? = some v := by simpa using hv
      rw [hu] at hv'
      exact (Option.some.inj hv').symm
    subst ev
    refine ⟨_, rfl, wpAny_letOwnedTupleGo_enum (s := { s with heap := h', toks := tk + 1 }) ho fun h'' he' sb => ?_⟩
    have hT2 : h''.get? s.heap.objs.size = some { cls := .type "tuple", data := .seq #[.int i tk, v] } := (sb.2 _ (Nat.ne_of_gt hel)).trans hT
    have new : ObjOk X.prog X.w (upd H s.heap.objs.size (.tup [.int (i : Nat), x])) h'' s.heap.objs.size (.tup [.int (i : Nat), x]) :=
      ⟨by show 2 ≤ sizeLine; decide, [.int i tk, v], .cons ⟨_, rfl⟩ (.cons ru .nil), ⟨_, hT2, rfl, _, rfl⟩⟩
    have I1 : Inv X pins σ (upd H s.heap.objs.size (.tup [.int (i : Nat), x])) { s with heap := h'', toks := tk + 1 } :=
      I.turnedNew (ch := [e, it]) (fun b ob hb q => (sb.2 b (fun z => hb (by simp [z]))).trans (hk b ob (fun z => hb (by simp [z])) (fun z => hb (by simp [z])) q)) hf (Nat.le_refl _) new
    refine ⟨.ref s.heap.objs.size, _, I1, rfl, ⟨_, x, rfl, I.hok.fresh (Nat.le_refl _), rfl, fun ys hy => by rw [I.tuple_inj hy hq]; exact hx⟩, ⟨⟨v, ?_⟩, st'.1.at fun o q => (sb.2 it (Ne.symm hne)).trans q, hne⟩, fun b hb => ?_⟩
    · have e1 : ((i + 1 : Nat) : Int) = (i : Int) + 1 := by omega
      rw [e1]
      exact he'
    · have hb' : b < s.heap.objs.size := by
        have e' : b = e ∨ b = it := by simpa using hb
        rcases e' with z | z
        · rw [z]; exact hel
        · rw [z]; exact hil
      rw [upd_ne (Nat.ne_of_lt hb')]
      exact (hf b hb).1
  done := by
    intro X hP hw hK hc i pins s σ H E I hf st hg
    subst hP hw hK
    obtain ⟨⟨old, he⟩, hit, hne⟩ := st
    obtain ⟨xs, hq, hx⟩ := hg
    obtain ⟨its, rv, p, hz⟩ := I.tuple hq
    obtain ⟨f0, f1, f2, f3, f4, f5⟩ := hf it (by simp)
    have hl := rv.length
    have hia : a ≠ it := fun z => by
      obtain ⟨o, h1, h2, n, h3⟩ := id p
      obtain ⟨o', h1', h2', h3'⟩ := id hit
      rw [z, h1'] at h1
      cases h1
      rw [h3'] at h3
      cases h3
    have hn : i = its.toArray.size := by rw [List.size_toArray]; omega
    subst hn
    exact wpAny_pyNext_enum_endD (Draws.tuple (A := X.A.in1) (I.ok.hd hc) it a hia its.toArray) he ⟨hit, p⟩ fun h' eb => ⟨rfl, I.turned (t' := s.toks) (fun b o hb q => eb b o hb q) f0 f1 f3 f4 f5⟩
  self := fun A i s Q E st h => let ⟨⟨_, he⟩, _⟩ := st; wpAny_pyIter_enum he h
def iEnumT (K : PySem.W.Frag) (ta : TA) : TI := fun σ H R => ta σ H fun vs H1 => ∃ a xs, vs = [.ref a] ∧ SqT K H1 a xs ∧ R (IteT K a) H1
theorem pi_enumT {X : Cx} {e : Expr} {ta : TA} {p pos tpos : Pos} {elts : List Expr} {kk : Nat} (hg : Gl X "enumerate") (hm : X.mg "enumerate" = none) (ha : PA X [e] ta) (hs : starEach [e] X.env = [(false, eval e X.env)] := by rfl) :
    PI X (.Tuple elts kk tpos) (.Call (.Name "enumerate" p) [e] [] pos) (iEnumT X.K ta) := by
  refine ⟨fun pins s σ H R I h => ?_⟩
  refine Call_ (ld_blt I hg hm boot_enumerate (PyProof.Rows.callWith_type1 (thn (ha.run pos pins s σ H _ I h) fun us s1 ⟨vs, H1, I1, r1, q1⟩ => ?_) hs rfl))
  obtain ⟨a, xs, ex, hq, q⟩ := q1
  subst ex
  cases r1 with
  | cons r rr =>
    cases rr
    cases r
    obtain ⟨its, rv, p', hz⟩ := I1.tuple hq
    refine call_enumT p' fun h' he hit hk => wpAny_pyIter_enum he ?_
    have I2 : Inv X pins σ H1 { s1 with heap := h' } := I1.kept (t' := s1.toks) hk
    refine ⟨s1.heap.objs.size + 1, [s1.heap.objs.size + 1, s1.heap.objs.size], _, _, H1, rfl, I2, turn_enumT a (s1.heap.objs.size + 1) s1.heap.objs.size, ⟨⟨.none, he⟩, hit, Nat.succ_ne_self _⟩, fun b hb => ?_, q⟩
    have hle : s1.heap.objs.size ≤ b := by
      have e' : b = s1.heap.objs.size + 1 ∨ b = s1.heap.objs.size := by simpa using hb
      rcases e' with z | z
      · rw [z]; exact Nat.le_add_right _ _
      · rw [z]; exact Nat.le_refl _
    exact I1.fpOk hle (I1.hok.fresh hle)
theorem walk_enumT {K : PySem.W.Frag} {a : Addr} {xs : List V} : Walk (IteT K a) xs.length (fun H => SqT K H a xs) (YPair (fun i => some (.int (i : Nat))) (fun i => xs[i]?)) := by
  refine ⟨fun i _ hi q => ⟨xs, xs[i], q, by simp [hi]⟩, fun _ q => ⟨xs, q, rfl⟩, fun i H v H' _ q y => ?_⟩
  obtain ⟨T, x, h1, h2, h3, h4⟩ := y
  exact ⟨T, .int (i : Nat), x, h1, h2, h3, rfl, h4 xs q⟩

/-! ### zip(x, y), each a list (true) or a tuple (false) -/
def SqK (K : PySem.W.Frag) (k : Bool) (H : Hp) (a : Addr) (xs : List V) : Prop := match k with
  | true => SqL K H a xs
  | false => SqT K H a xs
def isSq (k : Bool) (h : Heap) (a : Addr) (its : Array Value) : Prop := match k with
  | true => h.IsList a its
  | false => h.IsTuple a its
def isIt (k : Bool) (h : Heap) (it a : Addr) (i : Nat) : Prop := match k with
  | true => h.IsListIter it a i
  | false => h.IsTupleIter it a i
def itO (k : Bool) (a : Addr) : Obj := match k with
  | true => { cls := .type "list_iterator", data := .fields #[.ref a, .int 0 0] }
  | false => { cls := .type "tuple_iterator", data := .fields #[.ref a, .int 0 0] }
theorem isSq.seq {k : Bool} {h : Heap} {a : Addr} {its : Array Value} (x : isSq k h a its) : ∃ o n, h.get? a = some o ∧ o.data = .seq its n := by
  cases k with
  | true => obtain ⟨o, h1, _, n, h2⟩ := x; exact ⟨o, n, h1, h2⟩
  | false => obtain ⟨o, h1, _, n, h2⟩ := x; exact ⟨o, n, h1, h2⟩
theorem isIt.fld {k : Bool} {h : Heap} {it a : Addr} {i : Nat} (x : isIt k h it a i) : ∃ o vs, h.get? it = some o ∧ o.data = .fields vs := by
  cases k with
  | true => obtain ⟨o, h1, _, h2⟩ := x; exact ⟨o, _, h1, h2⟩
  | false => obtain ⟨o, h1, _, h2⟩ := x; exact ⟨o, _, h1, h2⟩
theorem isIt.at {k : Bool} {h h' : Heap} {it a : Addr} {i : Nat} (x : isIt k h it a i) (q : ∀ o, h.get? it = some o → h'.get? it = some o) : isIt k h' it a i := by
  cases k with
  | true => exact Heap.IsListIter.at x q
  | false => exact Heap.IsTupleIter.at x q
theorem isIt.new {k : Bool} {h : Heap} {it a : Addr} (x : h.get? it = some (itO k a)) : isIt k h it a 0 := by
  cases k with
  | true => exact ⟨_, x, rfl, rfl⟩
  | false => exact ⟨_, x, rfl, rfl⟩
theorem begins_k (k : Bool) (a : Addr) (its : Array Value) : Begins (.ref a) (itO k a) fun h => isSq k h a its := by
  cases k with
  | true => exact begins_list a its
  | false => exact begins_tuple a its
theorem draws_k {prog : Program} {w : World} {A : Around} (hh : A.handled = none) (k : Bool) (it a : Addr) (hne : a ≠ it) (its : Array Value) :
    Draws prog w A it [it, a] its.size (fun i v => its[i]? = some v) (fun i h => isIt k h it a i ∧ isSq k h a its) := by
  cases k with
  | true => exact Draws.list hh it a hne its
  | false => exact Draws.tuple hh it a hne its
section
variable {X : Cx} {pins : List (Addr × Obj)} {σ : L2.St} {H : Hp} {s : Shared} {k : Bool} {a : Addr} {xs ys : List V}
theorem sqk_of (I : Inv X pins σ H s) (h : SqK X.K k H a xs) : ∃ its : List Value, Vals xs its ∧ isSq k s.heap a its.toArray := by
  cases k with
  | true => obtain ⟨its, r, p, _⟩ := I.list h; exact ⟨its, r, p.isList⟩
  | false => obtain ⟨its, r, p, _⟩ := I.tuple h; exact ⟨its, r, p⟩
theorem sqk_inj (I : Inv X pins σ H s) (h : SqK X.K k H a xs) (h' : SqK X.K k H a ys) : xs = ys := by
  cases k with
  | true => exact I.list_inj h h'
  | false => exact I.tuple_inj h h'
end
theorem SqK.same {K : PySem.W.Frag} {k : Bool} {H H' : Hp} {a : Addr} {xs : List V} (e : Same H H') (h : SqK K k H a xs) : SqK K k H' a xs := by
  cases k with
  | true => exact e.seq h
  | false =>
    rcases h with (h | ⟨o, h⟩) | h
    · exact .inl (.inl (e _ _ h))
    · exact .inl (.inr ⟨o, e _ _ h⟩)
    · exact .inr h
theorem SqK.l {K : PySem.W.Frag} {H : Hp} {a : Addr} {xs : List V} (h : H a = some (.lst xs)) : SqK K true H a xs := SqL.of h
theorem SqK.t {K : PySem.W.Frag} {H : Hp} {a : Addr} {xs : List V} (h : H a = some (.tup xs)) : SqK K false H a xs := SqT.of h
def ItZ (K : PySem.W.Frag) (k1 k2 : Bool) (a b : Addr) : It :=
  ⟨fun i H => ∃ (xs ys : List V) (x y : V), SqK K k1 H a xs ∧ SqK K k2 H b ys ∧ xs[i]? = some x ∧ ys[i]? = some y,
   fun i H v H' => ∃ T x y, v = .ref T ∧ H T = none ∧ H' = upd H T (.tup [x, y]) ∧ (∀ xs, SqK K k1 H a xs → xs[i]? = some x) ∧ ∀ ys, SqK K k2 H b ys → ys[i]? = some y,
   fun i H => ∃ xs ys : List V, SqK K k1 H a xs ∧ SqK K k2 H b ys ∧ i ≤ xs.length ∧ i ≤ ys.length ∧ (i = xs.length ∨ i = ys.length)⟩
theorem turn_zipK {P : Program} {w : World} {K : PySem.W.Frag} {elts : List Expr} {kk : Nat} {tpos : Pos} {k1 k2 : Bool} {a b z TI TO i1 i2 : Addr} (D : ZipSep2 z TI TO i1 i2 [i1, a] [i2, b]) :
    Turn P w K (.Tuple elts kk tpos) (ItZ K k1 k2 a b) [z, TI, TO, i1, i2] z
      (fun i h => IsZip h z TI TO .none ∧ IsTupOf2 h TI (.ref i1) (.ref i2) ∧ (∃ x y, IsTupOf2 h TO x y) ∧ isIt k1 h i1 a i ∧ isIt k2 h i2 b i) where
  mem := by simp
  obj := fun i h st c hc => by
    obtain ⟨hz, hTI, ⟨x, y, hTO⟩, h1, h2⟩ := st
    obtain ⟨o1, v1, e1, d1⟩ := h1.fld
    obtain ⟨o2, v2, e2, d2⟩ := h2.fld
    have e' : c = z ∨ c = TI ∨ c = TO ∨ c = i1 ∨ c = i2 := by simpa using hc
    rcases e' with q | q | q | q | q
    · rw [q]; exact ⟨_, hz, fun v q => nomatch q⟩
    · rw [q]; exact ⟨_, hTI, fun v q => nomatch q⟩
    · rw [q]; exact ⟨_, hTO, fun v q => nomatch q⟩
    · rw [q]; exact ⟨o1, e1, fun v q => by rw [d1] at q; cases q⟩
    · rw [q]; exact ⟨o2, e2, fun v q => by rw [d2] at q; cases q⟩
  keep := fun i h h' st k => by
    obtain ⟨hz, hTI, ⟨x, y, hTO⟩, h1, h2⟩ := st
    exact ⟨k z (by simp) _ hz, k TI (by simp) _ hTI, ⟨x, y, k TO (by simp) _ hTO⟩, h1.at fun o q => k i1 (by simp) o q, h2.at fun o q => k i2 (by simp) o q⟩
  item := by
    intro X hP hw hK hc i pins s σ H E I hf st hg
    subst hP hw hK
    obtain ⟨hz, hTI, ⟨x0, y0, hTO⟩, h1, h2⟩ := st
    obtain ⟨xs, ys, x, y, hqx, hqy, hx, hy⟩ := hg
    obtain ⟨its, rv, p⟩ := sqk_of I hqx
    obtain ⟨its2, rv2, p2⟩ := sqk_of I hqy
    obtain ⟨u, hu, ru⟩ := rv.get hx
    obtain ⟨u2, hu2, ru2⟩ := rv2.get hy
    have hzl : z < s.heap.objs.size := Heap.lt_size hz
    have n1 : a ≠ i1 := fun e => by
      obtain ⟨o, n, g1, g2⟩ := p.seq
      obtain ⟨o', v', g3, g4⟩ := h1.fld
      rw [e, g3] at g1
      cases g1
      rw [g4] at g2
      cases g2
    have n2 : b ≠ i2 := fun e => by
      obtain ⟨o, n, g1, g2⟩ := p2.seq
      obtain ⟨o', v', g3, g4⟩ := h2.fld
      rw [e, g3] at g1
      cases g1
      rw [g4] at g2
      cases g2
    have l1 : i < its.toArray.size := by rw [List.size_toArray]; exact (List.getElem?_eq_some_iff.mp hu).1
    have l2 : i < its2.toArray.size := by rw [List.size_toArray]; exact (List.getElem?_eq_some_iff.mp hu2).1
    refine wpAny_pyNext_zipD2_item D (draws_k (A := X.A.in1) (I.ok.hd hc) k1 i1 a n1 its.toArray) (draws_k (A := X.A.in1) (I.ok.hd hc) k2 i2 b n2 its2.toArray) hz hTI hTO ⟨h1, p⟩ ⟨h2, p2⟩ l1 l2
      fun x1 x2 h' tk hx1 hx2 z' TO' h1' h2' hT hsz hk => ?_
    have ev1 : x1 = u := by
      have q : its[i]? = some x1 := by simpa using hx1
      rw [hu] at q
      exact (Option.some.inj q).symm
    have ev2 : x2 = u2 := by
      have q : its2[i]? = some x2 := by simpa using hx2
      rw [hu2] at q
      exact (Option.some.inj q).symm
    subst ev1 ev2
    refine ⟨_, rfl, wpAny_letOwnedTupleGo_zip (s := { s with heap := h', toks := tk }) z' fun h'' z'' sb => ?_⟩
    have hT2 : h''.get? s.heap.objs.size = some { cls := .type "tuple", data := .seq #[x1, x2] } := (sb.2 _ (Nat.ne_of_gt hzl)).trans hT
    have new : ObjOk X.prog X.w (upd H s.heap.objs.size (.tup [x, y])) h'' s.heap.objs.size (.tup [x, y]) :=
      ⟨by show 2 ≤ sizeLine; decide, [x1, x2], .cons ru (.cons ru2 .nil), ⟨_, hT2, rfl, _, rfl⟩⟩
    have I1 : Inv X pins σ (upd H s.heap.objs.size (.tup [x, y])) { s with heap := h'', toks := tk } :=
      I.turnedNew (ch := [z, TI, TO, i1, i2]) (fun c o hb q => (sb.2 c (fun q' => hb (by simp [q']))).trans (hk c o (fun q' => hb (by simp [q'])) (fun q' => hb (by simp [q'])) (fun q' => hb (by simp [q'])) (fun q' => hb (by simp [q'])) q)) hf (Nat.le_refl _) new
    have hi1z : i1 ≠ z := fun e => D.zf1 (by rw [← e]; exact D.mem1)
    have hi2z : i2 ≠ z := fun e => D.zf2 (by rw [← e]; exact D.mem2)
    refine ⟨.ref s.heap.objs.size, _, I1, rfl, ⟨_, x, y, rfl, I.hok.fresh (Nat.le_refl _), rfl, fun l hl => by rw [sqk_inj I hl hqx]; exact hx, fun l hl => by rw [sqk_inj I hl hqy]; exact hy⟩, ⟨z'', ?_, ⟨x1, x2, ?_⟩, ?_, ?_⟩, fun c hcm => ?_⟩
    · exact (sb.2 _ D.TIz).trans (hk _ _ D.TIz D.TITO D.TIi1 D.TIi2 hTI)
    · exact (sb.2 _ D.TOz).trans TO'
    · exact h1'.1.at fun o q => (sb.2 _ hi1z).trans q
    · exact h2'.1.at fun o q => (sb.2 _ hi2z).trans q
    · have hlt : c < s.heap.objs.size := by
        have e' : c = z ∨ c = TI ∨ c = TO ∨ c = i1 ∨ c = i2 := by simpa using hcm
        rcases e' with q | q | q | q | q
        · rw [q]; exact hzl
        · rw [q]; exact Heap.lt_size hTI
        · rw [q]; exact Heap.lt_size hTO
        · rw [q]; obtain ⟨_, _, e1, _⟩ := h1.fld; exact Heap.lt_size e1
        · rw [q]; obtain ⟨_, _, e2, _⟩ := h2.fld; exact Heap.lt_size e2
      rw [upd_ne (Nat.ne_of_lt hlt)]
      exact (hf c hcm).1
  done := by
    intro X hP hw hK hc i pins s σ H E I hf st hg
    subst hP hw hK
    obtain ⟨hz, hTI, ⟨x0, y0, hTO⟩, h1, h2⟩ := st
    obtain ⟨xs, ys, hqx, hqy, le1, le2, hend⟩ := hg
    obtain ⟨its, rv, p⟩ := sqk_of I hqx
    obtain ⟨its2, rv2, p2⟩ := sqk_of I hqy
    have l1 := rv.length
    have l2 := rv2.length
    have n1 : a ≠ i1 := fun e => by
      obtain ⟨o, n, g1, g2⟩ := p.seq
      obtain ⟨o', v', g3, g4⟩ := h1.fld
      rw [e, g3] at g1
      cases g1
      rw [g4] at g2
      cases g2
    have n2 : b ≠ i2 := fun e => by
      obtain ⟨o, n, g1, g2⟩ := p2.seq
      obtain ⟨o', v', g3, g4⟩ := h2.fld
      rw [e, g3] at g1
      cases g1
      rw [g4] at g2
      cases g2
    exact wpAny_pyNext_zipD2_end D (draws_k (A := X.A.in1) (I.ok.hd hc) k1 i1 a n1 its.toArray) (draws_k (A := X.A.in1) (I.ok.hd hc) k2 i2 b n2 its2.toArray) hz hTI hTO ⟨h1, p⟩ ⟨h2, p2⟩
      (by rw [List.size_toArray]; omega) (by rw [List.size_toArray]; omega) (by rw [List.size_toArray, List.size_toArray]; omega) fun h' tk hk => ⟨rfl, I.turnedL (t' := tk) (ch := [z, TI, TO, i1, i2]) (fun c o hb q =>
      hk c o (fun q' => hb (by simp [q'])) (fun q' => hb (by simp [q'])) (fun q' => hb (by simp [q'])) (fun q' => hb (by simp [q'])) q) hf⟩
  self := fun A i s Q E st h => wpAny_pyIter_zip st.1 h
def iZipK (K : PySem.W.Frag) (k1 k2 : Bool) (ta : TA) : TI := fun σ H R => ta σ H fun vs H1 => ∃ a b xs ys, vs = [.ref a, .ref b] ∧ SqK K k1 H1 a xs ∧ SqK K k2 H1 b ys ∧ R (ItZ K k1 k2 a b) H1
theorem pi_zipK {X : Cx} (k1 k2 : Bool) {e e2 : Expr} {ta : TA} {p pos tpos : Pos} {elts : List Expr} {kk : Nat} (hg : Gl X "zip") (hm : X.mg "zip" = none) (ha : PA X [e, e2] ta)
    (hs : starEach [e, e2] X.env = (false, eval e X.env) :: starEach [e2] X.env := by rfl) (hpl : (backTo pos (starEach [e2] X.env)).any (·.1) = false := by rfl) :
    PI X (.Tuple elts kk tpos) (.Call (.Name "zip" p) [e, e2] [] pos) (iZipK X.K k1 k2 ta) := by
  refine ⟨fun pins s σ H R I h => ?_⟩
  refine Call_ (ld_blt I hg hm PyProof.Rows.boot_zip (PyProof.Rows.callWith_type1 (thn (ha.run pos pins s σ H _ I h) fun us s1 ⟨vs, H1, I1, r1, q1⟩ => ?_) hs hpl))
  obtain ⟨a, b, xs, ys, ex, hqx, hqy, q⟩ := q1
  subst ex
  cases r1 with
  | cons r rr =>
    cases rr with
    | cons r' rr =>
      cases rr
      cases r
      cases r'
      obtain ⟨its, rv, p1⟩ := sqk_of I1 hqx
      obtain ⟨its2, rv2, p2⟩ := sqk_of I1 hqy
      have la : a < s1.heap.objs.size := by obtain ⟨_, _, g, _⟩ := p1.seq; exact Heap.lt_size g
      have lb : b < s1.heap.objs.size := by obtain ⟨_, _, g, _⟩ := p2.seq; exact Heap.lt_size g
      refine zip_begins2 (begins_k k1 a its.toArray) (begins_k k2 b its2.toArray) p1 p2 fun h' hz hTI hTO h1 h2 hsz hk => wpAny_pyIter_zip hz ?_
      have I2 : Inv X pins σ H1 { s1 with heap := h' } := I1.kept (t' := s1.toks) hk
      refine ⟨s1.heap.objs.size + 4, [s1.heap.objs.size + 4, s1.heap.objs.size + 2, s1.heap.objs.size + 3, s1.heap.objs.size, s1.heap.objs.size + 1], _, _, H1, rfl, I2,
        turn_zipK (zip_sep2 (fp1 := [a]) (fp2 := [b]) (by intro c hc; rw [List.mem_singleton.mp hc]; exact la) (by intro c hc; rw [List.mem_singleton.mp hc]; exact lb)), ⟨hz, hTI, ⟨_, _, hTO⟩, isIt.new h1, isIt.new h2⟩, fun c hcm => ?_, q⟩
      have hle : s1.heap.objs.size ≤ c := by
        have e' : c = s1.heap.objs.size + 4 ∨ c = s1.heap.objs.size + 2 ∨ c = s1.heap.objs.size + 3 ∨ c = s1.heap.objs.size ∨ c = s1.heap.objs.size + 1 := by simpa using hcm
        rcases e' with z | z | z | z | z
        · rw [z]; exact Nat.le_add_right _ _
        · rw [z]; exact Nat.le_add_right _ _
        · rw [z]; exact Nat.le_add_right _ _
        · rw [z]; exact Nat.le_refl _
        · rw [z]; exact Nat.le_add_right _ _
      exact I1.fpOk hle (I1.hok.fresh hle)
theorem walk_zipK {K : PySem.W.Frag} {k1 k2 : Bool} {a b : Addr} {xs ys : List V} {n : Nat} (hx : n = xs.length) (hy : n = ys.length) :
    Walk (ItZ K k1 k2 a b) n (fun H => SqK K k1 H a xs ∧ SqK K k2 H b ys) (YPair (fun i => xs[i]?) (fun i => ys[i]?)) := by
  refine ⟨fun i _ hi q => ?_, fun _ q => ⟨xs, ys, q.1, q.2, by omega, by omega, .inl hx⟩, fun i H v H' _ q y => ?_⟩
  · have h1 : i < xs.length := by omega
    have h2 : i < ys.length := by omega
    exact ⟨xs, ys, xs[i], ys[i], q.1, q.2, by simp [h1], by simp [h2]⟩
  · obtain ⟨T, x, z, h1, h2, h3, h4, h5⟩ := y
    exact ⟨T, x, z, h1, h2, h3, h4 xs q.1, h5 ys q.2⟩
end PB

/-! Own rules: promises that hold where no repr is under way (FnG), calls by keywords alone, repr of None and of tuples of ints. -/
namespace PB
open PySem PySem.Spec PyProof.Rows L2

/-! ### a promise that may use that no repr is under way -/
structure FnG (P : Program) (w : World) (K : PySem.W.Frag) (mg : PySem.Str → Option Value) (base : Heap) (k : Nat) (f : Addr) (fd : FuncData) (ps : List PySem.Str) (sp : Sp) : Prop where
  len : ∀ vs H Q E, sp vs H Q E → vs.length = ps.length
  run : ∀ (A : Around) (outer : List Env) (s : Shared) (H : Hp) (args : Args) (us : List Value) (vs : List V) (Q : VK) (E : XK), A.guards = some [] → Room k A → Env0 P w K mg base A outer s H →
    BindsTo s fd args (ps.zip us) → Vals vs us → sp vs H Q E → codeAny (model P w) A (.call (.ref f) args) (CR CX0 outer P w H s Q E) s
section
variable {P : Program} {w : World} {K : PySem.W.Frag} {mg : PySem.Str → Option Value} {base : Heap} {x qual : PySem.Str} {params : Arguments} {body : List Stmt} {scope : Scope} {dvs : List V} {kws : List (PySem.Str × V)} {f : Addr} {fd : FuncData}
theorem fnG_of {N ps : List PySem.Str} {k : Nat} {sp : Sp} (F : FunD K x qual params body scope dvs kws f fd) (S : FnScope N ps scope) (len : ∀ vs H Q E, sp vs H Q E → vs.length = ps.length)
    (hbody : ∀ (cdv : Value) (A : Around) (outer : List Env) (s : Shared) (H : Hp) (vs : List V) (Q : VK) (E : XK), (A.deeper (envOfC qual scope s.heap.objs.size f cdv)).guards = some [] → Room k (A.deeper (envOfC qual scope s.heap.objs.size f cdv)) → sp vs H Q E →
      ∃ t, PSs (cxOf CX0 P w K mg base N qual scope f cdv A outer s H E).nox body t ∧ t { nx := fun _ H' => Q .non H', rt := Q } (start N vs) H) : FnG P w K mg base (k + 1) f fd ps sp := by
  obtain ⟨oc, od, dV, kV, doc, pm, an, cdv, ct, osl, rfl, lk, hcd, _, _⟩ := F.ex
  refine ⟨len, fun A outer s H args us vs Q E hg hr e0 hb r hsp => ?_⟩
  have hl := len _ _ _ _ hsp
  have kept : ∀ b o, base.get? b = some o → s.heap.get? b = some o := fun b o e => (e0.bs b o e).1
  have KX : K.In s.heap := e0.mod.kin.keeps kept
  have names : ∀ y ∈ ps.zip us, scope.names.lookup y.1 = some .local ∨ (scope.names.lookup y.1 = some .cell ∧ ((cellsFrom (s.heap.objs.size + 1) scope.names []).lookup y.1).isSome = true) := by
    rintro ⟨n, v⟩ hy
    rcases S.par n (List.of_mem_zip hy).1 with q | q
    · exact .inl q
    · exact .inr ⟨q, PySem.W.cellsFrom_some _ _ _ (.inl q)⟩
  refine codeAny_call_function hr.depth (KX _ _ lk) rfl S.co S.gen rfl (PySem.W.codeRec_of KX hcd) (hb _ _ _ _ ?_)
  refine wpAny_newFunctionEnv_cells S.kind names fun env he s1 y => ?_
  subst he
  refine ⟨(e0.mod.nolimit.keeps kept).keeps y.toInCall.keep, codeAny_func ?_⟩
  obtain ⟨t, ht, hq⟩ := hbody cdv A outer s H vs Q E hg (hr.deeper _) hsp
  have I := inv_start (CX := CX0) (E := E) S hr.hd e0 hl r y
  refine wpAny_mono (ht.nox.run [] s1 (start N vs) H _ I hq) (fun fl s' hs => ?_) fun e s' hs => hs
  have fin : ∀ {σ' : L2.St} {H' : Hp} {v : V} {u : Value}, Inv (cxOf CX0 P w K mg base N qual scope f cdv A outer s H E) [] σ' H' s' → RelV v u → Q v H' → CE outer P w H s Q u s' :=
    fun {σ' H' v u} J rv q => ⟨v, H', J.os, J.bare, J.base, J.hok, rv, q⟩
  cases fl with
  | ret u =>
    obtain ⟨v, σ', H', J, rv, q⟩ := hs
    exact fin J rv q
  | next =>
    obtain ⟨σ', H', J, q⟩ := hs
    exact fin (v := V.non) (u := Value.none) J rfl q
  | brk => exact hs.elim fun _ h => h.elim fun _ h => h.2.elim
  | cont => exact hs.elim fun _ h => h.elim fun _ h => h.2.elim
end
section
variable {X : Cx} {k : Nat} {f : Addr} {fd : FuncData} {ps : List PySem.Str} {sp : Sp} {x : PySem.Str} {p pos : Pos} {e : Expr} {es : List Expr} {t : TA}
theorem pe_callG (hgd : X.A.guards = some []) (F : FnG X.prog X.w X.K X.mg X.base k f fd ps sp) (hr : Room k X.A) (hg : Gl X x) (hm : X.mg x = some (.ref f)) (hk : PySem.W.keepIn X.K (.ref f) = true) (hb : Binds X.K fd ps [])
    (ha : PA X (e :: es) t) (hdb : (x == ("__debug__" : PySem.Str)) = false := by decide) (he : starEach (e :: es) X.env = (false, eval e X.env) :: starEach es X.env := by rfl) (hpl : (backTo pos (starEach es X.env)).any (·.1) = false := by rfl) :
    PE X (.Call (.Name x p) (e :: es) [] pos) (tCall sp [] E0 t) := by
  refine ⟨fun pins s σ H Q I h => ?_⟩
  refine wpAny_Call_Name_kw (ld_glob I hg hm ?_ hdb)
  refine PySem.W.callWith_K (h₀ := X.base) I.ok.mod.kin hk (thn (ha.run pos pins s σ H _ I h) fun us s1 ⟨vs, H1, I1, r, q⟩ => ⟨I1.kIn, ?_⟩) he hpl
  have q' : sp (vs ++ []) H1 Q E0 := q
  rw [List.append_nil] at q'
  have hl : us.length = ps.length := by rw [← r.length]; exact F.len _ _ _ _ q'
  refine wpAny_call (codeAny_mono (F.run X.A X.stack s1 H1 ⟨us, []⟩ us vs Q E0 hgd hr I1.env0 (by have := hb s1 us I1.kIn (by simpa using hl); simpa using this) r q') fun r' s' hq => ?_)
  cases r' with
  | error e => exact hq.elim
  | ok fl =>
    cases fl with
    | ret u => exact I1.after hq
    | next => exact False.elim hq
    | brk => exact False.elim hq
    | cont => exact False.elim hq
end

/-! ### the law's end over such a promise -/
theorem lawG {P : Program} {w : World} {K : PySem.W.Frag} {mg mb : PySem.Str → Option Value} {k : Nat} {fa a : Addr} {fd : FuncData} {x : PySem.Str} {sp : Sp} {s₁ : Shared} {vs : List Value} {ns : List Int}
    (KX : K.In s₁.heap) (hns : s₁.heap.Ns mainGlobals mg) (hb : s₁.heap.Ns builtinsNs mb) (hbb : ∀ x : PySem.Str, x ≠ "__name__" → mb x = bootBuiltins x) (hlim : s₁.heap.NoLimit) (hg : s₁.gens = #[])
    (ha : s₁.heap.get? a = some { cls := .type "list", data := .seq vs.toArray }) (hi : IntsAre vs ns) (hl : ns.length ≤ sizeLine) (hr : Room k callerA)
    (F : ∀ base : Heap, K.In base → base.Ns mainGlobals mg → FnG P w K mg base k fa fd [x] sp) (hbind : ∀ (s : Shared) (u : Value), BindsTo s fd ⟨[u], []⟩ [(x, u)])
    (hsp : ∀ H : Hp, Only H → SqL K H a (ns.map V.int) → sp [.ref a] H (fun v _ => v = .bl true) fun _ _ _ => False) :
    codeAny (model P w) callerA (.call (.ref fa) ⟨[.ref a], []⟩) (fun r s' => r = .ok (.ret (.bool true)) ∧ OldK s₁.heap s'.heap ∧ s'.os = s₁.os ∧ AllBare s'.gens) s₁ := by
  have rv := L2.vals_ints hi
  have core : ∀ H : Hp, Only H → SqL K H a (ns.map V.int) → HOk P w H s₁.heap → (∀ b, H b ≠ none → b = a) → (H a ≠ none → K.lookup a = none) →
      codeAny (model P w) callerA (.call (.ref fa) ⟨[.ref a], []⟩) (fun r s' => r = .ok (.ret (.bool true)) ∧ OldK s₁.heap s'.heap ∧ s'.os = s₁.os ∧ AllBare s'.gens) s₁ := by
    intro H hO hS hok hA hK
    have noD : ∀ {b : Addr} {o : Obj} {es : Array DictEntry} {ep : Nat}, s₁.heap.get? b = some o → o.data = .dict es ep → H b = none := by
      intro b o es ep e d
      cases q : H b with
      | none => rfl
      | some u =>
        have e' : b = a := hA b (by rw [q]; simp)
        rw [e', ha] at e
        cases e
        cases (show Data.seq vs.toArray _ = Data.dict es ep from d)
    have nsK : ∀ {b : Addr} {m : PySem.Str → Option Value}, s₁.heap.Ns b m → (hidT s₁.heap H).Ns b m := fun {b m} ⟨o, es, ep, e, d, r⟩ => ⟨o, es, ep, hidT_get e (noD e d), d, r⟩
    have hKb : K.In (hidT s₁.heap H) := fun b o e => hidT_get (KX b o e) (by
      cases q : H b with
      | none => rfl
      | some u =>
        have e' : b = a := hA b (by rw [q]; simp)
        subst e'
        rw [hK (by rw [q]; simp)] at e
        cases e)
    have e0 : Env0 P w K mg (hidT s₁.heap H) callerA [] s₁ H :=
      ⟨rfl, ⟨hKb, nsK hns, ⟨mb, nsK hb, hbb⟩, let ⟨mc, h1, h2⟩ := hlim; ⟨mc, nsK h1, h2⟩⟩, fun b o e => of_hidT e, Nat.le_of_eq (hidT_size _ _), trivial, fun b hb => absurd (show b ∈ ([] : List Addr) from hb) (by simp), hok, .of_eq hg⟩
    refine codeAny_mono ((F _ hKb (nsK hns)).run callerA [] s₁ H ⟨[.ref a], []⟩ [.ref a] [.ref a] _ _ rfl hr e0 (hbind s₁ (.ref a)) (.cons rfl .nil) (hsp H hO hS)) fun r s' h => ?_
    cases r with
    | error e => exact h.elim
    | ok fl =>
      cases fl with
      | next => exact False.elim h
      | brk => exact False.elim h
      | cont => exact False.elim h
      | ret u =>
        obtain ⟨v, H', os, bare, un, hok', r', q⟩ := h
        obtain rfl : v = .bl true := q
        obtain rfl : u = Value.bool true := r'
        refine ⟨rfl, OldK.of_keep fun b o e => ?_, os, bare⟩
        cases q : H b with
        | none => exact un.keep b o e q (fun z => nomatch z) (by simp)
        | some u =>
          rcases hO b with z | ⟨ob, xs, z⟩
          · rw [q] at z
            cases z
          · obtain ⟨e1, _⟩ := hok b _ z
            obtain ⟨e2, _⟩ := hok' b _ (un.frzs b ob _ z)
            rw [e] at e1
            cases e1
            exact e2
  cases hk : K.lookup a with
  | some o =>
    have e := KX a o hk
    rw [ha] at e
    cases e
    exact core (fun _ => none) (fun _ => .inl rfl) (.inr ⟨_, vs.toArray, _, hk, rfl, rfl, rfl, by rw [List.size_toArray, hi.length]; exact hl, by simpa using rv⟩) (fun b u z => nomatch (show (none : Option HO) = some u from z)) (fun b z => absurd rfl z) fun z => absurd rfl z
  | none =>
    refine core (fun b => if b = a then some (.frz { cls := .type "list", data := .seq vs.toArray } (.lst (ns.map V.int))) else none) (fun b => ?_) (.inl (.inr ⟨{ cls := .type "list", data := .seq vs.toArray }, if_pos rfl⟩)) (fun b u z => ?_) (fun b z => ?_) fun _ => hk
    · by_cases hb : b = a
      · exact .inr ⟨_, _, if_pos hb⟩
      · exact .inl (if_neg hb)
    · by_cases hb : b = a
      · have z' := (if_pos hb).symm.trans z
        cases z'
        subst hb
        exact ⟨ha, by rw [List.length_map]; exact hl, vs, _, rv, ha⟩
      · cases (if_neg hb).symm.trans z
    · by_cases hb : b = a
      · exact hb
      · exact absurd (if_neg hb) z
theorem walkG {l : PySem.W.OpenLaw} {n k : Nat} {q : Program} {loose : List PySem.Str} {XP : (PySem.Str → Option Value) → Heap → Prop} {YP : World → Heap → Prop} {d : DefRec} {x : PySem.Str}
    (hn : l.most = some n) (hn2 : n ≤ sizeLine) (hdf : d.params.defaults = []) (hr : Room k callerA)
    (F : ∀ (w : World) (mg : PySem.Str → Option Value) (fa : Addr) (h : Heap), YP w h → h.Ns mainGlobals mg → mg d.name = some (.ref fa) →
      ∃ (K : PySem.W.Frag) (fd : FuncData) (sp : Sp), K.In h ∧ (∀ (s : Shared) (u : Value), BindsTo s fd ⟨[u], []⟩ [(x, u)]) ∧
        (∀ (H : Hp) (a : Addr) (ns : List Int), ns.length ≤ n → Only H → SqL K H a (ns.map V.int) → sp [.ref a] H (fun v _ => v = .bl true) fun _ _ _ => False) ∧
        ∀ base : Heap, K.In base → base.Ns mainGlobals mg → FnG l.prog w K mg base k fa fd [x] sp) :
    PySem.W.WalkO q loose XP YP l.row.toRowW d [] (fun f vs => PySem.call f vs) := by
  refine Att.attach_call hn hdf fun w s₀ s₁ mg mb fa o pm cd doc a vs ns G Y ho hd hcd hmg hobj hints hlen hg => ?_
  obtain ⟨K, fd, sp, KX, hb, hsp, hF⟩ := F w mg fa _ Y G.T.g hmg
  exact lawG KX G.T.g G.T.b G.T.builtins G.T.nolimit hg hobj hints (Nat.le_trans hlen hn2) hr hF hb fun H hO hS => hsp H a ns hlen hO hS

/-! ### f(k = v, ..), nothing by position -/
section
variable {X : Cx} {CX : CXT} {k : Nat} {f : Addr} {fd : FuncData} {ps ks : List PySem.Str} {sp : Sp} {E : XK} {x : PySem.Str} {p pos : Pos} {kws : List Keyword} {tk : TA} {g : List Value → List Value → List Value} {gV : List V → List V → List V}
theorem pe_callK0 (F : FnOk X.prog X.w X.K X.mg X.base CX k f fd ps sp) (hr : Room k X.A) (hg : Gl X x) (hm : X.mg x = some (.ref f)) (hk : PySem.W.keepIn X.K (.ref f) = true) (hb : KBinds X.K fd ps ks g gV) (hx : Passes CX X E)
    (hkw : PK X kws tk) (hall : (backToKw pos (keywordEach kws X.env)).all (·.1.isSome) = true := by rfl) (hks : (backToKw pos (keywordEach kws X.env)).filterMap (·.1) = ks := by rfl)
    (hdb : (x == ("__debug__" : PySem.Str)) = false := by decide) (hpl : ((backTo pos (starEach [] X.env)).any (·.1) || (backToKw pos (keywordEach kws X.env)).any (·.1.isNone)) = false := by rfl) :
    PE X (.Call (.Name x p) [] kws pos) (tCallK sp gV E tNil tk) := by
  refine ⟨fun pins s σ H Q I h => ?_⟩
  refine wpAny_Call_Name_kw (ld_glob I hg hm ?_ hdb)
  refine PySem.W.callWith_KW0 (h₀ := X.base) I.ok.mod.kin hk hall (thn (hkw.run pos pins s σ H _ I h) fun ws s2 ⟨zs, H2, I2, rz, q2⟩ => ⟨I2.kIn, ?_⟩) hpl
  rw [hks]
  exact run_fnk (us := []) (vs := []) F hr hb hx I2 .nil rz q2
end

/-! ### repr of None, of a tuple of ints -/
def dataI (ns : List Int) : PyData := .tuple (ns.map PyData.int)
def textO : Option (List Int) → PySem.Str
  | none => "None"
  | some ns => (dataI ns).shown
theorem reads_ints {h : Heap} : ∀ {ns : List Int} {us : List Value}, Vals (ns.map V.int) us → ReadsAll h us (ns.map PyData.int) []
  | [], _, r => by cases r; exact .nil
  | n :: ns, _, r => by
    cases r with
    | cons r1 r2 =>
      obtain ⟨t, rfl⟩ := r1
      exact .cons (.int n t) (reads_ints r2)
theorem showable_ints : ∀ {ns : List Int}, (∀ n ∈ ns, n.natAbs.log2 < 1920) → PyData.showableAll (ns.map PyData.int) = true
  | [], _ => rfl
  | n :: ns, h => by
    rw [List.map_cons, PyData.showableAll, showable_ints fun m hm => h m (by simp [hm])]
    simp [PyData.showable, h n (by simp)]
theorem shownAll_ints : ∀ ns : List Int, PyData.shownAll (ns.map PyData.int) = ns.map fun n => ((toString n : String) : PySem.Str)
  | [] => rfl
  | n :: ns => by rw [List.map_cons, PyData.shownAll, shownAll_ints ns, List.map_cons]; rfl
theorem depth_ints (ns : List Int) : (dataI ns).depth ≤ 1 := by
  have h : ∀ l : List Int, PyData.depthAll (l.map PyData.int) = 0 := by
    intro l
    induction l with
    | nil => rfl
    | cons n l ih => rw [List.map_cons, PyData.depthAll, ih]; rfl
  rw [dataI, PyData.depth, h]
  omega
theorem hasDict_ints (ns : List Int) : (dataI ns).hasDict = false := by
  have h : ∀ l : List Int, PyData.hasDictAll (l.map PyData.int) = false := by
    intro l
    induction l with
    | nil => rfl
    | cons n l ih => rw [List.map_cons, PyData.hasDictAll, ih]; rfl
  rw [dataI, PyData.hasDict, h]
theorem small_text (n : Int) (h : -9 ≤ n ∧ n ≤ 9) : ((toString n : String) : PySem.Str).length ≤ 2 ∧ n.natAbs.log2 < 1920 := by
  have hn : n = -9 ∨ n = -8 ∨ n = -7 ∨ n = -6 ∨ n = -5 ∨ n = -4 ∨ n = -3 ∨ n = -2 ∨ n = -1 ∨ n = 0 ∨ n = 1 ∨ n = 2 ∨ n = 3 ∨ n = 4 ∨ n = 5 ∨ n = 6 ∨ n = 7 ∨ n = 8 ∨ n = 9 := by omega
  rcases hn with rfl | rfl | rfl | rfl | rfl | rfl | rfl | rfl | rfl | rfl | rfl | rfl | rfl | rfl | rfl | rfl | rfl | rfl | rfl <;> decide +kernel
theorem text_fits {ns : List Int} (h : ∀ n ∈ ns, -9 ≤ n ∧ n ≤ 9) (hl : ns.length ≤ 1000) : (dataI ns).shown.length ≤ sizeLine := by
  have hp : ∀ l : List Int, (∀ n ∈ l, -9 ≤ n ∧ n ≤ 9) → piled (l.map fun n => ((toString n : String) : PySem.Str)) ≤ 4 * l.length := by
    intro l
    induction l with
    | nil => intro _; exact Nat.zero_le _
    | cons n l ih =>
      intro hh
      rw [List.map_cons, piled_cons]
      have := ih fun m hm => hh m (by simp [hm])
      have := (small_text n (hh n (by simp))).1
      rw [List.length_cons]
      omega
  rw [dataI, PyData.shown, shownAll_ints]
  have h1 := fmt_text (ns.map fun n => ((toString n : String) : PySem.Str))
  have h2 := hp ns h
  rw [sizeLine_eq]
  omega
/-- what stands for None or a course -/
def IsO (K : PySem.W.Frag) (H : Hp) (v : V) : Option (List Int) → Prop
  | none => v = .non
  | some ns => ∃ a, v = .ref a ∧ SqT K H a (ns.map V.int) ∧ (∀ n ∈ ns, -9 ≤ n ∧ n ≤ 9) ∧ ns.length ≤ 1000
theorem call_reprO {X : Cx} {k : Nat} (hgd : X.A.guards = some []) (hr : Room k X.A) : CallR X (.builtin "repr") (fun xs H Q => ∃ (v : V) (r : Option (List Int)), xs = [v] ∧ IsO X.K H v r ∧ Q (.str (textO r)) H) := by
  intro pins s σ H xs us Q I rv h
  obtain ⟨v, r, rfl, hv, q⟩ := h
  obtain ⟨u, rfl, ru⟩ := vals1 rv
  cases r with
  | none =>
    obtain rfl : v = .non := hv
    obtain rfl : u = Value.none := ru
    exact PySem.P.repr_of_none ⟨.str _, H, I.tok _, ⟨_, rfl⟩, q⟩
  | some ns =>
    obtain ⟨a, rfl, ht, hn, hl⟩ := hv
    obtain rfl : u = Value.ref a := ru
    obtain ⟨its, rvs, ⟨o, h1, h2, n, h3⟩, _⟩ := I.tuple ht
    have hu := hr.units
    have hd := depth_ints ns
    refine repr_of_reads' (d := dataI ns) (as := []) (h₀ := s.heap) (.tuple h1 h2 h3 (by simpa using reads_ints rvs)) (showable_ints fun n hm => (small_text n (hn n hm)).2) (fun z => by rw [hasDict_ints] at z; cases z) hgd (by omega) (fun _ _ e => e)
      (fun h' u tk hk => ⟨.str _, H, I.kept (t' := tk) hk, ⟨u, rfl⟩, q⟩) (text_fits hn hl)
end PB

/-! The walks' own words: promises by names, a heap of what no longer changes beside the heap. -/
namespace PB
open PySem PySem.Spec PyProof.Rows L2

/-! ### heaps: B tells what stands for ever, H what stands now -/
theorem same_new {H : Hp} {p : Addr} {o : HO} (h : H p = none) : Same H (upd H p o) := fun b x e => by
  rw [upd_ne (ne_of_none e h)]
  exact e
structure Ext (j : Option Addr) (B0 H0 B H : Hp) : Prop where
  hp : ∀ b o, j ≠ some b → H0 b = some o → H b = some o
  gh : Same B0 B
  in_ : Same B H
  fr : ∀ b, H0 b ≠ none → B0 b = none → B b = none
  al : ∀ b, H0 b ≠ none → H b ≠ none
section
variable {j : Option Addr} {B0 H0 B H B1 H1 : Hp} {p m : Addr} {o o' : HO}
theorem Ext.refl (s : Same B H) : Ext j B H B H := ⟨fun _ _ _ e => e, .refl _, s, fun _ _ e => e, fun _ e => e⟩
theorem Ext.any (X : Ext none B0 H0 B H) : Ext j B0 H0 B H := ⟨fun b o _ e => X.hp b o (fun z => nomatch z) e, X.gh, X.in_, X.fr, X.al⟩
theorem Ext.trans (X : Ext j B0 H0 B H) (Y : Ext j B H B1 H1) : Ext j B0 H0 B1 H1 :=
  ⟨fun b o n e => Y.hp b o n (X.hp b o n e), X.gh.trans Y.gh, Y.in_, fun b n e => Y.fr b (X.al b n) (X.fr b n e), fun b n => Y.al b (X.al b n)⟩
theorem Ext.also (X : Ext j B0 H0 B H) (Y : Ext none B H B1 H1) : Ext j B0 H0 B1 H1 := X.trans Y.any
theorem Ext.sm (X : Ext none B0 H0 B H) : Same H0 H := fun b o e => X.hp b o (fun z => nomatch z) e
theorem ext_same (s : Same B H) (t : Same H H1) : Ext j B H B H1 := ⟨fun b o _ e => t b o e, .refl _, s.trans t, fun _ _ e => e, fun b n => by
  cases q : H b with
  | none => exact absurd q n
  | some x => rw [t b x q]; simp⟩
/-- a new thing that will stay as it is -/
theorem ext_new (s : Same B H) (n : H p = none) (t : Same H H1) (e : H1 p = some o) : ∃ B1, Ext none B H B1 H1 ∧ B1 p = some o := by
  have n0 : B p = none := s.free n
  refine ⟨upd B p o, ⟨fun b x _ q => t b x q, same_new n0, fun b x q => ?_, fun b hb q => ?_, fun b hb => ?_⟩, upd_same⟩
  · by_cases h : b = p
    · subst h
      rw [upd_same] at q
      cases q
      exact e
    · rw [upd_ne h] at q
      exact t b x (s b x q)
  · have h : b ≠ p := fun z => hb (z ▸ n)
    rw [upd_ne h]
    exact q
  · cases q : H b with
    | none => exact absurd q hb
    | some x => rw [t b x q]; simp
theorem ext_upd (s : Same B H) (n : H p = none) (o : HO) : ∃ B1, Ext none B H B1 (upd H p o) ∧ B1 p = some o := ext_new s n (same_new n) upd_same
/-- a new thing that is still to be changed -/
theorem ext_loc (s : Same B H) (n : H p = none) (o : HO) : Ext none B H B (upd H p o) := ext_same s (same_new n)
theorem Ext.mut (X : Ext j B0 H0 B H) (n : j = some m ∨ H0 m = none) (nB : B m = none) (o : HO) : Ext j B0 H0 B (upd H m o) := by
  refine ⟨fun b x q e => ?_, X.gh, fun b x e => ?_, X.fr, fun b q => ?_⟩
  · have h : b ≠ m := fun z => by
      subst z
      rcases n with n | n
      · exact q n
      · rw [n] at e; cases e
    rw [upd_ne h]
    exact X.hp b x q e
  · have h : b ≠ m := fun z => by rw [z, nB] at e; cases e
    rw [upd_ne h]
    exact X.in_ b x e
  · by_cases h : b = m
    · subst h; rw [upd_same]; simp
    · rw [upd_ne h]; exact X.al b q
/-- from now on it stays as it is -/
theorem Ext.fix (X : Ext j B0 H0 B H) (n : j ≠ some m) (n0 : H0 m = none) (nB : B m = none) (e : H m = some o) : ∃ B1, Ext j B0 H0 B1 H ∧ B1 m = some o ∧ Same B B1 ∧ ∀ b, b ≠ m → B1 b = B b := by
  refine ⟨upd B m o, ⟨X.hp, X.gh.trans (same_new nB), fun b x q => ?_, fun b hb q => ?_, X.al⟩, upd_same, same_new nB, fun b h => upd_ne h⟩
  · by_cases h : b = m
    · subst h; rw [upd_same] at q; cases q; exact e
    · rw [upd_ne h] at q; exact X.in_ b x q
  · have h : b ≠ m := fun z => hb (z ▸ n0)
    rw [upd_ne h]
    exact X.fr b hb q
end

/-! ### defs by their names -/
structure At (K : PySem.W.Frag) (mg : PySem.Str → Option Value) (x : PySem.Str) (st : Stmt) (ps : List PySem.Str) : Prop where
  ex : ∃ f fd, FunD K x x (defArgs st) (defBody st) (defScope st) [] [] f fd ∧ mg x = some (.ref f) ∧ L2.Binds K fd ps []
structure AtM (K : PySem.W.Frag) (C : Addr) (m qual : PySem.Str) (st : Stmt) (ps : List PySem.Str) : Prop where
  ex : ∃ f fd, FunD K m qual (defArgs st) (defBody st) (defScope st) [] [] f fd ∧ Meth K C m f ∧ L2.Binds K fd ps []
structure AtI (K : PySem.W.Frag) (mg : PySem.Str → Option Value) (C : Addr) (x qual : PySem.Str) (st : Stmt) (dvs : List V) (ps : List PySem.Str) : Prop where
  ex : ∃ f fd, FunD K "__init__" qual (defArgs st) (defBody st) (defScope st) dvs [] f fd ∧ Mk K C f ∧ mg x = some (.ref C) ∧ L2.Binds K fd ps []
structure AtP (K : PySem.W.Frag) (C : Addr) (x qual : PySem.Str) (st : Stmt) : Prop where
  ex : ∃ p g fd, FunD K x qual (defArgs st) (defBody st) (defScope st) [] [] g fd ∧ PropOf K C x p g ∧ L2.Binds K fd ["self"] []
structure Fn (P : Program) (w : World) (K : PySem.W.Frag) (mg : PySem.Str → Option Value) (base : Heap) (k : Nat) (x : PySem.Str) (ps : List PySem.Str) (sp : Sp) : Prop where
  ex : ∃ f fd, FnOk P w K mg base CX0 k f fd ps sp ∧ mg x = some (.ref f) ∧ PySem.W.keepIn K (.ref f) = true ∧ L2.Binds K fd ps []
structure FnM (P : Program) (w : World) (K : PySem.W.Frag) (mg : PySem.Str → Option Value) (base : Heap) (k : Nat) (C : Addr) (m : PySem.Str) (ps : List PySem.Str) (sp : Sp) : Prop where
  ex : ∃ f fd, FnOk P w K mg base CX0 k f fd ps sp ∧ Meth K C m f ∧ L2.Binds K fd ps []
structure FnI (P : Program) (w : World) (K : PySem.W.Frag) (mg : PySem.Str → Option Value) (base : Heap) (k : Nat) (C : Addr) (x : PySem.Str) (ps : List PySem.Str) (sp : Sp) : Prop where
  ex : ∃ f fd, FnOk P w K mg base CX0 k f fd ps sp ∧ Mk K C f ∧ mg x = some (.ref C) ∧ L2.Binds K fd ps []
structure FnP (P : Program) (w : World) (K : PySem.W.Frag) (mg : PySem.Str → Option Value) (base : Heap) (k : Nat) (C : Addr) (x : PySem.Str) (sp : Sp) : Prop where
  ex : ∃ p g fd, FnOk P w K mg base CX0 k g fd ["self"] sp ∧ PropOf K C x p g ∧ L2.Binds K fd ["self"] []
section
variable {P : Program} {w : World} {K : PySem.W.Frag} {mg : PySem.Str → Option Value} {base : Heap} {x m qual : PySem.Str} {st : Stmt} {ps N : List PySem.Str} {k : Nat} {sp : Sp} {C : Addr} {dvs : List V}
/-- the body's walk -/
def Body (P : Program) (w : World) (K : PySem.W.Frag) (mg : PySem.Str → Option Value) (base : Heap) (N : List PySem.Str) (qual : PySem.Str) (st : Stmt) (k : Nat) (sp : Sp) : Prop :=
  ∀ (f : Addr) (cdv : Value) (A : Around) (outer : List Env) (s : Shared) (H : Hp) (vs : List V) (Q : VK) (E : XK), Room k (A.deeper (envOfC qual (defScope st) s.heap.objs.size f cdv)) → sp vs H Q E →
      ∃ t, PSs (cxOf CX0 P w K mg base N qual (defScope st) f cdv A outer s H E).nox (defBody st) t ∧ t { nx := fun _ H' => Q .non H', rt := Q } (start N vs) H
theorem body_ok {f : Addr} {fd : FuncData} (F : FunD K x qual (defArgs st) (defBody st) (defScope st) dvs [] f fd) (S : FnScope N ps (defScope st)) (len : ∀ vs H Q E, sp vs H Q E → vs.length = ps.length) (b : Body P w K mg base N qual st k sp) :
    FnOk P w K mg base CX0 (k + 1) f fd ps sp := F.ok S len fun cdv A outer s H vs Q E hr h => by
  obtain ⟨t, ht, q⟩ := b f cdv A outer s H vs Q E hr h
  exact ⟨t, ht.nox, q⟩
theorem At.fn (A : At K mg x st ps) (S : FnScope N ps (defScope st)) (len : ∀ vs H Q E, sp vs H Q E → vs.length = ps.length) (b : Body P w K mg base N x st k sp) : Fn P w K mg base (k + 1) x ps sp := by
  obtain ⟨f, fd, F, g, hb⟩ := A.ex
  exact ⟨f, fd, body_ok F S len b, g, F.kp, hb⟩
theorem AtM.fn (A : AtM K C m qual st ps) (S : FnScope N ps (defScope st)) (len : ∀ vs H Q E, sp vs H Q E → vs.length = ps.length) (b : Body P w K mg base N qual st k sp) : FnM P w K mg base (k + 1) C m ps sp := by
  obtain ⟨f, fd, F, g, hb⟩ := A.ex
  exact ⟨f, fd, body_ok F S len b, g, hb⟩
theorem AtI.fn (A : AtI K mg C x qual st dvs ps) (S : FnScope N ps (defScope st)) (len : ∀ vs H Q E, sp vs H Q E → vs.length = ps.length) (b : Body P w K mg base N qual st k sp) : FnI P w K mg base (k + 1) C x ps sp := by
  obtain ⟨f, fd, F, g, e, hb⟩ := A.ex
  exact ⟨f, fd, body_ok F S len b, g, e, hb⟩
theorem AtP.fn (A : AtP K C x qual st) (S : FnScope N ["self"] (defScope st)) (len : ∀ vs H Q E, sp vs H Q E → vs.length = 1) (b : Body P w K mg base N qual st k sp) : FnP P w K mg base (k + 1) C x sp := by
  obtain ⟨p, f, fd, F, g, hb⟩ := A.ex
  exact ⟨p, f, fd, body_ok F S len b, g, hb⟩
end
section
variable {X : Cx} {k k' : Nat} {ps : List PySem.Str} {sp : Sp} {x m : PySem.Str} {p pos apos : Pos} {e o : Expr} {es : List Expr} {t : TA} {ta : TE} {C : Addr}
theorem pe_callF (F : Fn X.prog X.w X.K X.mg X.base k x ps sp) (hr : Room k' X.A) (ha : PA X (e :: es) t) (hk : k ≤ k' := by decide) (hg : Gl X x := by rfl) (hdb : (x == ("__debug__" : PySem.Str)) = false := by decide)
    (he : starEach (e :: es) X.env = (false, eval e X.env) :: starEach es X.env := by rfl) (hpl : (backTo pos (starEach es X.env)).any (·.1) = false := by rfl) :
    PE X (.Call (.Name x p) (e :: es) [] pos) (tCall sp [] E0 t) := by
  obtain ⟨f, fd, G, g, kp, b⟩ := F.ex
  exact pe_call G (hr.mono hk) hg g kp b .nil pass0 ha hdb he hpl
theorem pe_methF {pl : Sem Bool} (F : FnM X.prog X.w X.K X.mg X.base k C m ps sp) (cl : Cls X.K C) (hr : Room k' X.A) (ho : PE X o ta) (ha : PA X (e :: es) t) (hk : k ≤ k' := by decide)
    (he : starEach (e :: es) X.env = (false, eval e X.env) :: starEach es X.env := by rfl) (hpl : (backTo pos (starEach es X.env)).any (·.1) = false := by rfl)
    (hs : eval (.Call (.Attribute o m apos) (e :: es) [] pos) X.env = (do
      let ov ← eval o X.env
      standAt apos.atName
      let (f, first) ← holding [ov] (getMethod ov m pl)
      callWith pos f first (backTo pos (starEach (e :: es) X.env)) (backToKw pos (keywordEach [] X.env))) := by rfl) :
    PE X (.Call (.Attribute o m apos) (e :: es) [] pos) (tMeth C m sp [] E0 ta t) := by
  obtain ⟨f, fd, G, g, b⟩ := F.ex
  exact pe_meth ho cl g G (hr.mono hk) b .nil pass0 ha he hpl hs
theorem pe_makeF (F : FnI X.prog X.w X.K X.mg X.base k C x ps sp) (hr : Room k' X.A) (ha : PA X (e :: es) t) (hk : k + 1 ≤ k' := by decide) (hg : Gl X x := by rfl) (hdb : (x == ("__debug__" : PySem.Str)) = false := by decide)
    (he : starEach (e :: es) X.env = (false, eval e X.env) :: starEach es X.env := by rfl) (hpl : (backTo pos (starEach es X.env)).any (·.1) = false := by rfl) :
    PE X (.Call (.Name x p) (e :: es) [] pos) (tMake C sp [] E0 t) := by
  obtain ⟨f, fd, G, g, mC, b⟩ := F.ex
  exact pe_make g G (hr.mono hk) hg mC b .nil pass0 ha hdb he hpl
theorem pe_propF (F : FnP X.prog X.w X.K X.mg X.base k C x sp) (cl : Cls X.K C) (hr : Room k' X.A) (ho : PE X o ta) (hk : k + 1 ≤ k' := by decide)
    (hb : attributeBase o x X.env (eval o X.env) = eval o X.env := by rfl) : PE X (.Attribute o x pos) (tProp C sp [] E0 ta) := by
  obtain ⟨p, f, fd, G, g, b⟩ := F.ex
  exact pe_prop ho cl g G (hr.mono hk) b .nil pass0 hb
end
end PB

namespace PB
open PySem PySem.Spec PyProof.Rows L2

/-! ### lists beside one another -/
section
variable {α β : Type} {F G : α → β → Prop} {xs : List α} {ys : List β}
theorem paired_get (h : Paired F xs ys) : ∀ {i : Nat} {b : β}, ys[i]? = some b → ∃ a, xs[i]? = some a ∧ F a b := by
  induction h with
  | nil => intro i b e; simp at e
  | @cons a b l1 l2 h t ih =>
    intro i c e
    cases i with
    | zero => exact ⟨a, rfl, by simp only [List.getElem?_cons_zero, Option.some.injEq] at e; exact e ▸ h⟩
    | succ i => simpa using ih (by simpa using e)
theorem paired_getL (h : Paired F xs ys) : ∀ {i : Nat} {a : α}, xs[i]? = some a → ∃ b, ys[i]? = some b ∧ F a b := by
  induction h with
  | nil => intro i b e; simp at e
  | @cons a b l1 l2 h t ih =>
    intro i c e
    cases i with
    | zero => exact ⟨b, rfl, by simp only [List.getElem?_cons_zero, Option.some.injEq] at e; exact e ▸ h⟩
    | succ i => simpa using ih (by simpa using e)
theorem paired_app {xs' : List α} {ys' : List β} (h : Paired F xs ys) (h' : Paired F xs' ys') : Paired F (xs ++ xs') (ys ++ ys') := by
  induction h with
  | nil => exact h'
  | cons h t ih => exact .cons h ih
theorem paired_take (h : Paired F xs ys) : ∀ n : Nat, Paired F (xs.take n) (ys.take n) := by
  induction h with
  | nil => intro n; rw [List.take_nil, List.take_nil]; exact .nil
  | cons h t ih => intro n; cases n with
    | zero => exact .nil
    | succ n => exact .cons h (ih n)
theorem paired_drop (h : Paired F xs ys) : ∀ n : Nat, Paired F (xs.drop n) (ys.drop n) := by
  induction h with
  | nil => intro n; rw [List.drop_nil, List.drop_nil]; exact .nil
  | cons h t ih => intro n; cases n with
    | zero => exact .cons h t
    | succ n => exact ih n
theorem paired_rev (h : Paired F xs ys) : Paired F xs.reverse ys.reverse := by
  induction h with
  | nil => exact .nil
  | cons h t ih => rw [List.reverse_cons, List.reverse_cons]; exact paired_app ih (.cons h .nil)
theorem paired_map {γ : Type} {f : γ → β} {zs : List γ} (h : Paired (fun a c => F a (f c)) xs zs) : Paired F xs (zs.map f) := by
  induction h with
  | nil => exact .nil
  | cons h t ih => exact .cons h ih
theorem paired_unmap {γ : Type} {f : γ → β} : ∀ {zs : List γ} {xs : List α}, Paired F xs (zs.map f) → Paired (fun a c => F a (f c)) xs zs
  | [], _, h => by cases h; exact .nil
  | z :: zs, _, h => by cases h with | cons h t => exact .cons h (paired_unmap t)
theorem paired_eq {f : β → α} (h : Paired (fun a b => a = f b) xs ys) : xs = ys.map f := by
  induction h with
  | nil => rfl
  | cons h t ih => rw [List.map_cons, h, ih]
theorem paired_of_eq {f : β → α} : ∀ ys : List β, Paired (fun a b => a = f b) (ys.map f) ys
  | [] => .nil
  | y :: ys => .cons rfl (paired_of_eq ys)
theorem paired_iff : ∀ {xs : List α} {ys : List β}, xs.length = ys.length → (∀ (i : Nat) a b, xs[i]? = some a → ys[i]? = some b → F a b) → Paired F xs ys
  | [], [], _, _ => .nil
  | [], _ :: _, h, _ => by simp at h
  | _ :: _, [], h, _ => by simp at h
  | a :: xs, b :: ys, h, g => .cons (g 0 a b rfl rfl) (paired_iff (by simpa using h) fun i a b e1 e2 => g (i + 1) a b (by simpa using e1) (by simpa using e2))
theorem paired_one {a : α} {b : β} (h : F a b) : Paired F [a] [b] := .cons h .nil
end

/-! ### things in the heap that stand for ever -/
abbrev Rel (α : Type) := Hp → V → α → Prop
structure Mono {α : Type} (R : Rel α) : Prop where
  up : ∀ {B B' : Hp} {v : V} {x : α}, Same B B' → R B v x → R B' v x
section
variable {α : Type} {R : Rel α} {B B' : Hp} {v : V} {xs : List α}
def IsI : Rel Int := fun _ v n => v = .int n
def IsL (R : Rel α) : Rel (List α) := fun B v xs => ∃ a vs, v = .ref a ∧ B a = some (.lst vs) ∧ Paired (R B) vs xs
def IsT (R : Rel α) : Rel (List α) := fun B v xs => ∃ a vs, v = .ref a ∧ B a = some (.tup vs) ∧ Paired (R B) vs xs
def IsP {β : Type} (R : Rel α) (S : Rel β) : Rel (α × β) := fun B v x => ∃ a v1 v2, v = .ref a ∧ B a = some (.tup [v1, v2]) ∧ R B v1 x.1 ∧ S B v2 x.2
theorem mono_I : Mono IsI := ⟨fun _ h => h⟩
theorem Mono.p {vs : List V} (m : Mono R) (s : Same B B') (h : Paired (R B) vs xs) : Paired (R B') vs xs := Paired.mapP h fun _ _ z => m.up s z
theorem mono_L (m : Mono R) : Mono (IsL R) := ⟨fun s ⟨a, vs, e, h, p⟩ => ⟨a, vs, e, s _ _ h, m.p s p⟩⟩
theorem mono_T (m : Mono R) : Mono (IsT R) := ⟨fun s ⟨a, vs, e, h, p⟩ => ⟨a, vs, e, s _ _ h, m.p s p⟩⟩
theorem mono_P {β : Type} {S : Rel β} (m : Mono R) (n : Mono S) : Mono (IsP R S) := ⟨fun s ⟨a, v1, v2, e, h, p, q⟩ => ⟨a, v1, v2, e, s _ _ h, m.up s p, n.up s q⟩⟩
theorem mono_Sd : Mono IsSd := ⟨fun s h => h.keep fun _ _ e => s _ _ e⟩
theorem mono_Sds : Mono IsSds := ⟨fun s h => h.keep fun _ _ e => s _ _ e⟩
theorem isI_map {vs : List V} {ns : List Int} (h : Paired (IsI B) vs ns) : vs = ns.map V.int := paired_eq h
theorem isI_of (ns : List Int) : Paired (IsI B) (ns.map V.int) ns := paired_of_eq ns
end
def optV : Option Int → V
  | none => .non
  | some i => .int i
def tmV (t : Tm) : List V := [.int t.every, .int t.first, .int t.rate, optV t.low, optV t.top, .int t.keep, .int t.plus]
def IsTm : Rel Tm := fun B v t => ∃ a, v = .ref a ∧ B a = some (.tup (tmV t))
theorem mono_Tm : Mono IsTm := ⟨fun s ⟨a, e, h⟩ => ⟨a, e, s _ _ h⟩⟩
def IsCl (C : Addr) : Rel Tm := fun B v t => ∃ a dx tp, v = .ref a ∧ B a = some (.ins C dx [("parts", .ref tp)]) ∧ B tp = some (.tup (tmV t))
theorem mono_Cl {C : Addr} : Mono (IsCl C) := ⟨fun s ⟨a, dx, tp, e, h, g⟩ => ⟨a, dx, tp, e, s _ _ h, s _ _ g⟩⟩
def IsBand : Rel (Int × Int) := fun B v b => ∃ a, v = .ref a ∧ B a = some (.tup [.int b.1, .int b.2])
theorem mono_Band : Mono IsBand := ⟨fun s ⟨a, e, h⟩ => ⟨a, e, s _ _ h⟩⟩
theorem IsSd.mk {B : Hp} {a : Addr} {s : Sd} (h : B a = some (.tup [.int s.1, .int s.2.1, .int s.2.2])) : IsSd B (.ref a) s := ⟨a, rfl, h⟩
theorem SqT.to {K : PySem.W.Frag} {B H : Hp} {a : Addr} {vs : List V} (s : Same B H) (h : B a = some (.tup vs)) : SqT K H a vs := .inl (.inl (s _ _ h))
theorem SqL.to {K : PySem.W.Frag} {B H : Hp} {a : Addr} {vs : List V} (s : Same B H) (h : B a = some (.lst vs)) : SqL K H a vs := .inl (.inl (s _ _ h))

/-! ### the facts of the top -/
structure Txt (K : PySem.W.Frag) (mg : PySem.Str → Option Value) (C W R : Addr) : Prop where
  bisinstance : mg "isinstance" = none
  bint : mg "int" = none
  bbool : mg "bool" = none
  btuple : mg "tuple" = none
  blen : mg "len" = none
  blist : mg "list" = none
  brange : mg "range" = none
  bmin : mg "min" = none
  bmax : mg "max" = none
  benumerate : mg "enumerate" = none
  bzip : mg "zip" = none
  bsum : mg "sum" = none
  babs : mg "abs" = none
  ball : mg "all" = none
  brepr : mg "repr" = none
  bdivmod : mg "divmod" = none
  mgC : mg "Clause" = some (.ref C)
  iEVERY : ∃ t, mg "MOST_EVERY" = some (.int 3 t)
  iRATE : ∃ t, mg "MOST_RATE" = some (.int 5 t)
  iBOUND : ∃ t, mg "MOST_BOUND" = some (.int 20 t)
  iKEEP : ∃ t, mg "MOST_KEEP" = some (.int 6 t)
  iPLUS : ∃ t, mg "MOST_PLUS" = some (.int 9 t)
  iBAND : ∃ t, mg "MOST_BAND" = some (.int 3 t)
  iSTANDINGS : ∃ t, mg "MOST_STANDINGS" = some (.int 600 t)
  iBUNDLE : ∃ t, mg "MOST_BUNDLE" = some (.int 3 t)
  clC : Cls K C
  clW : Cls K W
  clR : Cls K R
  nParts : NoAttr K C "parts"
  nNodes : NoAttr K W "nodes"
  nPlaces : NoAttr K W "places"
  nSteps : NoAttr K W "steps"
  nOrigins : NoAttr K W "origins"
  nRow : NoAttr K R "row"
  nSigns : NoAttr K R "signs"
  oneC : PySem.W.kitOne K (.ref C) (.ref C) = some true
  tyC : ∀ (H : Hp) (a dx : Addr) (fs : List (PySem.Str × V)), H a = some (.ins C dx fs) → TyX K H (.ref a) (.ref C)
theorem pe_const {X : Cx} {x : PySem.Str} {i : Int} {pos : Pos} (h : ∃ t, X.mg x = some (.int i t)) (hg : Gl X x := by rfl) (hd : (x == ("__debug__" : PySem.Str)) = false := by decide) : PE X (.Name x pos) (tC (.int i)) := by
  obtain ⟨t, e⟩ := h
  exact pe_glob hg e ⟨t, rfl⟩ hd

/-! ### the slots in short -/
theorem atS {F : L2.St → Hp → Prop} {σ : L2.St} {H : Hp} (σ' : L2.St) (h : F σ' H) (e : σ = σ' := by rfl) : F σ H := e ▸ h

/-! ### rules within comprehensions -/
theorem ix_tupK {X : Cx} {K : PySem.W.Frag} (h : X.K = K := by rfl) : IxR X (rIxT K) := h ▸ ix_tup
theorem ix_listK {X : Cx} {K : PySem.W.Frag} (h : X.K = K := by rfl) : IxR X (rIxL K) := h ▸ ix_list
theorem op_catAK {X : Cx} {K : PySem.W.Frag} (h : X.K = K := by rfl) : OpR X (binaryOp .Add) (rCatA K) := h ▸ op_catA
theorem sl_tupAK {X : Cx} {K : PySem.W.Frag} (h : X.K = K := by rfl) : SlR X (rSlA K) := h ▸ sl_tupA

/-! ### a comprehension that maps -/
theorem lc_map {α : Type} {J : It} {n : Nat} {G : Hp → Prop} {Y : Nat → Hp → V → Hp → Prop} (wk : Walk J n G Y) {g : TG} {te : TE} {ws : List Nat} {σ : L2.St} {B H1 : Hp} {D : Addr} {Qd : Hp → Prop} (j : Option Addr) (zs : List α) (R : Rel α) (m : Mono R)
    (I : Hp → Prop) (hI : I H1) (keepI : ∀ H o, I H → I (upd H D o)) (sB : Same B H1) (nD : H1 D = none) (hj : j ≠ some D) (hn : zs.length = n) (hz : n < sizeLine) (hG : ∀ H, (∀ b o, j ≠ some b → H1 b = some o → H b = some o) → G H)
    (turn : ∀ (i : Nat) (x : V) (z : α) (B' H H' : Hp) (Qn : V → Hp → Prop) (Qs : Hp → Prop), zs[i]? = some z → Ext j B H1 B' H → I H → Y i H x H' → (∀ y B'' H5, Ext j B' H B'' H5 → I H5 → R B'' y z → Qn y H5) →
      g x (wipe σ ws) H' fun σ2 H2 => wipe σ2 ws = wipe σ ws ∧ tYes σ2 H2 fun b H3 => if b = true then te σ2 H3 Qn else Qs H3)
    (fin : ∀ vs B' H', Ext j B H1 B' H' → B' D = none → I H' → H' D = some (.lst vs) → Paired (R B') vs zs → Qd H') :
    ∃ W : Nat → Nat → Hp → Prop, (∃ m, W 0 m (upd H1 D (.lst []))) ∧ ∀ (i m : Nat) (H : Hp), W i m H → It.stop J i H ∧ Qd H ∨ It.go J i H ∧ ∃ Nx : Hp → Prop, (∀ H', Nx H' → ∃ m', m' < m ∧ W (i + 1) m' H') ∧ ∀ (x : V) (H' : Hp), It.yld J i H x H' →
      g x (wipe σ ws) H' fun σ2 H2 => wipe σ2 ws = wipe σ ws ∧ tYes σ2 H2 fun b H3 => if b = true then te σ2 H3 fun y H4 => ∃ acc, H4 D = some (.lst acc) ∧ acc.length < sizeLine ∧ Nx (upd H4 D (.lst (acc ++ [y]))) else Nx H3 := by
  have nBD : B D = none := sB.free nD
  refine lc_it wk (fun i H => ∃ vs B', Ext j B H1 B' H ∧ B' D = none ∧ I H ∧ H D = some (.lst vs) ∧ Paired (R B') vs (zs.take i)) ⟨[], B, (Ext.refl sB).mut (.inr nD) nBD _, nBD, keepI _ _ hI, upd_same, .nil⟩ (fun i H _ ⟨vs, B', X, _, _, _, _⟩ => hG H X.hp) ?_ ?_
  · rintro i x H H' hi ⟨vs, B', X, nB', iH, eD, pr⟩ hy
    have hlt : i < zs.length := by omega
    obtain ⟨z, hzz⟩ : ∃ z, zs[i]? = some z := ⟨_, List.getElem?_eq_getElem hlt⟩
    refine turn i x z B' H H' _ _ hzz X iH hy fun y B'' H5 Z iH5 r => ?_
    have nB'' : B'' D = none := Z.fr D (by rw [eD]; simp) nB'
    have len : vs.length = (zs.take i).length := Paired.length pr
    rw [List.length_take] at len
    refine ⟨vs, Z.hp D _ hj eD, by omega, vs ++ [y], B'', (X.trans Z).mut (.inr nD) nB'' _, nB'', keepI _ _ iH5, upd_same, ?_⟩
    rw [List.take_add_one, hzz]
    exact paired_app (m.p Z.gh pr) (paired_one r)
  · rintro H ⟨vs, B', X, nB', iH, eD, pr⟩
    rw [List.take_of_length_le (by omega)] at pr
    exact fin vs B' H X nB' iH eD pr
/-- nothing but what is new changes -/
theorem lc_new {α : Type} {J : It} {n : Nat} {G : Hp → Prop} {Y : Nat → Hp → V → Hp → Prop} (wk : Walk J n G Y) {g : TG} {te : TE} {ws : List Nat} {σ : L2.St} {B H1 : Hp} {D : Addr} {Qd : Hp → Prop} (zs : List α) (R : Rel α) (m : Mono R)
    (sB : Same B H1) (nD : H1 D = none) (hn : zs.length = n) (hz : n < sizeLine) (hG : ∀ H, Same H1 H → G H)
    (turn : ∀ (i : Nat) (x : V) (z : α) (B' H H' : Hp) (Qn : V → Hp → Prop) (Qs : Hp → Prop), zs[i]? = some z → Ext none B H1 B' H → Y i H x H' → (∀ y B'' H5, Ext none B' H B'' H5 → R B'' y z → Qn y H5) →
      g x (wipe σ ws) H' fun σ2 H2 => wipe σ2 ws = wipe σ ws ∧ tYes σ2 H2 fun b H3 => if b = true then te σ2 H3 Qn else Qs H3)
    (fin : ∀ B' H', Ext none B H1 B' H' → IsL R B' (.ref D) zs → Qd H') :
    ∃ W : Nat → Nat → Hp → Prop, (∃ m, W 0 m (upd H1 D (.lst []))) ∧ ∀ (i m : Nat) (H : Hp), W i m H → It.stop J i H ∧ Qd H ∨ It.go J i H ∧ ∃ Nx : Hp → Prop, (∀ H', Nx H' → ∃ m', m' < m ∧ W (i + 1) m' H') ∧ ∀ (x : V) (H' : Hp), It.yld J i H x H' →
      g x (wipe σ ws) H' fun σ2 H2 => wipe σ2 ws = wipe σ ws ∧ tYes σ2 H2 fun b H3 => if b = true then te σ2 H3 fun y H4 => ∃ acc, H4 D = some (.lst acc) ∧ acc.length < sizeLine ∧ Nx (upd H4 D (.lst (acc ++ [y]))) else Nx H3 :=
  lc_map wk none zs R m (fun _ => True) trivial (fun _ _ _ => trivial) sB nD (fun z => nomatch z) hn hz (fun H h => hG H fun b o e => h b o (fun z => nomatch z) e)
    (fun i x z B' H H' Qn Qs hz X _ hy hq => turn i x z B' H H' Qn Qs hz X hy fun y B'' H5 Z r => hq y B'' H5 Z trivial r) (fun vs B' H' X n _ e p => by
      obtain ⟨B2, Y, e2, sm, _⟩ := X.fix (fun z => nomatch z) nD n e
      exact fin B2 H' Y ⟨D, vs, rfl, e2, m.p sm p⟩)
theorem yesT {te : TE} {σ σ2 : L2.St} {H : Hp} {Qn : VK} {Qs : Hp → Prop} (h : te σ H Qn) : tYes σ2 H fun b H3 => if b = true then te σ H3 Qn else Qs H3 := by
  show if true = true then te σ H Qn else Qs H
  exact iteT h
theorem zip_get {α β γ : Type} {f : α → β → γ} {xs : List α} {ys : List β} {i : Nat} {z : γ} (h : (List.zipWith f xs ys)[i]? = some z) : ∃ a b, xs[i]? = some a ∧ ys[i]? = some b ∧ f a b = z := by
  rw [List.getElem?_zipWith] at h
  cases h1 : xs[i]? with
  | none => simp [h1] at h
  | some a => cases h2 : ys[i]? with
    | none => simp [h1, h2] at h
    | some b => exact ⟨a, b, rfl, rfl, by simpa [h1, h2] using h⟩
theorem map_get {α β : Type} {f : α → β} {xs : List α} {i : Nat} {z : β} (h : (xs.map f)[i]? = some z) : ∃ a, xs[i]? = some a ∧ f a = z := by
  rw [List.getElem?_map] at h
  exact Option.map_eq_some_iff.mp h
theorem walk_L {K : PySem.W.Frag} {a : Addr} {vs : List V} : Walk (Itl K a) vs.length (fun H => SqL K H a vs) (fun i H x H' => H' = H ∧ vs[i]? = some x) :=
  ⟨fun i H hi q => ⟨vs, vs[i], q, List.getElem?_eq_getElem hi⟩, fun H q => ⟨vs, q, Nat.le_refl _⟩, fun i H x H' hi q y => ⟨y.1, y.2 vs q⟩⟩
theorem walk_T {K : PySem.W.Frag} {a : Addr} {vs : List V} : Walk (Itt K a) vs.length (fun H => SqT K H a vs) (fun i H x H' => H' = H ∧ vs[i]? = some x) :=
  ⟨fun i H hi q => ⟨vs, vs[i], q, List.getElem?_eq_getElem hi⟩, fun H q => ⟨vs, q, Nat.le_refl _⟩, fun i H x H' hi q y => ⟨y.1, y.2 vs q⟩⟩
theorem walk_R {lo : Int} {n : Nat} : Walk (Itr lo n) n (fun _ => True) (fun i H x H' => H' = H ∧ x = .int (lo + (i : Int))) :=
  ⟨fun i H hi q => hi, fun H q => Nat.le_refl _, fun i H x H' hi q y => y⟩
end PB

/-! kinds and clauses: what the small defs give -/
namespace PB
open PySem PySem.Spec PyProof.Rows L2
theorem iteI {i j : Int} {A B : Prop} (h1 : i = j → A) (h2 : i ≠ j → B) : if decide (V.int i = V.int j) = true then A else B := by
  refine ite2 (fun h => h1 ?_) (fun h => h2 fun z => h ?_)
  · exact V.int.inj (of_decide_eq_true h)
  · rw [z]; exact decide_eq_true rfl
theorem iteIN {i j : Int} {A B : Prop} (h1 : i ≠ j → A) (h2 : i = j → B) : if (!decide (V.int i = V.int j)) = true then A else B := by
  by_cases z : i = j
  · subst z
    rw [decide_eq_true rfl]
    exact iteF (h2 rfl)
  · rw [decide_eq_false (fun y => z (V.int.inj y))]
    exact iteT (h1 z)
theorem iteP {c A B : Prop} [Decidable c] (h1 : c → A) (h2 : ¬ c → B) : if decide c = true then A else B :=
  ite2 (fun h => h1 (of_decide_eq_true h)) fun h => h2 fun z => h (decide_eq_true z)
theorem iteE {b : Bool} {A B : Prop} (h1 : b = true → A) (h2 : b = false → B) : if b = true then A else B := by
  cases b with
  | true => exact iteT (h1 rfl)
  | false => exact iteF (h2 rfl)
section
variable {P : Program} {w : World} {K : PySem.W.Frag} {mg : PySem.Str → Option Value} {base : Heap} {C W R : Addr}
def spIsInteger : Sp := fun vs H Q _ => ∃ n : Int, vs = [.int n] ∧ Q (.bl true) H
abbrev N_is_integer : List PySem.Str := ["value"]
theorem sc_is_integer : FnScope N_is_integer ["value"] (defScope st_is_integer) := ⟨rfl, rfl, rfl, by decide +kernel, rfl, by decide +kernel, by decide +kernel⟩
theorem b_is_integer (T : Txt K mg C W R) : Body P w K mg base N_is_integer "is_integer" st_is_integer 0 spIsInteger := by
  intro f cdv A outer s H vs Q E hr h
  obtain ⟨n, rfl, q⟩ := h
  refine ⟨_, (pss_one (ps_ret (pe_and (pe_callB call_isi (by rfl) T.bisinstance (by decide +kernel) (pa_cons (pv 0) (pa_cons (pe_bltn (v := .ty "int") (u := .type "int") (by rfl) T.bint (by decide +kernel) rfl) pa_nil))) (pe_one (pe_not (pe_callB call_isi (by rfl) T.bisinstance (by decide +kernel) (pa_cons (pv 0) (pa_cons (pe_bltn (v := .ty "bool") (u := .type "bool") (by rfl) T.bbool (by decide +kernel) rfl) pa_nil)))))))), ?_⟩
  exact ⟨_, rfl, _, _, _, _, true, rfl, .ty "int", .base (.int n), kit_ty (by decide +kernel), true, rfl, iteT ⟨_, rfl, _, _, _, _, false, rfl, .ty "bool", .base (.int n), kit_ty (by decide +kernel), false, rfl, q⟩⟩
def spBetween : Sp := fun vs H Q _ => ∃ v lo hi : Int, vs = [.int v, .int lo, .int hi] ∧ Q (.bl (decide (lo ≤ v ∧ v ≤ hi))) H
abbrev N_is_between : List PySem.Str := ["value", "least", "most"]
theorem sc_is_between : FnScope N_is_between ["value", "least", "most"] (defScope st_is_between) := ⟨rfl, rfl, rfl, by decide +kernel, rfl, by decide +kernel, by decide +kernel⟩
theorem b_is_between (T : Txt K mg C W R) (g_is_integer : Fn P w K mg base 1 "is_integer" ["value"] spIsInteger) : Body P w K mg base N_is_between "is_between" st_is_between 1 spBetween := by
  intro f cdv A outer s H vs Q E hr h
  obtain ⟨v, lo, hi, rfl, q⟩ := h
  refine ⟨_, (pss_one (ps_ret (pe_and (pe_callF g_is_integer hr (pa_cons (pv 0) pa_nil)) (pe_one (pe_chain op_le op_le (pv 1) (pv 0) (pv 2)))))), ?_⟩
  refine ⟨_, rfl, v, rfl, true, rfl, iteT ⟨_, rfl, _, rfl, lo, v, rfl, rfl, _, rfl, iteP (fun h1 => ⟨_, rfl, v, hi, rfl, rfl, ?_⟩) fun h1 => ?_⟩⟩
  · have e : decide (lo ≤ v ∧ v ≤ hi) = decide (v ≤ hi) := by simp [h1]
    rw [e] at q
    exact q
  · have e : decide (lo ≤ v ∧ v ≤ hi) = false := by simp [h1]
    rw [e] at q
    exact q
def BandOk (b : Int × Int) : Prop := -3 ≤ b.1 ∧ b.1 ≤ b.2 ∧ b.2 ≤ 3
def spIsBand : Sp := fun vs H Q _ => ∃ a lo hi, vs = [.ref a] ∧ H a = some (.tup [.int lo, .int hi]) ∧ BandOk (lo, hi) ∧ Q (.bl true) H
abbrev N_is_band : List PySem.Str := ["value"]
theorem sc_is_band : FnScope N_is_band ["value"] (defScope st_is_band) := ⟨rfl, rfl, rfl, by decide +kernel, rfl, by decide +kernel, by decide +kernel⟩
theorem b_is_band (T : Txt K mg C W R) (g_is_between : Fn P w K mg base 2 "is_between" ["value", "least", "most"] spBetween) : Body P w K mg base N_is_band "is_band" st_is_band 2 spIsBand := by
  intro f cdv A outer s H vs Q E hr h
  obtain ⟨a, lo, hi, rfl, ha, ⟨b1, b2, b3⟩, q⟩ := h
  have hs : SqT K H a [.int lo, .int hi] := SqT.of ha
  refine ⟨_, (pss_cons (ps_if (PW.pt (pw_or (pt_not (pt_val (pe_callB call_isi (by rfl) T.bisinstance (by decide +kernel) (pa_cons (pv 0) (pa_cons (pe_bltn (v := .ty "tuple") (u := .type "tuple") (by rfl) T.btuple (by decide +kernel) rfl) pa_nil))))) (pw_or1 (pt_cmpR op_ne (pe_callB call_len_seq (by rfl) T.blen PySem.boot_len (pa_cons (pv 0) pa_nil)) pe_int (nomark _))))) (pss_one (ps_ret pe_bl)) pss_nil)
      (pss_one (ps_ret (pe_and (pe_callF g_is_between hr (pa_cons (pe_ix ix_tup (pv 0) pe_int (fun _ _ => rfl)) (pa_cons (pe_un un_neg (pe_const T.iBAND)) (pa_cons (pe_const T.iBAND) pa_nil)))) (pe_one (pe_callF g_is_between hr (pa_cons (pe_ix ix_tup (pv 0) pe_int (fun _ _ => rfl)) (pa_cons (pe_ix ix_tup (pv 0) pe_int (fun _ _ => rfl)) (pa_cons (pe_const T.iBAND) pa_nil))))))))), ?_⟩
  refine ⟨_, rfl, _, _, _, _, true, rfl, .ty "tuple", .base (.tup ha), kit_ty (by decide +kernel), true, rfl, iteF ⟨_, rfl, _, _, rfl, .inr hs, rfl, _, rfl, iteIN (fun z => absurd rfl z) fun _ => ?_⟩⟩
  refine ⟨_, rfl, a, _, 0, _, rfl, rfl, hs, atI_nat (j := 0) rfl, 3, rfl, lo, -3, 3, rfl, ?_⟩
  rw [show decide (-3 ≤ lo ∧ lo ≤ 3) = true by simp at b1 b2 b3 ⊢; omega]
  refine ⟨true, rfl, iteT ⟨_, rfl, a, _, 1, _, rfl, rfl, hs, atI_nat (j := 1) rfl, _, rfl, a, _, 0, _, rfl, rfl, hs, atI_nat (j := 0) rfl, hi, lo, 3, rfl, ?_⟩⟩
  rw [show decide (lo ≤ hi ∧ hi ≤ 3) = true by simp at b1 b2 b3 ⊢; omega]
  exact q
def spCheckBand : Sp := fun vs H Q _ => ∃ a lo hi, vs = [.ref a] ∧ H a = some (.tup [.int lo, .int hi]) ∧ BandOk (lo, hi) ∧ Q .non H
abbrev N_check_band : List PySem.Str := ["band"]
theorem sc_check_band : FnScope N_check_band ["band"] (defScope st_check_band) := ⟨rfl, rfl, rfl, by decide +kernel, rfl, by decide +kernel, by decide +kernel⟩
theorem b_check_band (T : Txt K mg C W R) (g_is_band : Fn P w K mg base 3 "is_band" ["value"] spIsBand) : Body P w K mg base N_check_band "check_band" st_check_band 3 spCheckBand := by
  intro f cdv A outer s H vs Q E hr h
  obtain ⟨a, lo, hi, rfl, ha, b, q⟩ := h
  refine ⟨_, (pss_one (ps_if (pt_not (pt_val (pe_callF g_is_band hr (pa_cons (pv 0) pa_nil)))) (pss_one ps_never) pss_nil)), ?_⟩
  exact ⟨_, rfl, a, lo, hi, rfl, ha, b, true, rfl, iteF q⟩
def spMoves : Sp := fun vs H Q _ => ∃ a lo hi, vs = [.ref a] ∧ H a = some (.tup [.int lo, .int hi]) ∧ BandOk (lo, hi) ∧ ∀ p H', H p = none → Same H H' → H' p = some (.lst ((msN lo hi).map V.int)) → Q (.ref p) H'
abbrev N_moves_of : List PySem.Str := ["band"]
theorem sc_moves_of : FnScope N_moves_of ["band"] (defScope st_moves_of) := ⟨rfl, rfl, rfl, by decide +kernel, rfl, by decide +kernel, by decide +kernel⟩
theorem b_moves_of (T : Txt K mg C W R) : Body P w K mg base N_moves_of "moves_of" st_moves_of 0 spMoves := by
  intro f cdv A outer s H vs Q E hr h
  obtain ⟨a, lo, hi, rfl, ha, ⟨b1, b2, b3⟩, q⟩ := h
  have hs : SqT K H a [.int lo, .int hi] := SqT.of ha
  simp only at b1 b2 b3
  refine ⟨_, (pss_one (ps_ret (pe_listRg rfl (by rfl) T.blist (prg_2 (by rfl) T.brange (pe_ix ix_tup (pv 0) pe_int (fun _ _ => rfl)) (pe_op op_add (pe_ix ix_tup (pv 0) pe_int (fun _ _ => rfl)) pe_int))))), ?_⟩
  refine ⟨_, rfl, a, _, 0, _, rfl, rfl, hs, atI_nat (j := 0) rfl, _, rfl, a, _, 1, _, rfl, rfl, hs, atI_nat (j := 1) rfl, hi, 1, rfl, rfl, lo, hi + 1, rfl, rfl, ⟨by omega, by omega, by omega, by omega, by omega⟩, fun p np => ?_⟩
  refine q p _ np (same_new np) ?_
  rw [upd_same]
  simp only [msN, rgV, List.map_map]
  rfl
end
/-! ### clauses -/
def bN (t : Tm) (i : Int) : Int × Int :=
  if i = 0 then (1, 3) else if i = 1 then (1, t.every) else if i = 2 then (0, 5) else if i = 3 then (-20, 20) else if i = 4 then (t.low.getD (-20), 20) else if i = 5 then (0, if t.top = none then 0 else 6) else (-9, 9)
theorem opt_none {o : Option Int} : decide (optV o = .non) = decide (o = none) := by cases o <;> simp [optV]
section
variable {P : Program} {w : World} {K : PySem.W.Frag} {mg : PySem.Str → Option Value} {base : Heap} {C W R : Addr}
def spBounds : Sp := fun vs H Q _ => ∃ a t i, vs = [.ref a, .int i] ∧ H a = some (.tup (tmV t)) ∧ ∀ p H', H p = none → Same H H' → H' p = some (.tup [.int (bN t i).1, .int (bN t i).2]) → Q (.ref p) H'
abbrev N_bounds_of : List PySem.Str := ["parts", "index"]
theorem sc_bounds_of : FnScope N_bounds_of ["parts", "index"] (defScope st_bounds_of) := ⟨rfl, rfl, rfl, by decide +kernel, rfl, by decide +kernel, by decide +kernel⟩
theorem b_bounds_of (T : Txt K mg C W R) : Body P w K mg base N_bounds_of "bounds_of" st_bounds_of 0 spBounds := by
  intro f cdv A outer s H vs Q E hr h
  obtain ⟨a, t, i, rfl, ha, q⟩ := h
  have hs : SqT K H a (tmV t) := SqT.of ha
  have q' : ∀ x y, bN t i = (x, y) → ∀ p, H p = none → Q (.ref p) (upd H p (.tup [.int x, .int y])) := fun x y e p np => q p _ np (same_new np) (by rw [upd_same, e])
  refine ⟨_, (pss_cons (ps_if (pt_cmpR op_eq (pv 1) pe_int (nomark _)) (pss_one (ps_ret (pe_tup (pa_cons pe_int (pa_cons (pe_const T.iEVERY) pa_nil))))) pss_nil)
      (pss_cons (ps_if (pt_cmpR op_eq (pv 1) pe_int (nomark _)) (pss_one (ps_ret (pe_tup (pa_cons pe_int (pa_cons (pe_ix ix_tup (pv 0) pe_int (fun _ _ => rfl)) pa_nil))))) pss_nil)
      (pss_cons (ps_if (pt_cmpR op_eq (pv 1) pe_int (nomark _)) (pss_one (ps_ret (pe_tup (pa_cons pe_int (pa_cons (pe_const T.iRATE) pa_nil))))) pss_nil)
      (pss_cons (ps_if (pt_cmpR op_eq (pv 1) pe_int (nomark _)) (pss_one (ps_ret (pe_tup (pa_cons (pe_un un_neg (pe_const T.iBOUND)) (pa_cons (pe_const T.iBOUND) pa_nil))))) pss_nil)
      (pss_cons (ps_if (pt_cmpR op_eq (pv 1) pe_int (nomark _)) (pss_one (ps_ret (pe_tup (pa_cons (pe_ifExp (pt_cmpR op_isN (pe_ix ix_tup (pv 0) pe_int (fun _ _ => rfl)) pe_non (nomark _)) (pe_un un_neg (pe_const T.iBOUND)) (pe_ix ix_tup (pv 0) pe_int (fun _ _ => rfl))) (pa_cons (pe_const T.iBOUND) pa_nil))))) pss_nil)
      (pss_cons (ps_if (pt_cmpR op_eq (pv 1) pe_int (nomark _)) (pss_one (ps_ret (pe_tup (pa_cons pe_int (pa_cons (pe_ifExp (pt_cmpR op_isN (pe_ix ix_tup (pv 0) pe_int (fun _ _ => rfl)) pe_non (nomark _)) pe_int (pe_const T.iKEEP)) pa_nil))))) pss_nil)
      (pss_one (ps_ret (pe_tup (pa_cons (pe_un un_neg (pe_const T.iPLUS)) (pa_cons (pe_const T.iPLUS) pa_nil))))))))))), ?_⟩
  refine ⟨_, rfl, rfl, _, rfl, iteI (fun h0 => ⟨by show 2 ≤ sizeLine; decide, q' 1 3 (by simp [bN, h0])⟩) fun h0 => ?_⟩
  refine ⟨_, rfl, rfl, _, rfl, iteI (fun h1 => ⟨_, rfl, a, _, 0, _, rfl, rfl, hs, atI_nat (j := 0) rfl, by show 2 ≤ sizeLine; decide, q' 1 t.every (by simp [bN, h1])⟩) fun h1 => ?_⟩
  refine ⟨_, rfl, rfl, _, rfl, iteI (fun h2 => ⟨by show 2 ≤ sizeLine; decide, q' 0 5 (by simp [bN, h2])⟩) fun h2 => ?_⟩
  refine ⟨_, rfl, rfl, _, rfl, iteI (fun h3 => ⟨_, rfl, by show 2 ≤ sizeLine; decide, q' (-20) 20 (by simp [bN, h3])⟩) fun h3 => ?_⟩
  refine ⟨_, rfl, rfl, _, rfl, iteI (fun h4 => ?_) fun h4 => ?_⟩
  · refine ⟨_, rfl, a, _, 3, _, rfl, rfl, hs, atI_nat (j := 3) rfl, rfl, _, rfl, ?_⟩
    rw [opt_none]
    refine iteP (fun hl => ⟨_, rfl, by show 2 ≤ sizeLine; decide, q' (-20) 20 (by simp [bN, h4, hl])⟩) fun hl => ?_
    obtain ⟨x, hx⟩ : ∃ x, t.low = some x := Option.ne_none_iff_exists'.mp hl
    refine ⟨_, rfl, a, _, 3, .int x, rfl, rfl, hs, atI_nat (j := 3) (by rw [tmV, hx]; rfl), by show 2 ≤ sizeLine; decide, q' x 20 (by simp [bN, h4, hx])⟩
  refine ⟨_, rfl, rfl, _, rfl, iteI (fun h5 => ?_) fun h5 => ?_⟩
  · refine ⟨_, rfl, a, _, 4, _, rfl, rfl, hs, atI_nat (j := 4) rfl, rfl, _, rfl, ?_⟩
    rw [opt_none]
    exact iteP (fun hl => ⟨by show 2 ≤ sizeLine; decide, q' 0 0 (by simp [bN, h5, hl])⟩) fun hl => ⟨by show 2 ≤ sizeLine; decide, q' 0 6 (by simp [bN, h5, hl])⟩
  · exact ⟨_, rfl, by show 2 ≤ sizeLine; decide, q' (-9) 9 (by simp [bN, h0, h1, h2, h3, h4, h5])⟩
theorem part_cases {t : Tm} (ok : t.Ok) {i : Nat} (hi : i < 7) : ((i = 3 ∨ i = 4) ∧ (tmV t)[i]? = some .non) ∨ ∃ v, (tmV t)[i]? = some (.int v) ∧ (bN t i).1 ≤ v ∧ v ≤ (bN t i).2 := by
  have h1 := ok.every
  have h2 := ok.first
  have h3 := ok.rate
  have h4 := ok.keep
  have h5 := ok.plus
  have hc : i = 0 ∨ i = 1 ∨ i = 2 ∨ i = 3 ∨ i = 4 ∨ i = 5 ∨ i = 6 := by omega
  rcases hc with rfl | rfl | rfl | rfl | rfl | rfl | rfl
  · exact .inr ⟨t.every, rfl, h1.1, h1.2⟩
  · exact .inr ⟨t.first, rfl, h2.1, h2.2⟩
  · exact .inr ⟨t.rate, rfl, h3.1, h3.2⟩
  · cases e : t.low with
    | none => exact .inl ⟨.inl rfl, by rw [tmV, e]; rfl⟩
    | some x => exact .inr ⟨x, by rw [tmV, e]; rfl, (ok.low x e).1, (ok.low x e).2⟩
  · cases e : t.top with
    | none => exact .inl ⟨.inr rfl, by rw [tmV, e]; rfl⟩
    | some x => exact .inr ⟨x, by rw [tmV, e]; rfl, (ok.top x e).1, (ok.top x e).2⟩
  · refine .inr ⟨t.keep, rfl, h4.1, ?_⟩
    show t.keep ≤ if t.top = none then 0 else 6
    by_cases e : t.top = none
    · rw [if_pos e, ok.keep0 e]; decide
    · rw [if_neg e]; exact h4.2
  · exact .inr ⟨t.plus, rfl, h5.1, h5.2⟩
def spIsPart : Sp := fun vs H Q _ => ∃ a t, ∃ i : Nat, vs = [.ref a, .int i] ∧ H a = some (.tup (tmV t)) ∧ t.Ok ∧ i < 7 ∧ ∀ H', Same H H' → Q (.bl true) H'
abbrev N_is_part : List PySem.Str := ["parts", "index", "least", "most"]
theorem sc_is_part : FnScope N_is_part ["parts", "index"] (defScope st_is_part) := ⟨rfl, rfl, rfl, by decide +kernel, rfl, by decide +kernel, by decide +kernel⟩
theorem b_is_part (T : Txt K mg C W R) (g_bounds_of : Fn P w K mg base 1 "bounds_of" ["parts", "index"] spBounds) (g_is_between : Fn P w K mg base 2 "is_between" ["value", "least", "most"] spBetween) : Body P w K mg base N_is_part "is_part" st_is_part 2 spIsPart := by
  intro f cdv A outer s H vs Q E hr h
  obtain ⟨a, t, i, rfl, ha, ok, hi, q⟩ := h
  refine ⟨_, (pss_cons (ps_if (PW.pt (pw_and (pt_cmpR op_in_seq (pv 1) (pe_tup (pa_cons pe_int (pa_cons pe_int pa_nil))) (by rfl)) (pw_and1 (pt_cmpR op_isN (pe_ix ix_tup (pv 0) (pv 1) (fun _ _ => rfl)) pe_non (nomark _))))) (pss_one (ps_ret pe_bl)) pss_nil)
      (pss_cons (ps_asg (pe_callF g_bounds_of hr (pa_cons (pv 0) (pa_cons (pv 1) pa_nil))) (pg_tup rfl (pgs_cons (pg_name (i := 2) sc_is_part.nd rfl (Or.inl rfl)) (pgs_cons (pg_name (i := 3) sc_is_part.nd rfl (Or.inl rfl)) pgs_nil))))
      (pss_one (ps_ret (pe_callF g_is_between hr (pa_cons (pe_ix ix_tup (pv 0) (pv 1) (fun _ _ => rfl)) (pa_cons (pv 2) (pa_cons (pv 3) pa_nil)))))))), ?_⟩
  refine ⟨_, rfl, by show 2 ≤ sizeLine; decide, fun p np => ⟨p, _, rfl, .inr (SqT.of upd_same), rfl, rfl, _, rfl, ?_⟩⟩
  have s1 := same_new (o := .tup [.int 3, .int 4]) np
  have ha1 := s1 _ _ ha
  have hs1 : SqT K _ a (tmV t) := SqT.of ha1
  rcases part_cases ok hi with ⟨hj, hv⟩ | ⟨v, hv, b1, b2⟩
  · have e : inV (.int (i : Int)) [.int 3, .int 4] = true := by rcases hj with rfl | rfl <;> rfl
    show if inV (.int (i : Int)) [.int 3, .int 4] = true then _ else _
    rw [e]
    exact iteT ⟨_, rfl, _, rfl, a, _, _, _, rfl, rfl, hs1, atI_nat hv, rfl, _, rfl, iteT (q _ s1)⟩
  · refine iteE (fun _ => ⟨_, rfl, _, rfl, a, _, _, _, rfl, rfl, hs1, atI_nat hv, rfl, _, rfl, iteF ?_⟩) fun _ => iteF ?_
    all_goals
      refine ⟨_, rfl, _, rfl, a, t, (i : Int), rfl, ha1, fun r H2 nr s2 e2 => ⟨r, _, rfl, SqT.of e2, rfl, _, _, rfl, _, _, rfl, rfl, ?_⟩⟩
      refine ⟨_, rfl, _, rfl, a, _, _, _, rfl, rfl, SqT.of (s2 _ _ ha1), atI_nat hv, _, rfl, _, rfl, v, _, _, rfl, ?_⟩
      rw [decide_eq_true ⟨b1, b2⟩]
      exact q _ (s1.trans s2)
def spCInit (C : Addr) : Sp := fun vs H Q _ => ∃ p dx t, vs = .ref p :: tmV t ∧ H p = some (.ins C dx []) ∧ t.Ok ∧ ∀ tp H', (∀ b o, b ≠ p → H b = some o → H' b = some o) → H' p = some (.ins C dx [("parts", .ref tp)]) → H tp = none → H' tp = some (.tup (tmV t)) → Q .non H'
abbrev N_Clause_init : List PySem.Str := ["self", "every", "first", "rate", "floor", "ceiling", "keep", "plus", "index", "value"]
theorem sc_Clause_init : FnScope N_Clause_init ["self", "every", "first", "rate", "floor", "ceiling", "keep", "plus"] (defScope st_Clause_init) := ⟨rfl, rfl, rfl, by decide +kernel, rfl, by decide +kernel, by decide +kernel⟩
theorem b_Clause_init (T : Txt K mg C W R) (g_is_part : Fn P w K mg base 3 "is_part" ["parts", "index"] spIsPart) : Body P w K mg base N_Clause_init "Clause.__init__" st_Clause_init 3 (spCInit C) := by
  intro f cdv A outer s H vs Q E hr h
  obtain ⟨p, dx, t, rfl, hp, ok, q⟩ := h
  refine ⟨_, (pss_cons (ps_fld (pv 0) (pe_tup (pa_cons (pv 1) (pa_cons (pv 2) (pa_cons (pv 3) (pa_cons (pv 4) (pa_cons (pv 5) (pa_cons (pv 6) (pa_cons (pv 7) pa_nil)))))))) rfl)
      (pss_one (ps_for PassesOwn.never rfl (pi_enumT (by rfl) T.benumerate (pa_cons (pe_fld (pv 0) rfl) pa_nil)) (pg_tup rfl (pgs_cons (pg_name (i := 8) sc_Clause_init.nd rfl (Or.inl rfl)) (pgs_cons (pg_name (i := 9) sc_Clause_init.nd rfl (Or.inl rfl)) pgs_nil)))
      (pss_one (ps_if (pt_not (pt_val (pe_callF g_is_part hr (pa_cons (pe_fld (pv 0) rfl) (pa_cons (pv 8) pa_nil))))) (pss_one ps_never) pss_nil))))), ?_⟩
  refine ⟨_, rfl, _, rfl, _, rfl, _, rfl, _, rfl, _, rfl, _, rfl, by show 7 ≤ sizeLine; decide, fun tp nt => ?_⟩
  have s1 := same_new (o := .tup (tmV t)) nt
  have ntp : tp ≠ p := fun z => by rw [z, hp] at nt; cases nt
  refine ⟨_, rfl, p, C, dx, _, rfl, s1 _ _ hp, T.clC, T.nParts, by show 0 < 1000; decide, ?_⟩
  have eP : (upd (upd H tp (.tup (tmV t))) p (.ins C dx (putF "parts" (.ref tp) []))) p = some (.ins C dx [("parts", .ref tp)]) := upd_same
  have eT : (upd (upd H tp (.tup (tmV t))) p (.ins C dx (putF "parts" (.ref tp) []))) tp = some (.tup (tmV t)) := by rw [upd_ne ntp, upd_same]
  have keep : ∀ b o, b ≠ p → H b = some o → (upd (upd H tp (.tup (tmV t))) p (.ins C dx (putF "parts" (.ref tp) []))) b = some o := fun b o hb e => by rw [upd_ne hb]; exact s1 b o e
  refine ⟨_, rfl, p, C, dx, _, _, rfl, eP, T.clC, T.nParts, rfl, tp, tmV t, rfl, SqT.of eT, for_it walk_enumT (fun i σ H' => ∃ y8 y9, σ = [some (.ref p), some (.int t.every), some (.int t.first), some (.int t.rate), some (optV t.low), some (optV t.top), some (.int t.keep), some (.int t.plus), y8, y9] ∧ Same (upd (upd H tp (.tup (tmV t))) p (.ins C dx (putF "parts" (.ref tp) []))) H')
    ⟨_, _, rfl, .refl _⟩ (fun i σ H' _ ⟨_, _, _, s⟩ => SqT.of (s _ _ eT)) ?_ ?_⟩
  · rintro i x σ H3 H4 hi ⟨y8, y9, rfl, s⟩ ⟨T1, x1, x2, rfl, nT, rfl, f1, f2⟩
    cases f1
    have s3 := s.trans (same_new (o := .tup [.int (i : Nat), x2]) nT)
    refine ⟨T1, _, rfl, SqT.of upd_same, rfl, _, _, rfl, _, _, rfl, rfl, ?_⟩
    refine ⟨_, rfl, p, C, dx, _, _, rfl, s3 _ _ eP, T.clC, T.nParts, rfl, _, rfl, tp, t, i, rfl, s3 _ _ eT, ok, hi, fun H5 s5 => ⟨true, rfl, iteF ?_⟩⟩
    exact ⟨_, _, rfl, s3.trans s5⟩
  · rintro σ H3 ⟨y8, y9, rfl, s⟩
    exact q tp H3 (fun b o hb e => s _ _ (keep b o hb e)) (s _ _ eP) nt (s _ _ eT)
/-! the parts of a clause by their names -/
def spProp (C : Addr) (f : Tm → V) : Sp := fun vs H Q _ => ∃ a dx tp t, vs = [.ref a] ∧ H a = some (.ins C dx [("parts", .ref tp)]) ∧ H tp = some (.tup (tmV t)) ∧ Q (f t) H
abbrev N_Clause_every : List PySem.Str := ["self"]
theorem sc_Clause_every : FnScope N_Clause_every ["self"] (defScope st_Clause_every) := ⟨rfl, rfl, rfl, by decide +kernel, rfl, by decide +kernel, by decide +kernel⟩
theorem b_Clause_every (T : Txt K mg C W R) : Body P w K mg base N_Clause_every "Clause.every" st_Clause_every 0 (spProp C fun t => .int t.every) := by
  intro f cdv A outer s H vs Q E hr h
  obtain ⟨a, dx, tp, t, rfl, ha, ht, q⟩ := h
  refine ⟨_, (pss_one (ps_ret (pe_ix ix_tup (pe_fld (pv 0) rfl) pe_int (fun _ _ => rfl)))), ?_⟩
  exact ⟨_, rfl, a, C, dx, _, _, rfl, ha, T.clC, T.nParts, rfl, tp, _, _, _, rfl, rfl, SqT.of ht, atI_nat (j := 0) rfl, q⟩
abbrev N_Clause_rate : List PySem.Str := ["self"]
theorem sc_Clause_rate : FnScope N_Clause_rate ["self"] (defScope st_Clause_rate) := ⟨rfl, rfl, rfl, by decide +kernel, rfl, by decide +kernel, by decide +kernel⟩
theorem b_Clause_rate (T : Txt K mg C W R) : Body P w K mg base N_Clause_rate "Clause.rate" st_Clause_rate 0 (spProp C fun t => .int t.rate) := by
  intro f cdv A outer s H vs Q E hr h
  obtain ⟨a, dx, tp, t, rfl, ha, ht, q⟩ := h
  refine ⟨_, (pss_one (ps_ret (pe_ix ix_tup (pe_fld (pv 0) rfl) pe_int (fun _ _ => rfl)))), ?_⟩
  exact ⟨_, rfl, a, C, dx, _, _, rfl, ha, T.clC, T.nParts, rfl, tp, _, _, _, rfl, rfl, SqT.of ht, atI_nat (j := 2) rfl, q⟩
abbrev N_Clause_floor : List PySem.Str := ["self"]
theorem sc_Clause_floor : FnScope N_Clause_floor ["self"] (defScope st_Clause_floor) := ⟨rfl, rfl, rfl, by decide +kernel, rfl, by decide +kernel, by decide +kernel⟩
theorem b_Clause_floor (T : Txt K mg C W R) : Body P w K mg base N_Clause_floor "Clause.floor" st_Clause_floor 0 (spProp C fun t => optV t.low) := by
  intro f cdv A outer s H vs Q E hr h
  obtain ⟨a, dx, tp, t, rfl, ha, ht, q⟩ := h
  refine ⟨_, (pss_one (ps_ret (pe_ix ix_tup (pe_fld (pv 0) rfl) pe_int (fun _ _ => rfl)))), ?_⟩
  exact ⟨_, rfl, a, C, dx, _, _, rfl, ha, T.clC, T.nParts, rfl, tp, _, _, _, rfl, rfl, SqT.of ht, atI_nat (j := 3) rfl, q⟩
abbrev N_Clause_ceiling : List PySem.Str := ["self"]
theorem sc_Clause_ceiling : FnScope N_Clause_ceiling ["self"] (defScope st_Clause_ceiling) := ⟨rfl, rfl, rfl, by decide +kernel, rfl, by decide +kernel, by decide +kernel⟩
theorem b_Clause_ceiling (T : Txt K mg C W R) : Body P w K mg base N_Clause_ceiling "Clause.ceiling" st_Clause_ceiling 0 (spProp C fun t => optV t.top) := by
  intro f cdv A outer s H vs Q E hr h
  obtain ⟨a, dx, tp, t, rfl, ha, ht, q⟩ := h
  refine ⟨_, (pss_one (ps_ret (pe_ix ix_tup (pe_fld (pv 0) rfl) pe_int (fun _ _ => rfl)))), ?_⟩
  exact ⟨_, rfl, a, C, dx, _, _, rfl, ha, T.clC, T.nParts, rfl, tp, _, _, _, rfl, rfl, SqT.of ht, atI_nat (j := 4) rfl, q⟩
abbrev N_Clause_keep : List PySem.Str := ["self"]
theorem sc_Clause_keep : FnScope N_Clause_keep ["self"] (defScope st_Clause_keep) := ⟨rfl, rfl, rfl, by decide +kernel, rfl, by decide +kernel, by decide +kernel⟩
theorem b_Clause_keep (T : Txt K mg C W R) : Body P w K mg base N_Clause_keep "Clause.keep" st_Clause_keep 0 (spProp C fun t => .int t.keep) := by
  intro f cdv A outer s H vs Q E hr h
  obtain ⟨a, dx, tp, t, rfl, ha, ht, q⟩ := h
  refine ⟨_, (pss_one (ps_ret (pe_ix ix_tup (pe_fld (pv 0) rfl) pe_int (fun _ _ => rfl)))), ?_⟩
  exact ⟨_, rfl, a, C, dx, _, _, rfl, ha, T.clC, T.nParts, rfl, tp, _, _, _, rfl, rfl, SqT.of ht, atI_nat (j := 5) rfl, q⟩
abbrev N_Clause_plus : List PySem.Str := ["self"]
theorem sc_Clause_plus : FnScope N_Clause_plus ["self"] (defScope st_Clause_plus) := ⟨rfl, rfl, rfl, by decide +kernel, rfl, by decide +kernel, by decide +kernel⟩
theorem b_Clause_plus (T : Txt K mg C W R) : Body P w K mg base N_Clause_plus "Clause.plus" st_Clause_plus 0 (spProp C fun t => .int t.plus) := by
  intro f cdv A outer s H vs Q E hr h
  obtain ⟨a, dx, tp, t, rfl, ha, ht, q⟩ := h
  refine ⟨_, (pss_one (ps_ret (pe_ix ix_tup (pe_fld (pv 0) rfl) pe_int (fun _ _ => rfl)))), ?_⟩
  exact ⟨_, rfl, a, C, dx, _, _, rfl, ha, T.clC, T.nParts, rfl, tp, _, _, _, rfl, rfl, SqT.of ht, atI_nat (j := 6) rfl, q⟩
def spBegun (C : Addr) : Sp := fun vs H Q _ => ∃ a dx tp t, vs = [.ref a] ∧ H a = some (.ins C dx [("parts", .ref tp)]) ∧ H tp = some (.tup (tmV t)) ∧ ∀ p H', H p = none → Same H H' → H' p = some (.tup (sdV (begN t))) → Q (.ref p) H'
abbrev N_Clause_begun : List PySem.Str := ["self"]
theorem sc_Clause_begun : FnScope N_Clause_begun ["self"] (defScope st_Clause_begun) := ⟨rfl, rfl, rfl, by decide +kernel, rfl, by decide +kernel, by decide +kernel⟩
theorem b_Clause_begun (T : Txt K mg C W R) : Body P w K mg base N_Clause_begun "Clause.begun" st_Clause_begun 0 (spBegun C) := by
  intro f cdv A outer s H vs Q E hr h
  obtain ⟨a, dx, tp, t, rfl, ha, ht, q⟩ := h
  refine ⟨_, (pss_one (ps_ret (pe_tup (pa_cons (pe_ix ix_tup (pe_fld (pv 0) rfl) pe_int (fun _ _ => rfl)) (pa_cons pe_int (pa_cons pe_int pa_nil)))))), ?_⟩
  exact ⟨_, rfl, a, C, dx, _, _, rfl, ha, T.clC, T.nParts, rfl, tp, _, _, _, rfl, rfl, SqT.of ht, atI_nat (j := 1) rfl, by show 3 ≤ sizeLine; decide, fun p np => q p _ np (same_new np) upd_same⟩
/-- what the properties are called by -/
structure Props (P : Program) (w : World) (K : PySem.W.Frag) (mg : PySem.Str → Option Value) (base : Heap) (C : Addr) : Prop where
  every : FnP P w K mg base 1 C "every" (spProp C fun t => .int t.every)
  rate : FnP P w K mg base 1 C "rate" (spProp C fun t => .int t.rate)
  floor : FnP P w K mg base 1 C "floor" (spProp C fun t => optV t.low)
  ceiling : FnP P w K mg base 1 C "ceiling" (spProp C fun t => optV t.top)
  keep : FnP P w K mg base 1 C "keep" (spProp C fun t => .int t.keep)
  plus : FnP P w K mg base 1 C "plus" (spProp C fun t => .int t.plus)
  begun : FnP P w K mg base 1 C "begun" (spBegun C)
def spRaise (C : Addr) : Sp := fun vs H Q _ => ∃ a dx tp t n, vs = [.ref a, .int n] ∧ H a = some (.ins C dx [("parts", .ref tp)]) ∧ H tp = some (.tup (tmV t)) ∧ Q (.int (raiseN t n)) H
abbrev N_raise_of : List PySem.Str := ["clause", "wanted"]
theorem sc_raise_of : FnScope N_raise_of ["clause", "wanted"] (defScope st_raise_of) := ⟨rfl, rfl, rfl, by decide +kernel, rfl, by decide +kernel, by decide +kernel⟩
theorem b_raise_of (T : Txt K mg C W R) (p : Props P w K mg base C) : Body P w K mg base N_raise_of "raise_of" st_raise_of 2 (spRaise C) := by
  intro f cdv A outer s H vs Q E hr h
  obtain ⟨a, dx, tp, t, n, rfl, ha, ht, q⟩ := h
  refine ⟨_, (pss_cons (ps_if (PW.pt (pw_and (pt_cmpR op_notN (pe_propF p.ceiling T.clC hr (pv 0)) pe_non (nomark _)) (pw_and1 (pt_cmpR op_gt (pv 1) (pe_propF p.ceiling T.clC hr (pv 0)) (nomark _))))) (pss_one (ps_ret (pe_propF p.ceiling T.clC hr (pv 0)))) pss_nil)
      (pss_cons (ps_if (PW.pt (pw_and (pt_cmpR op_notN (pe_propF p.floor T.clC hr (pv 0)) pe_non (nomark _)) (pw_and1 (pt_cmpR op_lt (pv 1) (pe_propF p.floor T.clC hr (pv 0)) (nomark _))))) (pss_one (ps_ret (pe_propF p.floor T.clC hr (pv 0)))) pss_nil)
      (pss_one (ps_ret (pv 1))))), ?_⟩
  refine ⟨_, rfl, a, dx, _, rfl, ha, a, dx, tp, t, rfl, ha, ht, rfl, _, rfl, ?_⟩
  rw [opt_none]
  cases e1 : t.top with
  | none =>
    refine iteF (iteF ?_)
    refine ⟨_, rfl, a, dx, _, rfl, ha, a, dx, tp, t, rfl, ha, ht, rfl, _, rfl, ?_⟩
    rw [opt_none]
    cases e2 : t.low with
    | none =>
      refine iteF (iteF ⟨_, rfl, ?_⟩)
      have e : raiseN t n = n := by simp [raiseN, e1, e2]
      rw [e] at q
      exact q
    | some fl =>
      refine iteT ⟨_, rfl, _, rfl, a, dx, _, rfl, ha, a, dx, tp, t, rfl, ha, ht, n, fl, rfl, congrArg optV e2, _, rfl, iteP (fun h => ?_) fun h => ?_⟩
      · refine ⟨_, rfl, a, dx, _, rfl, ha, a, dx, tp, t, rfl, ha, ht, ?_⟩
        have e : raiseN t n = fl := by simp [raiseN, e1, e2, h]
        rw [e] at q
        show Q (optV t.low) H
        rw [e2]
        exact q
      · have e : raiseN t n = n := by simp [raiseN, e1, e2, h]
        rw [e] at q
        exact ⟨_, rfl, q⟩
  | some c =>
    refine iteT ⟨_, rfl, _, rfl, a, dx, _, rfl, ha, a, dx, tp, t, rfl, ha, ht, n, c, rfl, congrArg optV e1, _, rfl, iteP (fun h => ?_) fun h => ?_⟩
    · refine ⟨_, rfl, a, dx, _, rfl, ha, a, dx, tp, t, rfl, ha, ht, ?_⟩
      have e : raiseN t n = c := by simp [raiseN, e1, h]
      rw [e] at q
      show Q (optV t.top) H
      rw [e1]
      exact q
    refine ⟨_, rfl, a, dx, _, rfl, ha, a, dx, tp, t, rfl, ha, ht, rfl, _, rfl, ?_⟩
    rw [opt_none]
    cases e2 : t.low with
    | none =>
      refine iteF (iteF ⟨_, rfl, ?_⟩)
      have e : raiseN t n = n := by simp [raiseN, e1, e2, h]
      rw [e] at q
      exact q
    | some fl =>
      refine iteT ⟨_, rfl, _, rfl, a, dx, _, rfl, ha, a, dx, tp, t, rfl, ha, ht, n, fl, rfl, congrArg optV e2, _, rfl, iteP (fun h3 => ?_) fun h3 => ?_⟩
      · refine ⟨_, rfl, a, dx, _, rfl, ha, a, dx, tp, t, rfl, ha, ht, ?_⟩
        have e : raiseN t n = fl := by simp [raiseN, e1, e2, h, h3]
        rw [e] at q
        show Q (optV t.low) H
        rw [e2]
        exact q
      · have e : raiseN t n = n := by simp [raiseN, e1, e2, h, h3]
        rw [e] at q
        exact ⟨_, rfl, q⟩
def spBehind (C : Addr) : Sp := fun vs H Q _ => ∃ B cv sv t s m, vs = [cv, sv, .int m] ∧ Same B H ∧ IsCl C B cv t ∧ IsSd B sv s ∧ t.Ok ∧ ∀ v B' H', Ext none B H B' H' → IsP IsSd IsI B' v (onN t s m) → Q v H'
abbrev N_behind : List PySem.Str := ["clause", "standing", "move", "left", "points", "kept", "wanted", "rise"]
theorem sc_behind : FnScope N_behind ["clause", "standing", "move"] (defScope st_behind) := ⟨rfl, rfl, rfl, by decide +kernel, rfl, by decide +kernel, by decide +kernel⟩
theorem b_behind (T : Txt K mg C W R) (p : Props P w K mg base C) (g_raise_of : Fn P w K mg base 3 "raise_of" ["clause", "wanted"] (spRaise C)) : Body P w K mg base N_behind "behind" st_behind 3 (spBehind C) := by
  intro f cdv A outer s H vs Q E hr h
  obtain ⟨B, cv, sv, t, ⟨l, pt, kp⟩, m, rfl, sB, ⟨a, dx, tp, rfl, ha, ht⟩, ⟨b, rfl, hb⟩, ok, q⟩ := h
  have hA := sB _ _ ha
  have hT := sB _ _ ht
  refine ⟨_, (pss_cons (ps_asg (pv 1) (pg_tup rfl (pgs_cons (pg_name (i := 3) sc_behind.nd rfl (Or.inl rfl)) (pgs_cons (pg_name (i := 4) sc_behind.nd rfl (Or.inl rfl)) (pgs_cons (pg_name (i := 5) sc_behind.nd rfl (Or.inl rfl)) pgs_nil)))))
      (pss_cons (ps_set (i := 4) sc_behind.nd rfl (Or.inl rfl) (pe_op op_add (pv 4) (pv 2)))
      (pss_cons (ps_if (pt_cmpR op_gt (pv 3) pe_int (nomark _)) (pss_one (ps_ret (pe_tup (pa_cons (pe_tup (pa_cons (pe_op op_sub (pv 3) pe_int) (pa_cons (pv 4) (pa_cons (pv 5) pa_nil)))) (pa_cons pe_int pa_nil))))) pss_nil)
      (pss_cons (ps_set (i := 6) sc_behind.nd rfl (Or.inl rfl) (pe_op op_add (pe_op op_mul (pe_propF p.rate T.clC hr (pv 0)) (pv 4)) (pv 5)))
      (pss_cons (ps_set (i := 7) sc_behind.nd rfl (Or.inl rfl) (pe_callF g_raise_of hr (pa_cons (pv 0) (pa_cons (pv 6) pa_nil))))
      (pss_one (ps_ret (pe_tup (pa_cons (pe_tup (pa_cons (pe_propF p.every T.clC hr (pv 0)) (pa_cons pe_int (pa_cons (pe_callB (call_min2 rfl) (by rfl) T.bmin (by decide +kernel) (pa_cons (pe_propF p.keep T.clC hr (pv 0)) (pa_cons (pe_callB (call_max2 rfl) (by rfl) T.bmax (by decide +kernel) (pa_cons pe_int (pa_cons (pe_op op_sub (pv 6) (pv 7)) pa_nil))) pa_nil))) pa_nil)))) (pa_cons (pe_op op_add (pv 7) (pe_propF p.plus T.clC hr (pv 0))) pa_nil)))))))))), ?_⟩
  refine ⟨_, rfl, b, _, rfl, SqT.of (sB _ _ hb), rfl, _, _, rfl, _, _, rfl, _, _, rfl, rfl, ?_⟩
  refine ⟨_, rfl, _, rfl, pt, m, rfl, rfl, _, rfl, l, 1, rfl, rfl, _, rfl, iteP (fun hl => ?_) fun hl => ?_⟩
  · refine ⟨_, rfl, l, 1, rfl, rfl, _, rfl, _, rfl, by show 3 ≤ sizeLine; decide, fun p1 n1 => ⟨by show 2 ≤ sizeLine; decide, fun p2 n2 => ?_⟩⟩
    have e : onN t (l, pt, kp) m = ((l - 1, pt + m, kp), 0) := by simp only [onN]; rw [if_pos hl]
    rw [e] at q
    obtain ⟨B1, Y1, e1⟩ := ext_upd (o := .tup [.int (l - 1), .int (pt + m), .int kp]) sB n1
    obtain ⟨B2, Y2, e2⟩ := ext_upd (o := .tup [.ref p1, .int 0]) Y1.in_ n2
    exact q _ B2 _ (Y1.trans Y2) ⟨p2, .ref p1, .int 0, rfl, e2, ⟨p1, rfl, Y2.gh _ _ e1⟩, rfl⟩
  · have hrate := ok.rate
    refine ⟨_, rfl, a, dx, _, rfl, hA, a, dx, tp, t, rfl, hA, hT, _, rfl, t.rate, pt + m, rfl, rfl, .inl ⟨by omega, by omega⟩, _, rfl, _, kp, rfl, rfl, ?_⟩
    refine ⟨_, rfl, _, rfl, a, dx, tp, t, _, rfl, hA, hT, ?_⟩
    refine ⟨_, rfl, a, dx, _, rfl, hA, a, dx, tp, t, rfl, hA, hT, _, rfl, a, dx, _, rfl, hA, a, dx, tp, t, rfl, hA, hT, _, rfl, _, rfl, _, _, rfl, rfl, 0, _, rfl, t.keep, _, rfl, by show 3 ≤ sizeLine; decide, fun p1 n1 => ?_⟩
    obtain ⟨B1, Y1, e1⟩ := ext_upd (o := .tup (sdV (onN t (l, pt, kp) m).1)) sB n1
    have eq1 : (onN t (l, pt, kp) m).1 = (t.every, 0, min2 t.keep (max2 0 (t.rate * (pt + m) + kp - raiseN t (t.rate * (pt + m) + kp)))) := by simp only [onN]; rw [if_neg hl]
    have eq2 : (onN t (l, pt, kp) m).2 = raiseN t (t.rate * (pt + m) + kp) + t.plus := by simp only [onN]; rw [if_neg hl]
    rw [eq1] at Y1 e1
    have hA1 := Y1.in_ _ _ (Y1.gh _ _ ha)
    have hT1 := Y1.in_ _ _ (Y1.gh _ _ ht)
    refine ⟨_, rfl, _, rfl, a, dx, _, rfl, hA1, a, dx, tp, t, rfl, hA1, hT1, _, t.plus, rfl, rfl, by show 2 ≤ sizeLine; decide, fun p2 n2 => ?_⟩
    obtain ⟨B2, Y2, e2⟩ := ext_upd (o := .tup [.ref p1, .int (raiseN t (t.rate * (pt + m) + kp) + t.plus)]) Y1.in_ n2
    refine q _ B2 _ (Y1.trans Y2) ⟨p2, .ref p1, _, rfl, e2, ⟨p1, rfl, ?_⟩, congrArg V.int eq2.symm⟩
    rw [eq1]
    exact Y2.gh _ _ e1
end
end PB

/-! rows -/
namespace PB
open PySem PySem.Spec PyProof.Rows L2
def rowF (rv sv : V) : List (PySem.Str × V) := [("row", rv), ("signs", sv)]
def IsRow (C R : Addr) : Rel (List Tm × List Int) := fun B v x => ∃ a dx rv sv, v = .ref a ∧ B a = some (.ins R dx (rowF rv sv)) ∧ IsT (IsCl C) B rv x.1 ∧ IsL IsI B sv x.2
theorem mono_Row {C R : Addr} : Mono (IsRow C R) := ⟨fun s ⟨a, dx, rv, sv, e, h, p, q⟩ => ⟨a, dx, rv, sv, e, s _ _ h, (mono_T mono_Cl).up s p, (mono_L mono_I).up s q⟩⟩
theorem mul_sum : ∀ xs ys : List Int, (List.zipWith (fun a b => a * b) xs ys).sum = (List.zipWith (fun a b => a * b) ys xs).sum
  | [], ys => by simp
  | x :: xs, [] => by simp
  | x :: xs, y :: ys => by rw [List.zipWith_cons_cons, List.zipWith_cons_cons, List.sum_cons, List.sum_cons, mul_sum xs ys, Int.mul_comm]
section
variable {P : Program} {w : World} {K : PySem.W.Frag} {mg : PySem.Str → Option Value} {base : Heap} {C W R : Addr}
def spRInit (R : Addr) : Sp := fun vs H Q _ => ∃ p dx rv sv, vs = [.ref p, rv, sv] ∧ H p = some (.ins R dx []) ∧ ∀ H', (∀ b o, b ≠ p → H b = some o → H' b = some o) → H' p = some (.ins R dx (rowF rv sv)) → Q .non H'
abbrev N_Row_init : List PySem.Str := ["self", "row", "signs"]
theorem sc_Row_init : FnScope N_Row_init ["self", "row", "signs"] (defScope st_Row_init) := ⟨rfl, rfl, rfl, by decide +kernel, rfl, by decide +kernel, by decide +kernel⟩
theorem b_Row_init (T : Txt K mg C W R) : Body P w K mg base N_Row_init "Row.__init__" st_Row_init 0 (spRInit R) := by
  intro f cdv A outer s H vs Q E hr h
  obtain ⟨p, dx, rv, sv, rfl, hp, q⟩ := h
  refine ⟨_, (pss_cons (ps_fld (pv 0) (pv 1) rfl)
      (pss_one (ps_fld (pv 0) (pv 2) rfl))), ?_⟩
  refine ⟨_, rfl, _, rfl, p, R, dx, _, rfl, hp, T.clR, T.nRow, by show 0 < 1000; decide, ?_⟩
  refine ⟨_, rfl, _, rfl, p, R, dx, _, rfl, upd_same, T.clR, T.nSigns, by show 1 < 1000; decide, ?_⟩
  refine q _ (fun b o hb e => by rw [upd_ne hb, upd_ne hb]; exact e) ?_
  rw [upd_same]
  have e : putF "signs" sv (putF "row" rv []) = rowF rv sv := by
    show (if ("row" : PySem.Str) = "signs" then _ else (("row" : PySem.Str), rv) :: putF "signs" sv []) = _
    rw [if_neg (by decide +kernel)]
    rfl
  rw [e]
def spAfter (C R : Addr) : Sp := fun vs H Q _ => ∃ B r nv row signs ss m, vs = [r, nv, .int m] ∧ Same B H ∧ IsRow C R B r (row, signs) ∧ IsSds B nv ss ∧ ss.length = row.length ∧ signs.length = row.length ∧ row.length ≤ 6 ∧ (∀ t ∈ row, t.Ok) ∧ (∀ x ∈ signs, x = 1 ∨ x = -1) ∧
  ∀ v B' H', Ext none B H B' H' → IsP IsSds IsI B' v (stepN row ss m, gainN row signs ss m) → Q v H'
abbrev N_Row_after : List PySem.Str := ["self", "node", "move", "pairs", "gain", "clause", "standing", "sign", "later", "rise"]
theorem sc_Row_after : FnScope N_Row_after ["self", "node", "move"] (defScope st_Row_after) := ⟨rfl, rfl, rfl, by decide +kernel, rfl, by decide +kernel, by decide +kernel⟩
theorem b_Row_after (T : Txt K mg C W R) (g_behind : Fn P w K mg base 4 "behind" ["clause", "standing", "move"] (spBehind C)) : Body P w K mg base N_Row_after "Row.after" st_Row_after 4 (spAfter C R) := by
  intro f cdv A outer s H vs Q E hr h
  obtain ⟨B, r, nv, row, signs, ss, m, rfl, sB, ⟨ra, rdx, rv, sv, rfl, hra, ⟨ta, tvs, rfl, hta, ptv⟩, ⟨ga, gvs, rfl, hga, pgv⟩⟩, ⟨na, nvs, rfl, hna, pnv⟩, l1, l2, l3, ok, sg, q⟩ := h
  have lt : tvs.length = row.length := Paired.length ptv
  have ln : nvs.length = ss.length := Paired.length pnv
  have lg : gvs.length = signs.length := Paired.length pgv
  refine ⟨_, (pss_cons (ps_setLc (i := 3) (own := [("clause", 5), ("standing", 6)]) (g := gTup K 2 (gCons (gName 5) (gCons (gName 6) gNil))) rfl sc_Row_after.nd rfl rfl (sw_true rfl rfl rfl (by decide +kernel)) (pi_zipK false false (by rfl) T.bzip (pa_cons (pe_fld (pv 0) rfl) (pa_cons (pv 1) pa_nil))) (blkOk_by (own := [("clause", 5), ("standing", 6)]) (N := N_Row_after) (sc := defScope st_Row_after) (by decide +kernel)) (fun _ _ _ _ _ => (pg_tup rfl (pgs_cons (pg_name (i := 5) sc_Row_after.nd rfl (Or.inl rfl)) (pgs_cons (pg_name (i := 6) sc_Row_after.nd rfl (Or.inl rfl)) pgs_nil)))) (fun _ _ _ _ _ => pts_nil) (fun _ _ _ _ _ => (pe_callF g_behind hr (pa_cons (pv 5) (pa_cons (pv 6) (pa_cons (pv 2) pa_nil))))))
      (pss_cons (ps_set (i := 4) sc_Row_after.nd rfl (Or.inl rfl) (pe_callB (cr_sum rfl) (by rfl) T.bsum (by decide +kernel) (pa_cons (pe_lc (own := [("sign", 7), ("later", 8), ("rise", 9)]) (g := gTup K 2 (gCons (gTup K 2 (gCons (gName 8) (gCons (gName 9) gNil))) (gCons (gName 7) gNil))) rfl sc_Row_after.nd (pi_zipK true true (by rfl) T.bzip (pa_cons (pv 3) (pa_cons (pe_fld (pv 0) rfl) pa_nil))) (blkOk_by (own := [("sign", 7), ("later", 8), ("rise", 9)]) (N := N_Row_after) (sc := defScope st_Row_after) (by decide +kernel)) (fun _ _ _ _ _ => (pg_tup rfl (pgs_cons (pg_tup rfl (pgs_cons (pg_name (i := 8) sc_Row_after.nd rfl (Or.inl rfl)) (pgs_cons (pg_name (i := 9) sc_Row_after.nd rfl (Or.inl rfl)) pgs_nil))) (pgs_cons (pg_name (i := 7) sc_Row_after.nd rfl (Or.inl rfl)) pgs_nil)))) (fun _ _ _ _ _ => pts_nil) (fun _ _ _ _ _ => (pe_op op_mul (pv 9) (pv 7)))) pa_nil)))
      (pss_one (ps_ret (pe_tup (pa_cons (pe_callTy call_tuple_of (by rfl) T.btuple (by decide +kernel) (pa_cons (pe_lc (own := [("later", 8), ("rise", 9)]) (g := gTup K 2 (gCons (gName 8) (gCons (gName 9) gNil))) rfl sc_Row_after.nd (pi_list (pv 3)) (blkOk_by (own := [("later", 8), ("rise", 9)]) (N := N_Row_after) (sc := defScope st_Row_after) (by decide +kernel)) (fun _ _ _ _ _ => (pg_tup rfl (pgs_cons (pg_name (i := 8) sc_Row_after.nd rfl (Or.inl rfl)) (pgs_cons (pg_name (i := 9) sc_Row_after.nd rfl (Or.inl rfl)) pgs_nil)))) (fun _ _ _ _ _ => pts_nil) (fun _ _ _ _ _ => (pv 8))) pa_nil)) (pa_cons (pv 4) pa_nil))))))), ?_⟩
  refine ⟨_, rfl, ra, R, rdx, _, _, rfl, sB _ _ hra, T.clR, T.nRow, rfl, _, rfl, ta, na, tvs, nvs, rfl, SqT.to sB hta, SqT.to sB hna, fun D nD => ?_⟩
  refine lc_new (walk_zipK (k1 := false) (k2 := false) (xs := tvs) (ys := nvs) (n := row.length) (by omega) (by omega)) (List.zipWith (fun t s => onN t s m) row ss) (IsP IsSd IsI) (mono_P mono_Sd mono_I) sB nD (by simp [l1]) (by rw [sizeLine_eq]; omega)
    (fun H2 s2 => ⟨SqT.to (sB.trans s2) hta, SqT.to (sB.trans s2) hna⟩) ?_ ?_
  · rintro i x z B1 H2 H3 Qn Qs hz X ⟨T1, x1, x2, rfl, nT, rfl, f1, f2⟩ hq
    obtain ⟨t, s', ht, hs', rfl⟩ := zip_get hz
    obtain ⟨c1, hc1, pc1⟩ := paired_get ptv ht
    obtain ⟨c2, hc2, pc2⟩ := paired_get pnv hs'
    cases f1.symm.trans hc1
    cases f2.symm.trans hc2
    have Y1 := ext_loc (o := .tup [x1, x2]) X.in_ nT
    refine ⟨T1, _, rfl, SqT.of upd_same, rfl, _, _, rfl, _, _, rfl, rfl, rfl, yesT ?_⟩
    refine ⟨_, rfl, _, rfl, _, rfl, B1, _, _, t, s', m, rfl, Y1.in_, mono_Cl.up X.gh pc1, mono_Sd.up X.gh pc2, ok t (List.mem_of_getElem? ht), fun v B2 H4 Y2 pv => hq v B2 H4 (Y1.trans Y2) pv⟩
  rintro B1 H2 X1 ⟨D', pvs, e, hD, ppv⟩
  cases e
  have lz : (List.zipWith (fun t s => onN t s m) row ss).length = row.length := by simp [l1]
  have lp : pvs.length = row.length := (Paired.length ppv).trans lz
  -- gain = sum([rise * sign ..])
  have hr1 := X1.gh _ _ hra
  refine ⟨_, rfl, _, rfl, ra, R, rdx, _, _, rfl, X1.in_ _ _ hr1, T.clR, T.nSigns, rfl, D, ga, pvs, gvs, rfl, SqL.to X1.in_ hD, SqL.to X1.in_ (X1.gh _ _ hga), fun D2 nD2 => ?_⟩
  refine lc_new (walk_zipK (k1 := true) (k2 := true) (xs := pvs) (ys := gvs) (n := row.length) (by omega) (by omega)) (List.zipWith (fun a b => a * b) (riseN row ss m) signs) IsI mono_I X1.in_ nD2 (by rw [List.length_zipWith, riseN_len l1]; omega) (by rw [sizeLine_eq]; omega)
    (fun H2 s2 => ⟨SqL.to (X1.in_.trans s2) hD, SqL.to (X1.in_.trans s2) (X1.gh _ _ hga)⟩) ?_ ?_
  · rintro i x z B2 H3 H4 Qn Qs hz X ⟨T1, x1, x2, rfl, nT, rfl, f1, f2⟩ hq
    obtain ⟨r, g, hr', hg', rfl⟩ := zip_get hz
    obtain ⟨t, s', ht, hs', rfl⟩ := zip_get hr'
    have hzz : (List.zipWith (fun t s => onN t s m) row ss)[i]? = some (onN t s' m) := by rw [List.getElem?_zipWith, ht, hs']
    obtain ⟨c1, hc1, pc1⟩ := paired_get ppv hzz
    obtain ⟨c2, hc2, pc2⟩ := paired_get pgv hg'
    cases f1.symm.trans hc1
    cases f2.symm.trans hc2
    obtain ⟨pa, v1, v2, rfl, hpa, _, e2⟩ := pc1
    cases e2
    cases pc2
    have hpa2 := X.in_ _ _ (X.gh _ _ hpa)
    have Y1 := ext_loc (o := .tup [.ref pa, .int g]) X.in_ nT
    refine ⟨T1, _, rfl, SqT.of upd_same, rfl, _, _, rfl, ⟨pa, _, rfl, SqT.of (same_new nT _ _ hpa2), rfl, _, _, rfl, _, _, rfl, rfl, ?_⟩⟩
    refine ⟨_, _, rfl, rfl, rfl, yesT ?_⟩
    refine ⟨_, rfl, _, rfl, _, g, rfl, rfl, .inr ?_, hq _ B2 _ Y1 rfl⟩
    rcases sg g (List.mem_of_getElem? hg') with rfl | rfl
    · exact ⟨by decide, by decide⟩
    · exact ⟨by decide, by decide⟩
  rintro B2 H3 X2 ⟨D2', gs, e, hD2, pgs⟩
  cases e
  cases isI_map pgs
  refine ⟨D2, _, rfl, SqL.to X2.in_ hD2, ?_⟩
  -- return tuple([later ..]), gain
  refine ⟨_, rfl, D, rfl, ⟨_, SqL.to X2.in_ (X2.gh _ _ hD)⟩, fun D3 nD3 => ?_⟩
  refine lc_new walk_L (stepN row ss m) IsSd mono_Sd X2.in_ nD3 (by rw [stepN_len l1, lp]) (by rw [sizeLine_eq]; omega) (fun H2 s2 => SqL.to (X2.in_.trans s2) (X2.gh _ _ hD)) ?_ ?_
  · rintro i x z B3 H4 H5 Qn Qs hz X ⟨rfl, hx⟩ hq
    obtain ⟨t, s', ht, hs', rfl⟩ := zip_get hz
    have hzz : (List.zipWith (fun t s => onN t s m) row ss)[i]? = some (onN t s' m) := by rw [List.getElem?_zipWith, ht, hs']
    obtain ⟨c1, hc1, pc1⟩ := paired_get ppv hzz
    cases hx.symm.trans hc1
    obtain ⟨pa, v1, v2, rfl, hpa, e1, e2⟩ := pc1
    refine ⟨pa, _, rfl, SqT.to X.in_ ((X2.gh.trans X.gh) _ _ hpa), rfl, _, _, rfl, _, _, rfl, rfl, rfl, yesT ⟨_, rfl, hq _ B3 _ (.refl X.in_) (mono_Sd.up (X2.gh.trans X.gh) e1)⟩⟩
  rintro B3 H4 X3 ⟨D3', ls, e, hD3, pls⟩
  cases e
  refine ⟨D3, ls, rfl, .inl ⟨SqL.to X3.in_ hD3, fun l nl => ?_⟩⟩
  obtain ⟨B4, X4, h4⟩ := ext_upd (o := .tup ls) X3.in_ nl
  refine ⟨_, rfl, by show 2 ≤ sizeLine; decide, fun p np => ?_⟩
  obtain ⟨B5, X5, h5⟩ := ext_upd (o := .tup [.ref l, .int (List.zipWith (fun a b => a * b) (riseN row ss m) signs).sum]) X4.in_ np
  refine q _ B5 _ (X1.trans (X2.trans (X3.trans (X4.trans X5)))) ⟨p, .ref l, _, rfl, h5, ⟨l, ls, rfl, X5.gh _ _ h4, mono_Sd.p (X4.gh.trans X5.gh) pls⟩, ?_⟩
  show V.int _ = V.int _
  rw [gainN, gapN, mul_sum]
end
end PB

/-! webs -/
namespace PB
open PySem PySem.Spec PyProof.Rows L2
structure Fr (M : Addr → Prop) (B H B1 H1 : Hp) : Prop where
  hp : ∀ b o, ¬ M b → H b = some o → H1 b = some o
  gh : Same B B1
  in_ : Same B1 H1
  fr : ∀ b, H b ≠ none → B b = none → B1 b = none
  al : ∀ b, H b ≠ none → H1 b ≠ none
theorem Ext.with {j : Option Addr} {M : Addr → Prop} {B0 H0 B H B1 H1 : Hp} (X : Ext j B0 H0 B H) (Y : Fr M B H B1 H1) (h : ∀ b, M b → H0 b = none) : Ext j B0 H0 B1 H1 :=
  ⟨fun b o n e => Y.hp b o (fun z => by rw [h b z] at e; cases e) (X.hp b o n e), X.gh.trans Y.gh, Y.in_, fun b n e => Y.fr b (X.al b n) (X.fr b n e), fun b n => Y.al b (X.al b n)⟩
section
variable {M : Addr → Prop} {B0 H0 B H B1 H1 : Hp} {m : Addr}
theorem Fr.refl (s : Same B H) : Fr M B H B H := ⟨fun _ _ _ e => e, .refl _, s, fun _ _ e => e, fun _ e => e⟩
theorem Fr.mut (X : Fr M B0 H0 B H) (k : M m) (nB : B m = none) (o : HO) : Fr M B0 H0 B (upd H m o) := by
  refine ⟨fun b x q e => ?_, X.gh, fun b x e => ?_, X.fr, fun b q => ?_⟩
  · have h : b ≠ m := fun z => q (z ▸ k)
    rw [upd_ne h]
    exact X.hp b x q e
  · have h : b ≠ m := fun z => by rw [z, nB] at e; cases e
    rw [upd_ne h]
    exact X.in_ b x e
  · by_cases h : b = m
    · subst h; rw [upd_same]; simp
    · rw [upd_ne h]; exact X.al b q
theorem Fr.also (X : Fr M B0 H0 B H) (Y : Ext none B H B1 H1) : Fr M B0 H0 B1 H1 :=
  ⟨fun b o n e => Y.hp b o (fun z => nomatch z) (X.hp b o n e), X.gh.trans Y.gh, Y.in_, fun b n e => Y.fr b (X.al b n) (X.fr b n e), fun b n => Y.al b (X.al b n)⟩
end
def webF (ln d ls lo : Addr) : List (PySem.Str × V) := [("nodes", .ref ln), ("places", .ref d), ("steps", .ref ls), ("origins", .ref lo)]
def IsOrg : Rel (Option (Nat × Int)) := fun B v o => match o with
  | none => v = .non
  | some x => ∃ a, v = .ref a ∧ B a = some (.tup [.int (x.1 : Int), .int x.2])
theorem mono_Org : Mono IsOrg := ⟨fun {B B' v o} s h => by
  cases o with
  | none => exact h
  | some x => obtain ⟨a, e, q⟩ := h; exact ⟨a, e, s _ _ q⟩⟩
structure OrgOk {S : Type} (E : List (En S)) (orgs : List (Option (Nat × Int))) : Prop where
  len : orgs.length = E.length
  non : ∀ (i : Nat) e, E[i]? = some e → orgs[i]? = some none → e.2 = []
  som : ∀ (i : Nat) e x, E[i]? = some e → orgs[i]? = some (some x) → x.1 < i ∧ ∃ e', E[x.1]? = some e' ∧ e.2 = e'.2 ++ [x.2]
theorem OrgOk.snoc {S : Type} {E : List (En S)} {orgs : List (Option (Nat × Int))} (k : OrgOk E orgs) {h : Nat} {m : Int} {s : S} {e : En S} (he : E[h]? = some e) : OrgOk (E ++ [(s, e.2 ++ [m])]) (orgs ++ [some (h, m)]) := by
  have hl := (List.getElem?_eq_some_iff.mp he).1
  refine ⟨by simp [k.len], fun i f hf ho => ?_, fun i f x hf ho => ?_⟩
  · by_cases hi : i < E.length
    · rw [List.getElem?_append_left hi] at hf
      rw [List.getElem?_append_left (by rw [k.len]; exact hi)] at ho
      exact k.non i f hf ho
    · rw [List.getElem?_append_right (by rw [k.len]; omega)] at ho
      rw [List.getElem?_append_right (by omega)] at hf
      have z : i - orgs.length = 0 := by
        have := (List.getElem?_eq_some_iff.mp ho).1
        simpa using this
      rw [z] at ho
      simp at ho
  · by_cases hi : i < E.length
    · rw [List.getElem?_append_left hi] at hf
      rw [List.getElem?_append_left (by rw [k.len]; exact hi)] at ho
      obtain ⟨q1, e', q2, q3⟩ := k.som i f x hf ho
      exact ⟨q1, e', by rw [List.getElem?_append_left (by omega)]; exact q2, q3⟩
    · rw [List.getElem?_append_right (by rw [k.len]; omega)] at ho
      rw [List.getElem?_append_right (by omega)] at hf
      have z : i - orgs.length = 0 := by
        have := (List.getElem?_eq_some_iff.mp ho).1
        simpa using this
      have z2 : i - E.length = 0 := by rw [← k.len]; exact z
      rw [z] at ho
      rw [z2] at hf
      simp at ho hf
      subst ho
      subst hf
      exact ⟨by show h < i; omega, e, by rw [List.getElem?_append_left hl]; exact he, rfl⟩
/-- a web in the making -/
structure WebS (P : Program) (w : World) (W : Addr) (B H : Hp) (p dx ln d ls lo : Addr) (E : List (En (List Sd))) : Prop where
  ins : H p = some (.ins W dx (webF ln d ls lo))
  nodes : ∃ nvs, H ln = some (.lst nvs) ∧ Paired (IsSds B) nvs (E.map (·.1))
  places : ∃ o kvs, ND P w H d o kvs ∧ kvs.map (·.1) = E.map (·.1)
  origins : ∃ ovs orgs, H lo = some (.lst ovs) ∧ Paired (IsOrg B) ovs orgs ∧ OrgOk E orgs
  bp : B p = none
  bn : B ln = none
  bd : B d = none
  bo : B lo = none
  ne : ln ≠ lo
theorem tab_has {kvs : Tab} {E : List (En (List Sd))} (h : kvs.map (·.1) = E.map (·.1)) (k : List Sd) : (valV kvs k).isSome = has E k := by
  have e : ∀ (a : Tab) (b : List (En (List Sd))), a.map (·.1) = b.map (·.1) → (a.any fun kv => decide (kv.1 = k)) = has b k := by
    intro a
    induction a with
    | nil => intro b hb; cases b with
      | nil => rfl
      | cons _ _ => simp at hb
    | cons x a ih => intro b hb; cases b with
      | nil => simp at hb
      | cons y b =>
        simp only [List.map_cons, List.cons.injEq] at hb
        have := ih b hb.2
        simp only [has, List.any_cons, hb.1] at this ⊢
        rw [this]
  rw [← valV_any]
  exact e kvs E h
section
variable {P : Program} {w : World} {K : PySem.W.Frag} {mg : PySem.Str → Option Value} {base : Heap} {C W R : Addr}
def spPlace (P : Program) (w : World) (W : Addr) : Sp := fun vs H Q _ => ∃ (B : Hp) (p dx ln d ls lo : Addr) (E : List (En (List Sd))) (nv : V) (node : List Sd) (h : Nat) (m : Int) (e : En (List Sd)),
  vs = [.ref p, nv, .int (h : Int), .int m] ∧ Same B H ∧ WebS P w W B H p dx ln d ls lo E ∧ IsSds B nv node ∧ E[h]? = some e ∧ E.length < 600 ∧
  ∀ g B' H', Fr (fun b => b = d ∨ b = ln ∨ b = lo) B H B' H' → WebS P w W B' H' p dx ln d ls lo (if has E node = true then E else E ++ [(node, e.2 ++ [m])]) → Q g H'
abbrev N_Web_place_of : List PySem.Str := ["self", "node", "here", "move"]
theorem sc_Web_place_of : FnScope N_Web_place_of ["self", "node", "here", "move"] (defScope st_Web_place_of) := ⟨rfl, rfl, rfl, by decide +kernel, rfl, by decide +kernel, by decide +kernel⟩
theorem b_Web_place_of (T : Txt K mg C W R) : Body P w K mg base N_Web_place_of "Web.place_of" st_Web_place_of 0 (spPlace P w W) := by
  intro f cdv A outer s H vs Q E hr h
  obtain ⟨B, p, dx, ln, d, ls, lo, E', nv, node, h, m, e, rfl, sB, S, hnv, he, hl, q⟩ := h
  obtain ⟨nvs, hn, pn⟩ := S.nodes
  obtain ⟨o, kvs, nd, hk⟩ := S.places
  obtain ⟨ovs, orgs, ho, po, ok⟩ := S.origins
  have hnvH := mono_Sds.up sB hnv
  refine ⟨_, (pss_cons (ps_if (pt_cmpR (op_ninN hr.units) (pv 1) (pe_fld (pv 0) rfl) (by rfl)) (pss_cons (ps_if (pt_cmpR op_eq (pe_callB call_len_seq (by rfl) T.blen PySem.boot_len (pa_cons (pe_fld (pv 0) rfl) pa_nil)) (pe_const T.iSTANDINGS) (nomark _)) (pss_one ps_never) pss_nil)
      (pss_cons (ps_asg (pe_callB call_len_seq (by rfl) T.blen PySem.boot_len (pa_cons (pe_fld (pv 0) rfl) pa_nil)) (pg_sub (pe_fld (pv 0) rfl) (pv 1) (set_N hr.units)))
      (pss_cons (ps_expr (pe_bm PySem.F.plainAttrs_list PySem.F.slot_list_append PySem.F.type_list_append mt_append (pe_fld (pv 0) rfl) (pa_cons (pv 1) pa_nil)))
      (pss_one (ps_expr (pe_bm PySem.F.plainAttrs_list PySem.F.slot_list_append PySem.F.type_list_append mt_append (pe_fld (pv 0) rfl) (pa_cons (pe_tup (pa_cons (pv 2) (pa_cons (pv 3) pa_nil))) pa_nil))))))) pss_nil)
      (pss_one (ps_ret (pe_ixN hr.units (pe_fld (pv 0) rfl) (pv 1) (fun _ _ => rfl))))), ?_⟩
  refine ⟨_, rfl, _, rfl, p, W, dx, _, _, rfl, S.ins, T.clW, T.nPlaces, rfl, d, o, kvs, node, rfl, nd, hnvH, _, rfl, ?_⟩
  have hT := tab_has hk node
  rw [hT]
  cases hb : has E' node with
  | true =>
    rw [hb] at hT
    rw [hb, if_pos rfl] at q
    obtain ⟨v, hv⟩ := Option.isSome_iff_exists.mp hT
    refine iteF ⟨_, rfl, p, W, dx, _, _, rfl, S.ins, T.clW, T.nPlaces, rfl, _, rfl, d, o, kvs, node, v, rfl, nd, hnvH, hv, q v B H (.refl sB) S⟩
  | false =>
    rw [hb] at hT
    rw [hb, if_neg Bool.false_ne_true] at q
    refine iteT ?_
    have nlen : nvs.length = E'.length := by have := Paired.length pn; rwa [List.length_map] at this
    refine ⟨_, rfl, p, W, dx, _, _, rfl, S.ins, T.clW, T.nNodes, rfl, ln, nvs, rfl, .inl (SqL.of hn), rfl, _, rfl, iteI (fun z => ?_) fun _ => ?_⟩
    · omega
    refine ⟨_, rfl, p, W, dx, _, _, rfl, S.ins, T.clW, T.nNodes, rfl, ln, nvs, rfl, .inl (SqL.of hn), ?_⟩
    have klen : kvs.length = E'.length := by have := congrArg List.length hk; simpa using this
    refine ⟨_, rfl, p, W, dx, _, _, rfl, S.ins, T.clW, T.nPlaces, rfl, _, rfl, d, o, kvs, node, rfl, nd, hnvH, by rw [sizeLine_eq]; omega, fun o' H1 eH1 nd1 => ?_⟩
    have npd : p ≠ d := ne_of S.ins nd.at_ (fun z => nomatch z)
    have npn : p ≠ ln := ne_of S.ins hn (fun z => nomatch z)
    have npo : p ≠ lo := ne_of S.ins ho (fun z => nomatch z)
    have nnd : ln ≠ d := ne_of hn nd.at_ (fun z => nomatch z)
    have nod : lo ≠ d := ne_of ho nd.at_ (fun z => nomatch z)
    have F1 : Fr (fun b => b = d ∨ b = ln ∨ b = lo) B H B H1 := by rw [eH1]; exact (Fr.refl sB).mut (.inl rfl) S.bd _
    have p1 : H1 p = some (.ins W dx (webF ln d ls lo)) := by rw [eH1, upd_ne npd]; exact S.ins
    have n1 : H1 ln = some (.lst nvs) := by rw [eH1, upd_ne nnd]; exact hn
    have o1 : H1 lo = some (.lst ovs) := by rw [eH1, upd_ne nod]; exact ho
    clear eH1
    refine ⟨_, rfl, p, W, dx, _, _, rfl, p1, T.clW, T.nNodes, rfl, .inl ⟨rfl, _, SqL.of n1⟩, _, rfl, ln, nvs, nv, rfl, rfl, n1, by rw [sizeLine_eq]; omega, ?_⟩
    have F2 := F1.mut (m := ln) (.inr (.inl rfl)) S.bn (.lst (nvs ++ [nv]))
    have p2 : (upd H1 ln (.lst (nvs ++ [nv]))) p = some (.ins W dx (webF ln d ls lo)) := by rw [upd_ne npn]; exact p1
    have o2 : (upd H1 ln (.lst (nvs ++ [nv]))) lo = some (.lst ovs) := by rw [upd_ne (Ne.symm S.ne)]; exact o1
    refine ⟨_, rfl, p, W, dx, _, _, rfl, p2, T.clW, T.nOrigins, rfl, .inl ⟨rfl, _, SqL.of o2⟩, _, rfl, _, rfl, by show 2 ≤ sizeLine; decide, fun t nt => ?_⟩
    obtain ⟨B1, Y1, et⟩ := ext_upd (o := .tup [.int (h : Int), .int m]) F2.in_ nt
    have F3 := F2.also Y1
    have olen : ovs.length = E'.length := (Paired.length po).trans ok.len
    refine ⟨lo, ovs, _, rfl, rfl, Y1.sm _ _ o2, by rw [sizeLine_eq]; omega, ?_⟩
    have alv : ∀ b, H b ≠ none → B b = none → B1 b = none := F3.fr
    have bp1 : B1 p = none := F3.fr p (by rw [S.ins]; simp) S.bp
    have bn1 : B1 ln = none := F3.fr ln (by rw [hn]; simp) S.bn
    have bo1 : B1 lo = none := F3.fr lo (by rw [ho]; simp) S.bo
    have bd1 : B1 d = none := F3.fr d (by rw [nd.at_]; simp) S.bd
    have F4 := F3.mut (m := lo) (.inr (.inr rfl)) bo1 (.lst (ovs ++ [.ref t]))
    have hne : ∀ b o, (upd H1 ln (.lst (nvs ++ [nv]))) b = some o → b ≠ lo → (upd (upd (upd H1 ln (.lst (nvs ++ [nv]))) t (.tup [.int (h : Int), .int m])) lo (.lst (ovs ++ [.ref t]))) b = some o := fun b o e n => by
      rw [upd_ne n]; exact Y1.sm _ _ e
    have p4 := hne _ _ p2 npo
    have ktup : ∀ b xs, H1 b = some (.tup xs) → (upd (upd (upd H1 ln (.lst (nvs ++ [nv]))) t (.tup [.int (h : Int), .int m])) lo (.lst (ovs ++ [.ref t]))) b = some (.tup xs) := fun b xs e => by
      refine hne _ _ ?_ (ne_of e o1 (fun z => nomatch z))
      rw [upd_ne (ne_of e n1 (fun z => nomatch z))]
      exact e
    have d1 : H1 d = some _ := nd1.at_
    have nd4 := nd1.keep (H' := upd (upd (upd H1 ln (.lst (nvs ++ [nv]))) t (.tup [.int (h : Int), .int m])) lo (.lst (ovs ++ [.ref t]))) ktup (by
      rw [d1]
      refine hne _ _ ?_ (Ne.symm nod)
      rw [upd_ne (Ne.symm nnd)]
      exact d1)
    have hput : putK kvs node (V.int (nvs.length : Int)) = kvs ++ [(node, V.int (nvs.length : Int))] := by
      unfold putK
      rw [valV_any, hT, if_neg Bool.false_ne_true]
    rw [hput] at nd4
    obtain ⟨v, hv⟩ : ∃ v, valV (kvs ++ [(node, V.int (nvs.length : Int))]) node = some v := by
      refine Option.isSome_iff_exists.mp ?_
      rw [← valV_any]
      simp
    refine ⟨_, rfl, p, W, dx, _, _, rfl, p4, T.clW, T.nPlaces, rfl, _, rfl, d, o', _, node, v, rfl, nd4, mono_Sds.up (F4.gh.trans F4.in_) hnv, hv, ?_⟩
    refine q v B1 _ F4 ⟨p4, ⟨nvs ++ [nv], hne _ _ upd_same S.ne, ?_⟩, ⟨o', _, nd4, ?_⟩, ⟨ovs ++ [.ref t], orgs ++ [some (h, m)], upd_same, paired_app (mono_Org.p F4.gh po) (paired_one ⟨t, rfl, et⟩), ok.snoc he⟩, bp1, bn1, bd1, bo1, S.ne⟩
    · rw [List.map_append]
      exact paired_app (mono_Sds.p F4.gh pn) (paired_one (mono_Sds.up F4.gh hnv))
    · rw [List.map_append, List.map_append, hk]
      rfl
/-- a made web: the origins of its nodes, and their steps -/
def IsStep : Rel (Int × Int) := fun B v x => ∃ a g, v = .ref a ∧ B a = some (.tup [g, .int x.1, .int x.2])
theorem mono_Step : Mono IsStep := ⟨fun s ⟨a, g, e, h⟩ => ⟨a, g, e, s _ _ h⟩⟩
structure IsWeb (W : Addr) (B : Hp) (v : V) (E : List (En (List Sd))) (steps : List (List (Int × Int))) : Prop where
  ex : ∃ p dx ln d ls lo svs ovs orgs, v = .ref p ∧ B p = some (.ins W dx (webF ln d ls lo)) ∧ B ls = some (.lst svs) ∧ Paired (IsL IsStep B) svs steps ∧ B lo = some (.lst ovs) ∧ Paired (IsOrg B) ovs orgs ∧ OrgOk E orgs
def spCourse (W : Addr) : Sp := fun vs H Q _ => ∃ B v E steps, ∃ (i : Nat) (e : En (List Sd)), vs = [v, .int (i : Int)] ∧ Same B H ∧ IsWeb W B v E steps ∧ E[i]? = some e ∧ e.2.length ≤ 1000 ∧ ∀ q H', H q = none → Same H H' → H' q = some (.tup (e.2.map V.int)) → Q (.ref q) H'
abbrev N_Web_course_to : List PySem.Str := ["self", "place", "found", "move"]
theorem sc_Web_course_to : FnScope N_Web_course_to ["self", "place"] (defScope st_Web_course_to) := ⟨rfl, rfl, rfl, by decide +kernel, rfl, by decide +kernel, by decide +kernel⟩
theorem b_Web_course_to (T : Txt K mg C W R) : Body P w K mg base N_Web_course_to "Web.course_to" st_Web_course_to 0 (spCourse W) := by
  intro f cdv A outer s H vs Q E hr h
  obtain ⟨B, v, E', steps, i, e, rfl, sB, ⟨p, dx, ln, d, ls, lo, svs, ovs, orgs, rfl, hp, hls, pst, hlo, po, ok⟩, he, hl, q⟩ := h
  refine ⟨_, (pss_cons (ps_set (i := 2) sc_Web_course_to.nd rfl (Or.inl rfl) (pe_lst pa_nil))
      (pss_cons (ps_while PassesOwn.never (pt_cmpR op_notN (pe_ix ix_list (pe_fld (pv 0) rfl) (pv 1) (fun _ _ => rfl)) pe_non (nomark _))
      (pss_cons (ps_asg (pe_ix ix_list (pe_fld (pv 0) rfl) (pv 1) (fun _ _ => rfl)) (pg_tup rfl (pgs_cons (pg_name (i := 1) sc_Web_course_to.nd rfl (Or.inl rfl)) (pgs_cons (pg_name (i := 3) sc_Web_course_to.nd rfl (Or.inl rfl)) pgs_nil))))
      (pss_one (ps_expr (pe_bm PySem.F.plainAttrs_list PySem.F.slot_list_append PySem.F.type_list_append mt_append (pv 2) (pa_cons (pv 3) pa_nil))))))
      (pss_one (ps_ret (pe_callTy call_tuple_of (by rfl) T.btuple (by decide +kernel) (pa_cons (pe_revL (pv 2)) pa_nil)))))), ?_⟩
  refine ⟨Nat.zero_le _, fun fl nf => ?_⟩
  have nfl : fl ≠ lo := fun z => by rw [z, sB _ _ hlo] at nf; cases nf
  have olen : ovs.length = E'.length := (Paired.length po).trans ok.len
  refine ⟨fun m σ H' => ∃ (j : Nat) (ej : En (List Sd)) (fd : List Int) (y3 : Option V), m = j ∧ σ = [some (.ref p), some (.int (j : Int)), some (.ref fl), y3] ∧ E'[j]? = some ej ∧ e.2 = ej.2 ++ fd.reverse ∧ (∀ b o, b ≠ fl → H b = some o → H' b = some o) ∧ H' fl = some (.lst (fd.map V.int)),
    ⟨i, i, e, [], none, rfl, rfl, he, by simp, fun b o hb eb => by rw [upd_ne hb]; exact eb, upd_same⟩, ?_⟩
  rintro j σ H' ⟨j0, ej, fd, y3, rfl, rfl, hj, hc, kp, hfl⟩
  have nb : ∀ b o, B b = some o → b ≠ fl := fun b o hb z => by rw [z] at hb; rw [sB _ _ hb] at nf; cases nf
  have sB' : Same B H' := fun b o hb => kp b o (nb b o hb) (sB _ _ hb)
  have hjl := (List.getElem?_eq_some_iff.mp hj).1
  obtain ⟨og, hog⟩ : ∃ og, orgs[j]? = some og := ⟨_, List.getElem?_eq_getElem (by rw [ok.len]; exact hjl)⟩
  obtain ⟨ov, hov, pog⟩ := paired_get po hog
  refine ⟨_, rfl, p, W, dx, _, _, rfl, sB' _ _ hp, T.clW, T.nOrigins, rfl, _, rfl, lo, ovs, (j : Int), ov, rfl, rfl, SqL.to sB' hlo, atI_nat hov, rfl, _, rfl, ?_⟩
  cases og with
  | none =>
    cases pog
    refine iteF ?_
    have e0 := ok.non j ej hj hog
    rw [e0, List.nil_append] at hc
    refine ⟨_, rfl, fl, _, rfl, SqL.of hfl, fun r nr => ⟨r, _, rfl, .inl ⟨SqL.of upd_same, fun t nt => ?_⟩⟩⟩
    have s2 := same_new (o := .lst (fd.map V.int).reverse) nr
    have s3 := same_new (o := .tup (fd.map V.int).reverse) nt
    have hfree : H t = none := by
      cases z : H t with
      | none => rfl
      | some o =>
        by_cases y : t = fl
        · rw [y] at z; rw [nf] at z; cases z
        · rw [s2 _ _ (kp t o y z)] at nt; cases nt
    refine q t _ hfree (fun b o hb => s3 _ _ (s2 _ _ (kp b o (fun z => by rw [z, nf] at hb; cases hb) hb))) ?_
    rw [upd_same, hc, List.map_reverse]
  | some x =>
    obtain ⟨oa, rfl, hoa⟩ := pog
    refine iteT ?_
    obtain ⟨q1, e', q2, q3⟩ := ok.som j ej x hj hog
    refine ⟨fun σ' H'' => ∃ (j' : Nat) (ej : En (List Sd)) (fd : List Int) (y3 : Option V), j' < j ∧ σ' = [some (.ref p), some (.int (j' : Int)), some (.ref fl), y3] ∧ E'[j']? = some ej ∧ e.2 = ej.2 ++ fd.reverse ∧ (∀ b o, b ≠ fl → H b = some o → H'' b = some o) ∧ H'' fl = some (.lst (fd.map V.int)),
      fun σ' H'' ⟨j', ej, fd, y3, z, r⟩ => ⟨j', z, j', ej, fd, y3, rfl, r⟩, ?_⟩
    refine ⟨_, rfl, p, W, dx, _, _, rfl, sB' _ _ hp, T.clW, T.nOrigins, rfl, _, rfl, lo, ovs, (j : Int), .ref oa, rfl, rfl, SqL.to sB' hlo, atI_nat hov, oa, _, rfl, SqT.to sB' hoa, rfl, _, _, rfl, _, _, rfl, rfl, ?_⟩
    have hfl2 : fd.length < sizeLine := by
      have := congrArg List.length hc
      rw [List.length_append, List.length_reverse] at this
      rw [sizeLine_eq]; omega
    refine ⟨_, rfl, .inl ⟨rfl, _, SqL.of hfl⟩, _, rfl, fl, _, _, rfl, rfl, hfl, by rw [List.length_map]; exact hfl2, ?_⟩
    refine ⟨x.1, e', fd ++ [x.2], _, q1, rfl, q2, ?_, fun b o hb hh => by rw [upd_ne hb]; exact kp b o hb hh, ?_⟩
    · rw [hc, q3]; simp
    · rw [upd_same, List.map_append]; rfl
end
end PB

/-! a web's making -/
namespace PB
open PySem PySem.Spec PyProof.Rows L2
def SgnOk (signs : List Int) : Prop := ∀ x ∈ signs, x = 1 ∨ x = -1
def RowOk (row : List Tm) : Prop := ∀ t ∈ row, t.Ok
def stpN (row : List Tm) (signs : List Int) (lo hi : Int) (e : En (List Sd)) : List (Int × Int) := (msN lo hi).map fun m => (gainN row signs e.1 m, m)
theorem f1_ (a : V) : putF "nodes" a [] = ([("nodes", a)] : List (PySem.Str × V)) := rfl
theorem f2_ (a b : V) : putF "places" b ([("nodes", a)] : List (PySem.Str × V)) = ([("nodes", a), ("places", b)] : List (PySem.Str × V)) := by
  show (if ("nodes" : PySem.Str) = "places" then _ else (("nodes" : PySem.Str), a) :: putF "places" b []) = _
  rw [if_neg (by decide +kernel)]
  rfl
theorem f3_ (a b c : V) : putF "steps" c ([("nodes", a), ("places", b)] : List (PySem.Str × V)) = ([("nodes", a), ("places", b), ("steps", c)] : List (PySem.Str × V)) := by
  show (if ("nodes" : PySem.Str) = "steps" then _ else (("nodes" : PySem.Str), a) :: (if ("places" : PySem.Str) = "steps" then _ else (("places" : PySem.Str), b) :: putF "steps" c [])) = _
  rw [if_neg (by decide +kernel), if_neg (by decide +kernel)]
  rfl
theorem f4_ (a b c d : V) : putF "origins" d ([("nodes", a), ("places", b), ("steps", c)] : List (PySem.Str × V)) = ([("nodes", a), ("places", b), ("steps", c), ("origins", d)] : List (PySem.Str × V)) := by
  show (if ("nodes" : PySem.Str) = "origins" then _ else (("nodes" : PySem.Str), a) :: (if ("places" : PySem.Str) = "origins" then _ else (("places" : PySem.Str), b) :: (if ("steps" : PySem.Str) = "origins" then _ else (("steps" : PySem.Str), c) :: putF "origins" d []))) = _
  rw [if_neg (by decide +kernel), if_neg (by decide +kernel), if_neg (by decide +kernel)]
  rfl
section
variable {P : Program} {w : World} {K : PySem.W.Frag} {mg : PySem.Str → Option Value} {base : Heap} {C W R : Addr}
def spWInit (C W R : Addr) : Sp := fun vs H Q _ => ∃ (B H1 : Hp) (p dx : Addr) (sv mv rl : V) (row : List Tm) (signs : List Int) (lo hi : Int), vs = [.ref p, sv, mv, rl] ∧ Same B H1 ∧ H1 p = none ∧ Same H1 H ∧ H p = some (.ins W dx []) ∧
  IsSds B sv (begR row) ∧ IsL IsI B mv (msN lo hi) ∧ IsRow C R B rl (row, signs) ∧ signs.length = row.length ∧ row.length ≤ 6 ∧ RowOk row ∧ SgnOk signs ∧ FewR row lo hi 60 ∧ BandOk (lo, hi) ∧
  ∀ B' H', Ext none B H1 B' H' → IsWeb W B' (.ref p) (rowE row lo hi 61) ((rowE row lo hi 61).map (stpN row signs lo hi)) → Q .non H'
abbrev N_Web_init : List PySem.Str := ["self", "start", "moves", "rules", "here", "found", "move", "pair"]
theorem sc_Web_init : FnScope N_Web_init ["self", "start", "moves", "rules"] (defScope st_Web_init) := ⟨rfl, rfl, rfl, by decide +kernel, rfl, by decide +kernel, by decide +kernel⟩
theorem b_Web_init (T : Txt K mg C W R) (m_after : FnM P w K mg base 5 R "after" ["self", "node", "move"] (spAfter C R)) (m_place_of : FnM P w K mg base 1 W "place_of" ["self", "node", "here", "move"] (spPlace P w W)) :
    Body P w K mg base N_Web_init "Web.__init__" st_Web_init 5 (spWInit C W R) := by
  intro f cdv A outer s H vs Q E hr h
  obtain ⟨B, H1, p, dx, sv, mv, rl, row, signs, lo, hi, rfl, sB, p1, sH, hp, hsv, hmv, hrl, l2, l3, rok, sok, few, bok, q⟩ := h
  have bp : B p = none := sB.free p1
  have X0 : Ext none B H1 B H := ext_same sB sH
  refine ⟨_, (pss_cons (ps_fld (pv 0) (pe_lst (pa_cons (pv 1) pa_nil)) rfl)
      (pss_cons (ps_fld (pv 0) (pe_oneN hr.units (pv 1) pe_int) rfl)
      (pss_cons (ps_fld (pv 0) (pe_lst pa_nil) rfl)
      (pss_cons (ps_fld (pv 0) (pe_lst (pa_cons pe_non pa_nil)) rfl)
      (pss_one (ps_while PassesOwn.never (pt_cmpR op_lt (pe_callB call_len_seq (by rfl) T.blen PySem.boot_len (pa_cons (pe_fld (pv 0) rfl) pa_nil)) (pe_callB call_len_seq (by rfl) T.blen PySem.boot_len (pa_cons (pe_fld (pv 0) rfl) pa_nil)) (nomark _))
      (pss_cons (ps_set (i := 4) sc_Web_init.nd rfl (Or.inl rfl) (pe_callB call_len_seq (by rfl) T.blen PySem.boot_len (pa_cons (pe_fld (pv 0) rfl) pa_nil)))
      (pss_cons (ps_set (i := 5) sc_Web_init.nd rfl (Or.inl rfl) (pe_lst pa_nil))
      (pss_cons (ps_for PassesOwn.never rfl (pi_list (pv 2)) (pg_name (i := 6) sc_Web_init.nd rfl (Or.inl rfl))
      (pss_cons (ps_set (i := 7) sc_Web_init.nd rfl (Or.inl rfl) (pe_methF m_after T.clR hr (pv 3) (pa_cons (pe_ix ix_list (pe_fld (pv 0) rfl) (pv 4) (fun _ _ => rfl)) (pa_cons (pv 6) pa_nil))))
      (pss_one (ps_if (pt_cmpR op_notN (pv 7) pe_non (nomark _)) (pss_one (ps_expr (pe_bm PySem.F.plainAttrs_list PySem.F.slot_list_append PySem.F.type_list_append mt_append (pv 5) (pa_cons (pe_tup (pa_cons (pe_methF m_place_of T.clW hr (pv 0) (pa_cons (pe_ix ix_tup (pv 7) pe_int (fun _ _ => rfl)) (pa_cons (pv 4) (pa_cons (pv 6) pa_nil)))) (pa_cons (pe_ix ix_tup (pv 7) pe_int (fun _ _ => rfl)) (pa_cons (pv 6) pa_nil)))) pa_nil)))) pss_nil))))
      (pss_one (ps_expr (pe_bm PySem.F.plainAttrs_list PySem.F.slot_list_append PySem.F.type_list_append mt_append (pe_fld (pv 0) rfl) (pa_cons (pv 5) pa_nil))))))))))))), ?_⟩
  -- self.nodes = [start]
  refine ⟨_, rfl, by show 1 ≤ sizeLine; decide, fun ln nln => ?_⟩
  have zln : H1 ln = none := sH.free nln
  have bln : B ln = none := sB.free zln
  have pln : p ≠ ln := fun z => by rw [← z, hp] at nln; cases nln
  have X1 := X0.mut (.inr zln) bln (.lst [sv])
  have i1 : (upd H ln (.lst [sv])) p = some (.ins W dx []) := by rw [upd_ne pln]; exact hp
  refine ⟨_, rfl, p, W, dx, _, rfl, i1, T.clW, T.nNodes, by show 0 < 1000; decide, ?_⟩
  have X2 := X1.mut (.inr p1) bp (.ins W dx (putF "nodes" (.ref ln) []))
  have n2 : (upd (upd H ln (.lst [sv])) p (.ins W dx (putF "nodes" (.ref ln) []))) ln = some (.lst [sv]) := by rw [upd_ne (Ne.symm pln), upd_same]
  have i2 : (upd (upd H ln (.lst [sv])) p (.ins W dx (putF "nodes" (.ref ln) []))) p = some (.ins W dx ([("nodes", .ref ln)] : List (PySem.Str × V))) := upd_same
  generalize eH2 : upd (upd H ln (.lst [sv])) p (.ins W dx (putF "nodes" (.ref ln) [])) = H2 at X2 n2 i2
  -- self.places = {start: 0}
  refine fun d o nd => ⟨_, rfl, upd_same, begR row, mono_Sds.up (X2.in_.trans (same_new nd)) hsv, fun o' H3 eH3 ND3 => ?_⟩
  have zd : H1 d = none := X2.sm.free nd
  have bd : B d = none := sB.free zd
  have dp : p ≠ d := fun z => by rw [← z, i2] at nd; cases nd
  have dln : ln ≠ d := fun z => by rw [← z, n2] at nd; cases nd
  have X3 : Ext none B H1 B H3 := by rw [eH3]; exact (X2.mut (.inr zd) bd _).mut (.inr zd) bd _
  have n3 : H3 ln = some (.lst [sv]) := by rw [eH3, upd_ne dln, upd_ne dln]; exact n2
  have i3 : H3 p = some (.ins W dx ([("nodes", .ref ln)] : List (PySem.Str × V))) := by rw [eH3, upd_ne dp, upd_ne dp]; exact i2
  refine ⟨_, rfl, p, W, dx, _, rfl, i3, T.clW, T.nPlaces, by show 1 < 1000; decide, ?_⟩
  rw [f2_]
  have X4 := X3.mut (.inr p1) bp (.ins W dx ([("nodes", .ref ln), ("places", .ref d)] : List (PySem.Str × V)))
  have ND4 := ND3.keep (H' := upd H3 p (.ins W dx ([("nodes", .ref ln), ("places", .ref d)] : List (PySem.Str × V)))) (fun b xs e => by rw [upd_ne (ne_of e i3 (fun z => nomatch z))]; exact e) (by rw [upd_ne (Ne.symm dp)])
  have n4 : (upd H3 p (.ins W dx ([("nodes", .ref ln), ("places", .ref d)] : List (PySem.Str × V)))) ln = some (.lst [sv]) := by rw [upd_ne (Ne.symm pln)]; exact n3
  have i4 : (upd H3 p (.ins W dx ([("nodes", .ref ln), ("places", .ref d)] : List (PySem.Str × V)))) p = some (.ins W dx ([("nodes", .ref ln), ("places", .ref d)] : List (PySem.Str × V))) := upd_same
  clear eH3 ND3 n3 i3
  generalize eH4 : upd H3 p (.ins W dx ([("nodes", .ref ln), ("places", .ref d)] : List (PySem.Str × V))) = H4 at X4 n4 i4 ND4
  -- self.steps = []
  refine ⟨Nat.zero_le _, fun ls nls => ?_⟩
  have zls : H1 ls = none := X4.sm.free nls
  have bls : B ls = none := sB.free zls
  have slp : p ≠ ls := fun z => by rw [← z, i4] at nls; cases nls
  have slln : ln ≠ ls := fun z => by rw [← z, n4] at nls; cases nls
  have sld : d ≠ ls := fun z => by rw [← z, ND4.at_] at nls; cases nls
  have X5 := (X4.mut (.inr zls) bls (.lst [])).mut (.inr p1) bp (.ins W dx ([("nodes", .ref ln), ("places", .ref d), ("steps", .ref ls)] : List (PySem.Str × V)))
  refine ⟨_, rfl, p, W, dx, _, rfl, by rw [upd_ne slp]; exact i4, T.clW, T.nSteps, by show 2 < 1000; decide, ?_⟩
  rw [f3_]
  have n5 : (upd (upd H4 ls (.lst [])) p (.ins W dx ([("nodes", .ref ln), ("places", .ref d), ("steps", .ref ls)] : List (PySem.Str × V)))) ln = some (.lst [sv]) := by rw [upd_ne (Ne.symm pln), upd_ne slln]; exact n4
  have s5 : (upd (upd H4 ls (.lst [])) p (.ins W dx ([("nodes", .ref ln), ("places", .ref d), ("steps", .ref ls)] : List (PySem.Str × V)))) ls = some (.lst []) := by rw [upd_ne (Ne.symm slp), upd_same]
  have i5 : (upd (upd H4 ls (.lst [])) p (.ins W dx ([("nodes", .ref ln), ("places", .ref d), ("steps", .ref ls)] : List (PySem.Str × V)))) p = some (.ins W dx ([("nodes", .ref ln), ("places", .ref d), ("steps", .ref ls)] : List (PySem.Str × V))) := upd_same
  have ND5 := ND4.keep (H' := upd (upd H4 ls (.lst [])) p (.ins W dx ([("nodes", .ref ln), ("places", .ref d), ("steps", .ref ls)] : List (PySem.Str × V)))) (fun b xs e => by rw [upd_ne (ne_of e i4 (fun z => nomatch z)), upd_ne (ne_of_none e nls)]; exact e) (by rw [upd_ne (Ne.symm dp), upd_ne sld])
  generalize eH5 : upd (upd H4 ls (.lst [])) p (.ins W dx ([("nodes", .ref ln), ("places", .ref d), ("steps", .ref ls)] : List (PySem.Str × V))) = H5 at X5 n5 i5 s5 ND5
  -- self.origins = [None]
  refine ⟨by show 1 ≤ sizeLine; decide, fun lo' nlo => ?_⟩
  have zlo : H1 lo' = none := X5.sm.free nlo
  have blo : B lo' = none := sB.free zlo
  have olp : p ≠ lo' := fun z => by rw [← z, i5] at nlo; cases nlo
  have olln : ln ≠ lo' := fun z => by rw [← z, n5] at nlo; cases nlo
  have olls : ls ≠ lo' := fun z => by rw [← z, s5] at nlo; cases nlo
  have old : d ≠ lo' := fun z => by rw [← z, ND5.at_] at nlo; cases nlo
  have X6 := (X5.mut (.inr zlo) blo (.lst [.non])).mut (.inr p1) bp (.ins W dx (webF ln d ls lo'))
  refine ⟨_, rfl, p, W, dx, _, rfl, by rw [upd_ne olp]; exact i5, T.clW, T.nOrigins, by show 3 < 1000; decide, ?_⟩
  rw [f4_]
  have n6 : (upd (upd H5 lo' (.lst [.non])) p (.ins W dx (webF ln d ls lo'))) ln = some (.lst [sv]) := by rw [upd_ne (Ne.symm pln), upd_ne olln]; exact n5
  have s6 : (upd (upd H5 lo' (.lst [.non])) p (.ins W dx (webF ln d ls lo'))) ls = some (.lst []) := by rw [upd_ne (Ne.symm slp), upd_ne olls]; exact s5
  have o6 : (upd (upd H5 lo' (.lst [.non])) p (.ins W dx (webF ln d ls lo'))) lo' = some (.lst [.non]) := by rw [upd_ne (Ne.symm olp), upd_same]
  have i6 : (upd (upd H5 lo' (.lst [.non])) p (.ins W dx (webF ln d ls lo'))) p = some (.ins W dx (webF ln d ls lo')) := upd_same
  have ND6 := ND5.keep (H' := upd (upd H5 lo' (.lst [.non])) p (.ins W dx (webF ln d ls lo'))) (fun b xs e => by rw [upd_ne (ne_of e i5 (fun z => nomatch z)), upd_ne (ne_of_none e nlo)]; exact e) (by rw [upd_ne (Ne.symm dp), upd_ne old])
  have S6 : WebS P w W B (upd (upd H5 lo' (.lst [.non])) p (.ins W dx (webF ln d ls lo'))) p dx ln d ls lo' [(begR row, [])] :=
    ⟨i6, ⟨[sv], n6, paired_one hsv⟩, ⟨o', _, ND6, rfl⟩, ⟨[.non], [none], o6, paired_one rfl, ⟨rfl, fun i e hi _ => by
      have z : i = 0 := by have := (List.getElem?_eq_some_iff.mp hi).1; simpa using this
      subst z
      simp at hi
      rw [← hi], fun i e x hi ho => by
      have z : i = 0 := by have := (List.getElem?_eq_some_iff.mp hi).1; simpa using this
      subst z
      simp at ho⟩⟩, bp, bln, bd, blo, olln⟩
  -- while
  obtain ⟨ma, mvs, rfl, hma, pmv⟩ := hmv
  have hrl' := hrl
  obtain ⟨ra, rdx, rrv, rsv, rfl, hra, _, _⟩ := hrl'
  cases isI_map pmv
  have hms := msN_srt lo hi
  have hlen60 : ∀ n, (rowE row lo hi n).length ≤ 60 := fun n => few_len _ _ _ few n
  have mlen : (msN lo hi).length ≤ 7 := by rw [msN_len]; obtain ⟨b1, b2, b3⟩ := bok; simp only at b1 b2 b3; omega
  refine ⟨fun m σ H' => ∃ (n : Nat) (B' : Hp) (y4 y5 y6 y7 : Option V) (svs : List V), m = 61 - n ∧ σ = [some (.ref p), some sv, some (.ref ma), some (.ref ra), y4, y5, y6, y7] ∧ Ext none B H1 B' H' ∧ WebS P w W B' H' p dx ln d ls lo' (rowE row lo hi n) ∧ B' ls = none ∧
      H' ls = some (.lst svs) ∧ Paired (IsL IsStep B') svs (((rowE row lo hi n).take n).map (stpN row signs lo hi)) ∧ n ≤ (rowE row lo hi n).length,
    ⟨61, 0, B, none, none, none, none, [], rfl, rfl, X6, S6, bls, s6, .nil, Nat.zero_le _⟩, ?_⟩
  rintro m σ H' ⟨n, B', y4, y5, y6, y7, svs, rfl, rfl, X, S, bls', hls, pst, hn⟩
  obtain ⟨nvs, hnv, pnv⟩ := S.nodes
  have nlen : nvs.length = (rowE row lo hi n).length := by have := Paired.length pnv; rwa [List.length_map] at this
  have slen : svs.length = n := by have := Paired.length pst; rw [List.length_map, List.length_take] at this; omega
  refine ⟨_, rfl, p, W, dx, _, _, rfl, S.ins, T.clW, T.nSteps, rfl, ls, svs, rfl, .inl (SqL.of hls), _, rfl, p, W, dx, _, _, rfl, S.ins, T.clW, T.nNodes, rfl, ln, nvs, rfl, .inl (SqL.of hnv), _, _, rfl, rfl, _, rfl, iteP (fun hlt => ?_) fun hge => ?_⟩
  · have hn' : n < (rowE row lo hi n).length := by omega
    obtain ⟨e, he⟩ : ∃ e, (rowE row lo hi n)[n]? = some e := ⟨_, List.getElem?_eq_getElem hn'⟩
    have hE1 : rowE row lo hi (n + 1) = (msN lo hi).foldl (add1 (stepN row) e.1 e.2) (rowE row lo hi n) := by
      show turn (stepN row) (msN lo hi) (rowE row lo hi n) n = _
      unfold turn
      rw [he]
    have hpre : ∀ l : List Int, ∃ new, l.foldl (add1 (stepN row) e.1 e.2) (rowE row lo hi n) = rowE row lo hi n ++ new := fun l => foldl_add_prefix _ _ _ l _
    have hEk : ∀ k, ((msN lo hi).take k).foldl (add1 (stepN row) e.1 e.2) (rowE row lo hi n) |>.length |> (· ≤ 60) := fun k => by
      have h1 := hlen60 (n + 1)
      rw [hE1, ← List.take_append_drop k (msN lo hi), List.foldl_append] at h1
      obtain ⟨new, q1⟩ := foldl_add_prefix (stepN row) e.1 e.2 ((msN lo hi).drop k) (((msN lo hi).take k).foldl (add1 (stepN row) e.1 e.2) (rowE row lo hi n))
      rw [q1, List.length_append] at h1
      exact Nat.le_trans (Nat.le_add_right _ _) h1
    have elen : e.1.length = row.length := by
      rw [(binv _ _ _ hms n).run_ e (List.mem_of_getElem? he)]
      exact run_len row _ _ (begR_len row)
    refine ⟨fun σ' H'' => ∃ (B' : Hp) (y4 y5 y6 y7 : Option V) (svs : List V), σ' = [some (.ref p), some sv, some (.ref ma), some (.ref ra), y4, y5, y6, y7] ∧ Ext none B H1 B' H'' ∧ WebS P w W B' H'' p dx ln d ls lo' (rowE row lo hi (n + 1)) ∧ B' ls = none ∧
      H'' ls = some (.lst svs) ∧ Paired (IsL IsStep B') svs (((rowE row lo hi (n + 1)).take (n + 1)).map (stpN row signs lo hi)) ∧ n + 1 ≤ (rowE row lo hi (n + 1)).length,
      fun σ' H'' ⟨B', y4, y5, y6, y7, svs, r⟩ => ⟨61 - (n + 1), by have := hlen60 n; omega, n + 1, B', y4, y5, y6, y7, svs, rfl, r⟩, ?_⟩
    -- here = len(self.steps)
    refine ⟨_, rfl, p, W, dx, _, _, rfl, S.ins, T.clW, T.nSteps, rfl, ls, svs, rfl, .inl (SqL.of hls), ?_⟩
    -- found = []
    refine ⟨Nat.zero_le _, fun fl nfl => ?_⟩
    have zfl : H1 fl = none := X.sm.free nfl
    have bfl : B' fl = none := X.in_.free nfl
    have XL := X.trans (ext_loc (o := .lst []) X.in_ nfl)
    have kf : ∀ b o, H' b = some o → (upd H' fl (.lst [])) b = some o := same_new nfl
    have SL : WebS P w W B' (upd H' fl (.lst [])) p dx ln d ls lo' (rowE row lo hi n) := by
      obtain ⟨o, kvs, nd, hk⟩ := S.places
      obtain ⟨ovs, orgs, ho, po, ok⟩ := S.origins
      exact ⟨kf _ _ S.ins, ⟨nvs, kf _ _ hnv, pnv⟩, ⟨o, kvs, nd.same kf, hk⟩, ⟨ovs, orgs, kf _ _ ho, po, ok⟩, S.bp, S.bn, S.bd, S.bo, S.ne⟩
    have fp : fl ≠ p := fun z => by rw [z, S.ins] at nfl; cases nfl
    have fls : fl ≠ ls := fun z => by rw [z, hls] at nfl; cases nfl
    have fln : fl ≠ ln := fun z => by rw [z, hnv] at nfl; cases nfl
    have flo : fl ≠ lo' := fun z => by obtain ⟨_, _, ho, _⟩ := S.origins; rw [z, ho] at nfl; cases nfl
    have fld : fl ≠ d := fun z => by obtain ⟨_, _, nd, _⟩ := S.places; rw [z, nd.at_] at nfl; cases nfl
    refine ⟨_, rfl, ma, rfl, ⟨_, SqL.to XL.in_ (XL.gh _ _ hma)⟩, for_list (K := K) (a := ma) (xs := (msN lo hi).map V.int) (fun k σ H'' => ∃ (B'' : Hp) (y6 y7 : Option V) (fvs : List V),
        σ = [some (.ref p), some sv, some (.ref ma), some (.ref ra), some (.int (n : Int)), some (.ref fl), y6, y7] ∧ Ext none B H1 B'' H'' ∧ Same B' B'' ∧ WebS P w W B'' H'' p dx ln d ls lo' (((msN lo hi).take k).foldl (add1 (stepN row) e.1 e.2) (rowE row lo hi n)) ∧ B'' ls = none ∧ B'' fl = none ∧
        H'' ls = some (.lst svs) ∧ H'' fl = some (.lst fvs) ∧ Paired (IsStep B'') fvs (((msN lo hi).take k).map fun m => (gainN row signs e.1 m, m)))
      ⟨B', y6, y7, [], by rw [slen]; rfl, XL, .refl _, SL, bls', bfl, kf _ _ hls, upd_same, .nil⟩ (fun k σ H'' _ ⟨B'', _, _, _, _, X', _⟩ => SqL.to X'.in_ (X'.gh _ _ hma)) ?_ ?_⟩
    · rintro k x σ H'' hk ⟨B'', y6, y7, fvs, rfl, X', sBB, S', bls2, bfl2, hls2, hfl2, pf⟩
      obtain ⟨mv, hmv, rfl⟩ := map_get hk
      have hkl := (List.getElem?_eq_some_iff.mp hmv).1
      obtain ⟨new, hnew⟩ := hpre ((msN lo hi).take k)
      have hek : (((msN lo hi).take k).foldl (add1 (stepN row) e.1 e.2) (rowE row lo hi n))[n]? = some e := by rw [hnew, List.getElem?_append_left hn']; exact he
      obtain ⟨nvs2, hnv2, pnv2⟩ := S'.nodes
      have hek1 : ((((msN lo hi).take k).foldl (add1 (stepN row) e.1 e.2) (rowE row lo hi n)).map (·.1))[n]? = some e.1 := by rw [List.getElem?_map, hek]; rfl
      obtain ⟨nv, hnvn, pnv⟩ := paired_get pnv2 hek1
      -- pair = rules.after(self.nodes[here], move)
      refine ⟨_, rfl, ra, rdx, _, rfl, X'.in_ _ _ (X'.gh _ _ hra), rfl, ?_⟩
      refine ⟨_, rfl, p, W, dx, _, _, rfl, S'.ins, T.clW, T.nNodes, rfl, _, rfl, ln, nvs2, (n : Int), nv, rfl, rfl, SqL.of hnv2, atI_nat hnvn, _, rfl, ?_⟩
      refine ⟨B'', .ref ra, nv, row, signs, e.1, mv, rfl, X'.in_, mono_Row.up X'.gh hrl, pnv, elen, l2, l3, rok, sok, fun v B3 H3 Y3 pv => ?_⟩
      obtain ⟨pa, v1, v2, rfl, hpa, hv1, hv2⟩ := pv
      cases hv2
      have X3 := X'.trans Y3
      have k3 : ∀ b o, H'' b = some o → H3 b = some o := Y3.sm
      have S3 : WebS P w W B3 H3 p dx ln d ls lo' (((msN lo hi).take k).foldl (add1 (stepN row) e.1 e.2) (rowE row lo hi n)) := by
        obtain ⟨o, kvs, nd, hk⟩ := S'.places
        obtain ⟨ovs, orgs, ho, po, ok⟩ := S'.origins
        have fr : ∀ b o, H'' b = some o → B'' b = none → B3 b = none := fun b o e => Y3.fr b (by rw [e]; simp)
        exact ⟨k3 _ _ S'.ins, ⟨nvs2, k3 _ _ hnv2, mono_Sds.p Y3.gh pnv2⟩, ⟨o, kvs, nd.same k3, hk⟩, ⟨ovs, orgs, k3 _ _ ho, mono_Org.p Y3.gh po, ok⟩, fr _ _ S'.ins S'.bp, fr _ _ hnv2 S'.bn, fr _ _ nd.at_ S'.bd, fr _ _ ho S'.bo, S'.ne⟩
      have bls3 : B3 ls = none := Y3.fr ls (by rw [hls2]; simp) bls2
      have bfl3 : B3 fl = none := Y3.fr fl (by rw [hfl2]; simp) bfl2
      -- if pair is not None
      refine ⟨_, rfl, rfl, _, rfl, iteT ?_⟩
      -- found.append(..)
      refine ⟨_, rfl, .inl ⟨rfl, _, SqL.of (k3 _ _ hfl2)⟩, ?_⟩
      refine ⟨_, rfl, p, dx, _, rfl, S3.ins, rfl, ?_⟩
      refine ⟨_, rfl, pa, _, 0, _, rfl, rfl, SqT.to X3.in_ hpa, atI_nat (j := 0) rfl, _, rfl, _, rfl, ?_⟩
      refine ⟨B3, p, dx, ln, d, ls, lo', _, v1, stepN row e.1 mv, n, mv, e, rfl, X3.in_, S3, hv1, hek, by have := hEk k; omega, fun g B4 H4 F4 S4 => ?_⟩
      have zd1 : ∀ b, b = d ∨ b = ln ∨ b = lo' → H1 b = none := by
        rintro b (rfl | rfl | rfl)
        · exact zd
        · exact zln
        · exact zlo
      have X4 := X3.with F4 zd1
      have hfl4 : H4 fl = some (.lst fvs) := F4.hp fl _ (fun z => z.elim fld fun z => z.elim fln flo) (k3 _ _ hfl2)
      have hls4 : H4 ls = some (.lst svs) := F4.hp ls _ (fun z => z.elim (fun z => sld z.symm) fun z => z.elim (fun z => slln z.symm) olls) (k3 _ _ hls2)
      have bls4 : B4 ls = none := F4.fr ls (by rw [k3 _ _ hls2]; simp) bls3
      have bfl4 : B4 fl = none := F4.fr fl (by rw [k3 _ _ hfl2]; simp) bfl3
      refine ⟨_, rfl, pa, _, 1, _, rfl, rfl, SqT.to X4.in_ (F4.gh _ _ hpa), atI_nat (j := 1) rfl, _, rfl, by show 3 ≤ sizeLine; decide, fun t nt => ?_⟩
      obtain ⟨B5, Y5, et⟩ := ext_upd (o := .tup [g, .int (gainN row signs e.1 mv), .int mv]) X4.in_ nt
      have flen : fvs.length ≤ 7 := by
        have := Paired.length pf
        rw [List.length_map, List.length_take] at this
        omega
      refine ⟨fl, fvs, _, rfl, rfl, Y5.sm _ _ hfl4, by rw [sizeLine_eq]; omega, ?_⟩
      have X5 := X4.trans Y5
      have bfl5 : B5 fl = none := Y5.fr fl (by rw [hfl4]; simp) bfl4
      have k5 : ∀ b o, H4 b = some o → b ≠ fl → (upd (upd H4 t (.tup [g, .int (gainN row signs e.1 mv), .int mv])) fl (.lst (fvs ++ [.ref t]))) b = some o := fun b o e n => by rw [upd_ne n]; exact Y5.sm _ _ e
      refine ⟨B5, _, _, _, rfl, X5.mut (.inr zfl) bfl5 _, sBB.trans (Y3.gh.trans (F4.gh.trans Y5.gh)), ?_, Y5.fr ls (by rw [hls4]; simp) bls4, bfl5, k5 _ _ hls4 (Ne.symm fls), upd_same, ?_⟩
      · obtain ⟨nvs4, hnv4, pnv4⟩ := S4.nodes
        obtain ⟨o, kvs, nd, hk⟩ := S4.places
        obtain ⟨ovs, orgs, ho, po, ok⟩ := S4.origins
        have fr : ∀ b o, H4 b = some o → B4 b = none → B5 b = none := fun b o e => Y5.fr b (by rw [e]; simp)
        have eE : (if has (((msN lo hi).take k).foldl (add1 (stepN row) e.1 e.2) (rowE row lo hi n)) (stepN row e.1 mv) = true then (((msN lo hi).take k).foldl (add1 (stepN row) e.1 e.2) (rowE row lo hi n)) else (((msN lo hi).take k).foldl (add1 (stepN row) e.1 e.2) (rowE row lo hi n)) ++ [(stepN row e.1 mv, e.2 ++ [mv])]) =
            ((msN lo hi).take (k + 1)).foldl (add1 (stepN row) e.1 e.2) (rowE row lo hi n) := by
          rw [List.take_add_one, hmv, List.foldl_append]
          rfl
        rw [← eE]
        exact ⟨k5 _ _ S4.ins (Ne.symm fp), ⟨nvs4, k5 _ _ hnv4 (Ne.symm fln), mono_Sds.p Y5.gh pnv4⟩, ⟨o, kvs, nd.keep (fun b xs e => k5 _ _ e (ne_of e hfl4 (fun z => nomatch z))) (by rw [nd.at_]; exact k5 _ _ nd.at_ (Ne.symm fld)), hk⟩, ⟨ovs, orgs, k5 _ _ ho (Ne.symm flo), mono_Org.p Y5.gh po, ok⟩,
          fr _ _ S4.ins S4.bp, fr _ _ hnv4 S4.bn, fr _ _ nd.at_ S4.bd, fr _ _ ho S4.bo, S4.ne⟩
      · rw [List.take_add_one, hmv, List.map_append]
        exact paired_app (mono_Step.p (Y3.gh.trans (F4.gh.trans Y5.gh)) pf) (paired_one ⟨t, g, rfl, et⟩)
    · rintro σ H'' ⟨B'', y6, y7, fvs, rfl, X', sBB, S', bls2, bfl2, hls2, hfl2, pf⟩
      -- self.steps.append(found)
      rw [List.length_map, List.take_of_length_le (Nat.le_refl _)] at S' pf
      rw [← hE1] at S'
      refine ⟨_, rfl, p, W, dx, _, _, rfl, S'.ins, T.clW, T.nSteps, rfl, .inl ⟨rfl, _, SqL.of hls2⟩, _, rfl, ls, svs, _, rfl, rfl, hls2, by have := hlen60 n; rw [sizeLine_eq]; omega, ?_⟩
      obtain ⟨B3, X3, e3, sm3, ne3⟩ := X'.fix (fun z => nomatch z) zfl bfl2 hfl2
      have bls3 : B3 ls = none := by rw [ne3 ls (Ne.symm fls)]; exact bls2
      have X4 := X3.mut (.inr zls) bls3 (.lst (svs ++ [.ref fl]))
      have k5 : ∀ b o, H'' b = some o → b ≠ ls → (upd H'' ls (.lst (svs ++ [.ref fl]))) b = some o := fun b o e n => by rw [upd_ne n]; exact e
      refine ⟨B3, _, _, _, _, _, rfl, X4, ?_, bls3, upd_same, ?_, ?_⟩
      · obtain ⟨nvs4, hnv4, pnv4⟩ := S'.nodes
        obtain ⟨o, kvs, nd, hk⟩ := S'.places
        obtain ⟨ovs, orgs, ho, po, ok⟩ := S'.origins
        exact ⟨k5 _ _ S'.ins slp, ⟨nvs4, k5 _ _ hnv4 slln, mono_Sds.p sm3 pnv4⟩, ⟨o, kvs, nd.keep (fun b xs e => k5 _ _ e (ne_of e hls2 (fun z => nomatch z))) (by rw [nd.at_]; exact k5 _ _ nd.at_ sld), hk⟩, ⟨ovs, orgs, k5 _ _ ho (Ne.symm olls), mono_Org.p sm3 po, ok⟩,
          by rw [ne3 p (Ne.symm fp)]; exact S'.bp, by rw [ne3 ln (Ne.symm fln)]; exact S'.bn, by rw [ne3 d (Ne.symm fld)]; exact S'.bd, by rw [ne3 lo' (Ne.symm flo)]; exact S'.bo, S'.ne⟩
      · obtain ⟨new, hnew⟩ := hpre (msN lo hi)
        rw [← hE1] at hnew
        have hen : (rowE row lo hi (n + 1))[n]? = some e := by rw [hnew, List.getElem?_append_left hn']; exact he
        rw [List.take_add_one, hen, List.map_append]
        have ht : (rowE row lo hi (n + 1)).take n = (rowE row lo hi n).take n := by rw [hnew, List.take_append_of_le_length hn]
        rw [ht]
        exact paired_app ((mono_L mono_Step).p (sBB.trans sm3) pst) (paired_one ⟨fl, fvs, rfl, e3, mono_Step.p sm3 pf⟩)
      · have := bfs_mono (stepN row) (msN lo hi) (begR row) (Nat.le_succ n)
        show n + 1 ≤ _
        exact Nat.le_trans hn' this
  · -- the end
    have hEn : (rowE row lo hi n).length ≤ n := by omega
    have eE : rowE row lo hi n = rowE row lo hi 61 := few_end _ _ _ few hEn
    rw [List.take_of_length_le hEn] at pst
    rw [eE] at pst S
    obtain ⟨ovs, orgs, ho, po, ok⟩ := S.origins
    obtain ⟨B2, X2', e2, sm2, ne2⟩ := X.fix (fun z => nomatch z) p1 S.bp S.ins
    obtain ⟨B3, X3', e3, sm3, ne3⟩ := X2'.fix (fun z => nomatch z) zls (by rw [ne2 ls (Ne.symm slp)]; exact bls') hls
    obtain ⟨B4, X4', e4, sm4, ne4⟩ := X3'.fix (fun z => nomatch z) zlo (by rw [ne3 lo' (Ne.symm olls), ne2 lo' (Ne.symm olp)]; exact S.bo) ho
    exact q B4 _ X4' ⟨p, dx, ln, d, ls, lo', svs, ovs, orgs, rfl, sm4 _ _ (sm3 _ _ e2), sm4 _ _ e3, (mono_L mono_Step).p (sm2.trans (sm3.trans sm4)) pst, e4, mono_Org.p (sm2.trans (sm3.trans sm4)) po, ok⟩
end
end PB

/-! bundles -/
namespace PB
open PySem PySem.Spec PyProof.Rows L2
theorem findSome_at {α β : Type} {f : α → Option β} {c : β} : ∀ {l : List α} {i : Nat} {e : α}, l[i]? = some e → (∀ x ∈ l.take i, f x = none) → f e = some c → l.findSome? f = some c
  | [], i, e, h, _, _ => by simp at h
  | x :: l, 0, e, h, _, hc => by
    simp only [List.getElem?_cons_zero, Option.some.injEq] at h
    subst h
    simp [List.findSome?_cons, hc]
  | x :: l, i + 1, e, h, hn, hc => by
    have hx : f x = none := hn x (by simp)
    rw [List.findSome?_cons, hx]
    exact findSome_at (l := l) (i := i) (by simpa using h) (fun y hy => hn y (by simp [hy])) hc
theorem find_at {α : Type} {p : α → Bool} : ∀ {l : List α} {i : Nat} {e : α}, l[i]? = some e → (∀ x ∈ l.take i, p x = false) → p e = true → l.find? p = some e
  | [], i, e, h, _, _ => by simp at h
  | x :: l, 0, e, h, _, hc => by
    simp only [List.getElem?_cons_zero, Option.some.injEq] at h
    subst h
    simp [List.find?_cons, hc]
  | x :: l, i + 1, e, h, hn, hc => by
    have hx : p x = false := hn x (by simp)
    rw [List.find?_cons, hx]
    exact find_at (l := l) (i := i) (by simpa using h) (fun y hy => hn y (by simp [hy])) hc
abbrev Cls_ (C : Addr) : Rel (List Tm) := IsT (IsCl C)
theorem mono_Cls {C : Addr} : Mono (Cls_ C) := mono_T mono_Cl
section
variable {P : Program} {w : World} {K : PySem.W.Frag} {mg : PySem.Str → Option Value} {base : Heap} {C W R : Addr}
def spSome (C : Addr) : Sp := fun vs H Q _ => ∃ B cv row, vs = [cv, .int 3] ∧ Same B H ∧ Cls_ C B cv row ∧ 1 ≤ row.length ∧ row.length ≤ 3 ∧ ∀ H', Same H H' → Q .non H'
abbrev N_check_some : List PySem.Str := ["clauses", "most", "index", "clause"]
theorem sc_check_some : FnScope N_check_some ["clauses", "most"] (defScope st_check_some) := ⟨rfl, rfl, rfl, by decide +kernel, rfl, by decide +kernel, by decide +kernel⟩
theorem b_check_some (T : Txt K mg C W R) : Body P w K mg base N_check_some "check_some" st_check_some 0 (spSome C) := by
  intro f cdv A outer s H vs Q E hr h
  obtain ⟨B, cv, row, rfl, sB, ⟨ca, cvs, rfl, hca, pc⟩, l1, l2, q⟩ := h
  have lc := Paired.length pc
  refine ⟨_, (pss_cons (ps_if (PW.pt (pw_or (pt_not (pt_val (pe_callB call_isi (by rfl) T.bisinstance (by decide +kernel) (pa_cons (pv 0) (pa_cons (pe_bltn (v := .ty "tuple") (u := .type "tuple") (by rfl) T.btuple (by decide +kernel) rfl) pa_nil))))) (pw_or1 (pt_cmpR op_eq (pe_callB call_len_seq (by rfl) T.blen PySem.boot_len (pa_cons (pv 0) pa_nil)) pe_int (nomark _))))) (pss_one ps_never) pss_nil)
      (pss_one (ps_for PassesOwn.never rfl (pi_enumT (by rfl) T.benumerate (pa_cons (pv 0) pa_nil)) (pg_tup rfl (pgs_cons (pg_name (i := 2) sc_check_some.nd rfl (Or.inl rfl)) (pgs_cons (pg_name (i := 3) sc_check_some.nd rfl (Or.inl rfl)) pgs_nil)))
      (pss_one (ps_if (PW.pt (pw_or (pt_cmpR op_eq (pv 2) (pv 1) (nomark _)) (pw_or1 (pt_not (pt_val (pe_callB call_isi (by rfl) T.bisinstance (by decide +kernel) (pa_cons (pv 3) (pa_cons (pe_glob (v := .ref C) (u := .ref C) (by rfl) T.mgC rfl) pa_nil)))))))) (pss_one ps_never) pss_nil))))), ?_⟩
  refine ⟨_, rfl, _, _, _, _, true, rfl, .ty "tuple", .base (.tup (sB _ _ hca)), kit_ty (by decide +kernel), true, rfl, iteF ⟨_, rfl, _, _, rfl, .inr (SqT.to sB hca), rfl, _, rfl, iteI (fun z => by omega) fun _ => ?_⟩⟩
  refine ⟨_, rfl, ca, cvs, rfl, SqT.to sB hca, for_it walk_enumT (fun i σ H' => ∃ y2 y3, σ = [some (.ref ca), some (.int 3), y2, y3] ∧ Same H H') ⟨_, _, rfl, .refl _⟩ (fun i σ H' _ ⟨_, _, _, s⟩ => SqT.to (sB.trans s) hca) ?_ ?_⟩
  · rintro i x σ H3 H4 hi ⟨y2, y3, rfl, s⟩ ⟨T1, x1, x2, rfl, nT, rfl, f1, f2⟩
    cases f1
    obtain ⟨t, ht, pt⟩ := paired_getL pc f2
    obtain ⟨a, dx, tp, rfl, ha, htp⟩ := pt
    have s3 := s.trans (same_new (o := .tup [.int (i : Nat), .ref a]) nT)
    refine ⟨T1, _, rfl, SqT.of upd_same, rfl, _, _, rfl, _, _, rfl, rfl, ?_⟩
    refine ⟨_, rfl, _, rfl, rfl, _, rfl, iteI (fun z => by omega) fun _ => ?_⟩
    refine ⟨_, rfl, _, _, _, _, true, rfl, .own C, T.tyC _ a dx _ (s3 _ _ (sB _ _ ha)), T.oneC, true, rfl, iteF ⟨_, _, rfl, s3⟩⟩
  · rintro σ H3 ⟨y2, y3, rfl, s⟩
    exact q H3 s
def spBegunRow (C : Addr) : Sp := fun vs H Q _ => ∃ B cv row, vs = [cv] ∧ Same B H ∧ Cls_ C B cv row ∧ row.length ≤ 6 ∧ ∀ v B' H', Ext none B H B' H' → IsSds B' v (begR row) → Q v H'
abbrev N_begun_row : List PySem.Str := ["clauses", "clause"]
theorem sc_begun_row : FnScope N_begun_row ["clauses"] (defScope st_begun_row) := ⟨rfl, rfl, rfl, by decide +kernel, rfl, by decide +kernel, by decide +kernel⟩
theorem b_begun_row (T : Txt K mg C W R) (p : Props P w K mg base C) : Body P w K mg base N_begun_row "begun_row" st_begun_row 2 (spBegunRow C) := by
  intro f cdv A outer s H vs Q E hr h
  obtain ⟨B, cv, row, rfl, sB, ⟨ca, cvs, rfl, hca, pc⟩, l1, q⟩ := h
  have lc := Paired.length pc
  refine ⟨_, (pss_one (ps_ret (pe_callTy call_tuple_of (by rfl) T.btuple (by decide +kernel) (pa_cons (pe_lc (own := [("clause", 1)]) (g := gName 1) rfl sc_begun_row.nd (pi_tup (pv 0)) (blkOk_by (own := [("clause", 1)]) (N := N_begun_row) (sc := defScope st_begun_row) (by decide +kernel)) (fun _ _ _ _ _ => (pg_name (i := 1) sc_begun_row.nd rfl (Or.inl rfl))) (fun _ _ _ _ _ => pts_nil) (fun _ _ _ _ _ => (pe_propF p.begun T.clC hr (pv 1)))) pa_nil)))), ?_⟩
  refine ⟨_, rfl, ca, rfl, ⟨_, SqT.to sB hca⟩, fun D nD => lc_new walk_T (begR row) IsSd mono_Sd sB nD (by rw [begR_len, lc]) (by rw [sizeLine_eq]; omega) (fun H2 s2 => SqT.to (sB.trans s2) hca) ?_ ?_⟩
  · rintro i x z B1 H2 H3 Qn Qs hz X ⟨rfl, hx⟩ hq
    obtain ⟨t, ht, rfl⟩ := map_get hz
    obtain ⟨c, hc, pt⟩ := paired_get pc ht
    cases hx.symm.trans hc
    obtain ⟨a, dx, tp, rfl, ha, htp⟩ := pt
    refine ⟨rfl, yesT ⟨_, rfl, a, dx, _, rfl, X.in_ _ _ (X.gh _ _ ha), a, dx, tp, t, rfl, X.in_ _ _ (X.gh _ _ ha), X.in_ _ _ (X.gh _ _ htp), fun p H4 np s4 e4 => ?_⟩⟩
    obtain ⟨B2, Y, e⟩ := ext_new X.in_ np s4 e4
    exact hq _ B2 H4 Y ⟨p, rfl, e⟩
  · rintro B1 H2 X1 ⟨D', ls, e, hD, pl⟩
    cases e
    refine ⟨D, ls, rfl, .inl ⟨SqL.to X1.in_ hD, fun l nl => ?_⟩⟩
    obtain ⟨B2, X2, e2⟩ := ext_upd (o := .tup ls) X1.in_ nl
    exact q _ B2 _ (X1.trans X2) ⟨l, ls, rfl, e2, mono_Sd.p X2.gh pl⟩
theorem OrgOk.small {S : Type} {E : List (En S)} {orgs : List (Option (Nat × Int))} (k : OrgOk E orgs) : ∀ (i : Nat) e, E[i]? = some e → e.2.length ≤ i := by
  intro i
  induction i using Nat.strongRecOn with
  | _ i ih =>
    intro e he
    have hl := (List.getElem?_eq_some_iff.mp he).1
    obtain ⟨o, ho⟩ : ∃ o, orgs[i]? = some o := ⟨_, List.getElem?_eq_getElem (by rw [k.len]; exact hl)⟩
    cases o with
    | none => rw [k.non i e he ho]; exact Nat.zero_le _
    | some x =>
      obtain ⟨q1, e', q2, q3⟩ := k.som i e x he ho
      have := ih x.1 q1 e' q2
      rw [q3, List.length_append, List.length_singleton]
      omega
def Tells (r : Option (List Int)) (H : Hp) (Q : VK) : Prop := match r with
  | none => ∀ H', Same H H' → Q .non H'
  | some c => ∀ a H', H a = none → Same H H' → H' a = some (.tup (c.map V.int)) → Q (.ref a) H'
structure BunPre (C : Addr) (B H : Hp) (o t b : V) (r1 r2 : List Tm) (lo hi : Int) : Prop where
  sB : Same B H
  one : Cls_ C B o r1
  two : Cls_ C B t r2
  bd : IsBand B b (lo, hi)
  bok : BandOk (lo, hi)
  l1 : 1 ≤ r1.length ∧ r1.length ≤ 3
  l2 : 1 ≤ r2.length ∧ r2.length ≤ 3
  ok1 : RowOk r1
  ok2 : RowOk r2
  few : FewR (r1 ++ r2) lo hi 60
theorem BunPre.later {C : Addr} {B H B1 H1 : Hp} {o t b : V} {r1 r2 : List Tm} {lo hi : Int} (p : BunPre C B H o t b r1 r2 lo hi) (X : Ext none B H B1 H1) : BunPre C B1 H1 o t b r1 r2 lo hi :=
  ⟨X.in_, mono_Cls.up X.gh p.one, mono_Cls.up X.gh p.two, mono_Band.up X.gh p.bd, p.bok, p.l1, p.l2, p.ok1, p.ok2, p.few⟩
theorem sgn_ok (a b : Nat) : SgnOk (sgn a b) := by
  intro x hx
  rcases List.mem_append.mp hx with h | h
  · exact .inl (List.eq_of_mem_replicate h)
  · exact .inr (List.eq_of_mem_replicate h)
def spWeb (C W : Addr) : Sp := fun vs H Q _ => ∃ B o t b r1 r2 lo hi, vs = [o, t, b] ∧ BunPre C B H o t b r1 r2 lo hi ∧
  ∀ v B' H', Ext none B H B' H' → IsWeb W B' v (rowE (r1 ++ r2) lo hi 61) ((rowE (r1 ++ r2) lo hi 61).map (stpN (r1 ++ r2) (sgn r1.length r2.length) lo hi)) → Q v H'
abbrev N_web_of_bundles : List PySem.Str := ["ones", "others", "band", "row", "signs", "clause"]
theorem sc_web_of_bundles : FnScope N_web_of_bundles ["ones", "others", "band"] (defScope st_web_of_bundles) := ⟨rfl, rfl, rfl, by decide +kernel, rfl, by decide +kernel, by decide +kernel⟩
theorem b_web_of_bundles (T : Txt K mg C W R) (g_begun_row : Fn P w K mg base 3 "begun_row" ["clauses"] (spBegunRow C)) (g_moves_of : Fn P w K mg base 1 "moves_of" ["band"] spMoves)
    (i_Row : FnI P w K mg base 1 R "Row" ["self", "row", "signs"] (spRInit R)) (i_Web : FnI P w K mg base 6 W "Web" ["self", "start", "moves", "rules"] (spWInit C W R)) :
    Body P w K mg base N_web_of_bundles "web_of_bundles" st_web_of_bundles 7 (spWeb C W) := by
  intro f cdv A outer s H vs Q E hr h
  obtain ⟨B, o, t, b, r1, r2, lo, hi, rfl, pre, q⟩ := h
  have sB := pre.sB
  obtain ⟨oa, ovs, rfl, hoa, po⟩ := pre.one
  obtain ⟨ta, tvs, rfl, hta, pt⟩ := pre.two
  obtain ⟨ba, rfl, hba⟩ := pre.bd
  have lo1 : ovs.length = r1.length := Paired.length po
  have lt1 : tvs.length = r2.length := Paired.length pt
  have h1 := pre.l1
  have h2 := pre.l2
  refine ⟨_, (pss_cons (ps_set (i := 3) sc_web_of_bundles.nd rfl (Or.inl rfl) (pe_op op_catA (pv 0) (pv 1)))
      (pss_cons (ps_set (i := 4) sc_web_of_bundles.nd rfl (Or.inl rfl) (pe_op op_cat (pe_lc (own := [("clause", 5)]) (g := gName 5) rfl sc_web_of_bundles.nd (pi_tup (pv 0)) (blkOk_by (own := [("clause", 5)]) (N := N_web_of_bundles) (sc := defScope st_web_of_bundles) (by decide +kernel)) (fun _ _ _ _ _ => (pg_name (i := 5) sc_web_of_bundles.nd rfl (Or.inl rfl))) (fun _ _ _ _ _ => pts_nil) (fun _ _ _ _ _ => pe_int)) (pe_lc (own := [("clause", 5)]) (g := gName 5) rfl sc_web_of_bundles.nd (pi_tup (pv 1)) (blkOk_by (own := [("clause", 5)]) (N := N_web_of_bundles) (sc := defScope st_web_of_bundles) (by decide +kernel)) (fun _ _ _ _ _ => (pg_name (i := 5) sc_web_of_bundles.nd rfl (Or.inl rfl))) (fun _ _ _ _ _ => pts_nil) (fun _ _ _ _ _ => (pe_un un_neg pe_int)))))
      (pss_one (ps_ret (pe_makeF i_Web hr (pa_cons (pe_callF g_begun_row hr (pa_cons (pv 3) pa_nil)) (pa_cons (pe_callF g_moves_of hr (pa_cons (pv 2) pa_nil)) (pa_cons (pe_makeF i_Row hr (pa_cons (pv 3) (pa_cons (pv 4) pa_nil))) pa_nil)))))))), ?_⟩
  refine ⟨_, rfl, _, rfl, oa, ta, ovs, tvs, rfl, rfl, SqT.to sB hoa, SqT.to sB hta, by rw [sizeLine_eq]; omega, fun z => by subst z; simp at lo1; omega, fun _ z => by subst z; simp at lt1; omega, fun _ _ rp nrp => ?_⟩
  obtain ⟨B1, X1, e1⟩ := ext_upd (o := .tup (ovs ++ tvs)) sB nrp
  have p12 : Paired (IsCl C B1) (ovs ++ tvs) (r1 ++ r2) := paired_app (mono_Cl.p X1.gh po) (mono_Cl.p X1.gh pt)
  -- signs
  refine ⟨_, rfl, oa, rfl, ⟨_, SqT.to X1.in_ (X1.gh _ _ hoa)⟩, fun D nD => lc_new walk_T (List.replicate r1.length 1) IsI mono_I X1.in_ nD (by rw [List.length_replicate, lo1]) (by rw [sizeLine_eq]; omega) (fun H2 s2 => SqT.to (X1.in_.trans s2) (X1.gh _ _ hoa)) ?_ ?_⟩
  · rintro i x z B2 H2 H3 Qn Qs hz X ⟨rfl, hx⟩ hq
    have ez : z = 1 := List.eq_of_mem_replicate (List.mem_of_getElem? hz)
    subst ez
    exact ⟨rfl, yesT (hq _ B2 _ (.refl X.in_) rfl)⟩
  rintro B2 H2 X2 ⟨D', gs, e, hD, pg⟩
  cases e
  refine ⟨_, rfl, ta, rfl, ⟨_, SqT.to X2.in_ ((X1.gh.trans X2.gh) _ _ hta)⟩, fun D2 nD2 => lc_new walk_T (List.replicate r2.length (-1)) IsI mono_I X2.in_ nD2 (by rw [List.length_replicate, lt1]) (by rw [sizeLine_eq]; omega) (fun H2 s2 => SqT.to (X2.in_.trans s2) ((X1.gh.trans X2.gh) _ _ hta)) ?_ ?_⟩
  · rintro i x z B3 H3 H4 Qn Qs hz X ⟨rfl, hx⟩ hq
    have ez : z = -1 := List.eq_of_mem_replicate (List.mem_of_getElem? hz)
    subst ez
    exact ⟨rfl, yesT ⟨_, rfl, hq _ B3 _ (.refl X.in_) rfl⟩⟩
  rintro B3 H3 X3 ⟨D2', gs2, e, hD2, pg2⟩
  cases e
  have lg := Paired.length pg
  have lg2 := Paired.length pg2
  rw [List.length_replicate] at lg lg2
  refine ⟨D, D2, gs, gs2, rfl, rfl, X3.in_ _ _ (X3.gh _ _ hD), X3.in_ _ _ hD2, by rw [sizeLine_eq]; omega, fun sp nsp => ?_⟩
  obtain ⟨B4, X4, e4⟩ := ext_upd (o := .lst (gs ++ gs2)) X3.in_ nsp
  have X14 := X1.trans (X2.trans (X3.trans X4))
  have g24 : Same B1 B4 := X2.gh.trans (X3.gh.trans X4.gh)
  have psg : Paired (IsI B4) (gs ++ gs2) (sgn r1.length r2.length) := paired_app (mono_I.p (X3.gh.trans X4.gh) pg) (mono_I.p X4.gh pg2)
  have hrow4 : Cls_ C B4 (.ref rp) (r1 ++ r2) := ⟨rp, _, rfl, g24 _ _ e1, mono_Cl.p g24 p12⟩
  have lrow : (r1 ++ r2).length ≤ 6 := by rw [List.length_append]; omega
  -- Web(begun_row(row), moves_of(band), Row(row, signs))
  refine ⟨_, rfl, B4, .ref rp, r1 ++ r2, rfl, X4.in_, hrow4, lrow, fun sv B5 H5 X5 hsv => ?_⟩
  refine ⟨_, rfl, ba, lo, hi, rfl, X5.in_ _ _ (X5.gh _ _ (X14.gh _ _ hba)), pre.bok, fun mp H6 nmp s6 e6 => ?_⟩
  obtain ⟨B6, X6, hmp⟩ := ext_new X5.in_ nmp s6 e6
  refine ⟨_, rfl, _, rfl, fun x dx nx ndx ndx2 => ?_⟩
  refine ⟨x, dx, .ref rp, .ref sp, rfl, upd_same, fun H7 k7 e7 => ⟨rfl, ?_⟩⟩
  have s7 : Same H6 H7 := fun b o e => k7 b o (ne_of_none e nx) (by rw [upd_ne (ne_of_none e nx), upd_ne (ne_of_none e ndx)]; exact e)
  obtain ⟨B7, X7, hx7⟩ := ext_new X6.in_ nx s7 e7
  have g47 : Same B4 B7 := X5.gh.trans (X6.gh.trans X7.gh)
  intro y dy ny ndy nyy
  refine ⟨B7, H7, y, dy, sv, .ref mp, .ref x, r1 ++ r2, sgn r1.length r2.length, lo, hi, rfl, X7.in_, ny, fun b o e => by rw [upd_ne (ne_of_none e ny), upd_ne (ne_of_none e ndy)]; exact e, upd_same, mono_Sds.up (X6.gh.trans X7.gh) hsv,
    ⟨mp, _, rfl, X7.gh _ _ hmp, isI_of _⟩, ⟨x, dx, .ref rp, .ref sp, rfl, hx7, mono_Cls.up g47 hrow4, ⟨sp, _, rfl, g47 _ _ e4, mono_I.p g47 psg⟩⟩, by simp [sgn], lrow, ?_, sgn_ok _ _, pre.few, pre.bok, fun B8 H8 X8 hw => ⟨rfl, q _ B8 H8 (X14.trans (X5.trans (X6.trans (X7.trans X8)))) hw⟩⟩
  intro u hu
  rcases List.mem_append.mp hu with h | h
  · exact pre.ok1 u h
  · exact pre.ok2 u h
abbrev N_checked_bundles : List PySem.Str := ["ones", "others", "band"]
theorem sc_checked_bundles : FnScope N_checked_bundles ["ones", "others", "band"] (defScope st_checked_bundles) := ⟨rfl, rfl, rfl, by decide +kernel, rfl, by decide +kernel, by decide +kernel⟩
theorem b_checked_bundles (T : Txt K mg C W R) (g_check_some : Fn P w K mg base 1 "check_some" ["clauses", "most"] (spSome C)) (g_check_band : Fn P w K mg base 4 "check_band" ["band"] spCheckBand)
    (g_web_of_bundles : Fn P w K mg base 8 "web_of_bundles" ["ones", "others", "band"] (spWeb C W)) :
    Body P w K mg base N_checked_bundles "checked_bundles" st_checked_bundles 8 (spWeb C W) := by
  intro f cdv A outer s H vs Q E hr h
  obtain ⟨B, o, t, b, r1, r2, lo, hi, rfl, pre, q⟩ := h
  refine ⟨_, (pss_cons (ps_expr (pe_callF g_check_some hr (pa_cons (pv 0) (pa_cons (pe_const T.iBUNDLE) pa_nil))))
      (pss_cons (ps_expr (pe_callF g_check_some hr (pa_cons (pv 1) (pa_cons (pe_const T.iBUNDLE) pa_nil))))
      (pss_cons (ps_expr (pe_callF g_check_band hr (pa_cons (pv 2) pa_nil)))
      (pss_one (ps_ret (pe_callF g_web_of_bundles hr (pa_cons (pv 0) (pa_cons (pv 1) (pa_cons (pv 2) pa_nil))))))))), ?_⟩
  refine ⟨_, rfl, B, o, r1, rfl, pre.sB, pre.one, pre.l1.1, pre.l1.2, fun H1 s1 => ?_⟩
  refine ⟨_, rfl, B, t, r2, rfl, pre.sB.trans s1, pre.two, pre.l2.1, pre.l2.2, fun H2 s2 => ?_⟩
  obtain ⟨ba, rfl, hba⟩ := pre.bd
  refine ⟨_, rfl, ba, lo, hi, rfl, (pre.sB.trans (s1.trans s2)) _ _ hba, pre.bok, ?_⟩
  have Y := ext_same (j := none) pre.sB (s1.trans s2)
  exact ⟨_, rfl, _, rfl, _, rfl, B, o, t, .ref ba, r1, r2, lo, hi, rfl, pre.later Y, fun v B' H' X hw => q v B' H' (Y.trans X) hw⟩
def spParting (C : Addr) : Sp := fun vs H Q _ => ∃ B o t b r1 r2 lo hi, vs = [o, t, b] ∧ BunPre C B H o t b r1 r2 lo hi ∧ Tells (toldN r1 r2 lo hi 61) H Q
abbrev N_bundle_parting : List PySem.Str := ["ones", "others", "band", "web", "place", "steps", "goal", "gain", "move"]
theorem sc_bundle_parting : FnScope N_bundle_parting ["ones", "others", "band"] (defScope st_bundle_parting) := ⟨rfl, rfl, rfl, by decide +kernel, rfl, by decide +kernel, by decide +kernel⟩
theorem b_bundle_parting (T : Txt K mg C W R) (g_checked_bundles : Fn P w K mg base 9 "checked_bundles" ["ones", "others", "band"] (spWeb C W)) (m_course_to : FnM P w K mg base 1 W "course_to" ["self", "place"] (spCourse W)) :
    Body P w K mg base N_bundle_parting "bundle_parting" st_bundle_parting 9 (spParting C) := by
  intro f cdv A outer s H vs Q E hr h
  obtain ⟨B, o, t, b, r1, r2, lo, hi, rfl, pre, q⟩ := h
  refine ⟨_, (pss_cons (ps_set (i := 3) sc_bundle_parting.nd rfl (Or.inl rfl) (pe_callF g_checked_bundles hr (pa_cons (pv 0) (pa_cons (pv 1) (pa_cons (pv 2) pa_nil)))))
      (pss_cons (ps_for PassesOwn.never rfl (pi_enum (by rfl) T.benumerate (pa_cons (pe_fld (pv 3) rfl) pa_nil)) (pg_tup rfl (pgs_cons (pg_name (i := 4) sc_bundle_parting.nd rfl (Or.inl rfl)) (pgs_cons (pg_name (i := 5) sc_bundle_parting.nd rfl (Or.inl rfl)) pgs_nil)))
      (pss_one (ps_for PassesOwn.never rfl (pi_list (pv 5)) (pg_tup rfl (pgs_cons (pg_name (i := 6) sc_bundle_parting.nd rfl (Or.inl rfl)) (pgs_cons (pg_name (i := 7) sc_bundle_parting.nd rfl (Or.inl rfl)) (pgs_cons (pg_name (i := 8) sc_bundle_parting.nd rfl (Or.inl rfl)) pgs_nil))))
      (pss_one (ps_if (pt_cmpR op_ne (pv 7) pe_int (nomark _)) (pss_one (ps_ret (pe_tup (StX.pa_star (pe_methF m_course_to T.clW hr (pv 3) (pa_cons (pv 4) pa_nil)) (pa_cons (pv 8) pa_nil))))) pss_nil)))))
      (pss_one (ps_ret pe_non)))), ?_⟩
  refine ⟨_, rfl, _, rfl, _, rfl, B, o, t, b, r1, r2, lo, hi, rfl, pre, fun v B1 H1 X1 hw => ?_⟩
  have hw' := hw
  obtain ⟨⟨p, dx, ln, d, ls, lo', svs, ovs, orgs, rfl, hp, hls, pst, hlo, po, ok⟩⟩ := hw
  have lsv : svs.length = (rowE (r1 ++ r2) lo hi 61).length := by have := Paired.length pst; rwa [List.length_map] at this
  have h60 : (rowE (r1 ++ r2) lo hi 61).length ≤ 60 := few_len _ _ _ pre.few 61
  refine ⟨_, rfl, p, W, dx, _, _, rfl, X1.in_ _ _ hp, T.clW, T.nSteps, rfl, ls, svs, rfl, SqL.to X1.in_ hls, for_it walk_enum (fun i σ H' => ∃ y4 y5 y6 y7 y8, σ = [some o, some t, some b, some (.ref p), y4, y5, y6, y7, y8] ∧ Same H1 H' ∧
      ∀ e ∈ (rowE (r1 ++ r2) lo hi 61).take i, hit1 (msN lo hi) (gainN (r1 ++ r2) (sgn r1.length r2.length)) e = none)
    ⟨_, _, _, _, _, rfl, .refl _, fun e he => by simp at he⟩ (fun i σ H' _ ⟨_, _, _, _, _, _, s, _⟩ => SqL.to (X1.in_.trans s) hls) ?_ ?_⟩
  · rintro i x σ H2 H3 hli ⟨y4, y5, y6, y7, y8, rfl, s2, hnone⟩ ⟨T1, x1, x2, rfl, nT, rfl, f1, f2⟩
    cases f1
    have s3 := s2.trans (same_new (o := .tup [.int (i : Nat), x2]) nT)
    generalize eH3 : upd H2 T1 (.tup [.int (i : Nat), x2]) = H3 at s3
    have hT1 : H3 T1 = some (.tup [.int (i : Nat), x2]) := by rw [← eH3]; exact upd_same
    refine ⟨T1, _, rfl, SqT.of hT1, rfl, _, _, rfl, _, _, rfl, rfl, ?_⟩
    obtain ⟨e, he⟩ : ∃ e, (rowE (r1 ++ r2) lo hi 61)[i]? = some e := ⟨_, List.getElem?_eq_getElem (by omega)⟩
    have hst : ((rowE (r1 ++ r2) lo hi 61).map (stpN (r1 ++ r2) (sgn r1.length r2.length) lo hi))[i]? = some (stpN (r1 ++ r2) (sgn r1.length r2.length) lo hi e) := by rw [List.getElem?_map, he]; rfl
    obtain ⟨sv, hsv, psv⟩ := paired_get pst hst
    cases f2.symm.trans hsv
    obtain ⟨sa, stv, rfl, hsa, pstv⟩ := psv
    have lstv : stv.length = (msN lo hi).length := by have := Paired.length pstv; rw [this]; simp [stpN]
    refine ⟨_, rfl, sa, rfl, ⟨_, SqL.to (X1.in_.trans s3) hsa⟩, for_list (K := K) (a := sa) (xs := stv) (fun k σ H' => ∃ y6 y7 y8, σ = [some o, some t, some b, some (.ref p), some (.int (i : Int)), some (.ref sa), y6, y7, y8] ∧ Same H1 H' ∧
        ∀ m ∈ (msN lo hi).take k, gainN (r1 ++ r2) (sgn r1.length r2.length) e.1 m = 0)
      ⟨_, _, _, rfl, s3, fun m hm => by simp at hm⟩ (fun k σ H' _ ⟨_, _, _, _, s, _⟩ => SqL.to (X1.in_.trans s) hsa) ?_ ?_⟩
    · rintro k x σ H' hk ⟨y6, y7, y8, rfl, s4, hz⟩
      obtain ⟨st, hst2, pst2⟩ := paired_getL pstv hk
      obtain ⟨m, hm, rfl⟩ := map_get hst2
      obtain ⟨ta, g, rfl, hta⟩ := pst2
      refine ⟨ta, _, rfl, SqT.to (X1.in_.trans s4) hta, rfl, _, _, rfl, _, _, rfl, _, _, rfl, rfl, ?_⟩
      refine ⟨_, rfl, rfl, _, rfl, iteIN (fun hne => ?_) fun heq => ?_⟩
      · -- return
        refine ⟨_, rfl, p, dx, _, rfl, (X1.in_.trans s4) _ _ hp, rfl, _, rfl, B1, .ref p, _, _, i, e, rfl, X1.in_.trans s4, hw', he, by have := ok.small i e he; omega, fun c H5 nc s5 e5 => ?_⟩
        refine ⟨c, _, rfl, .inl (SqT.of e5), _, rfl, ?_⟩
        have hle := ok.small i e he
        refine ⟨by simp; rw [sizeLine_eq]; omega, fun a na => ?_⟩
        have ht : toldN r1 r2 lo hi 61 = some (e.2 ++ [m]) := by
          refine findSome_at he hnone ?_
          show ((msN lo hi).find? _).map _ = _
          rw [find_at (e := m) hm (fun y hy => by simpa using hz y hy) (by simpa using hne)]
          rfl
        rw [ht] at q
        have s15 := (X1.sm.trans s4).trans s5
        refine q a _ (s15.free na) (s15.trans (same_new na)) ?_
        rw [upd_same, List.map_append]
        rfl
      · refine ⟨_, _, _, rfl, s4, fun y hy => ?_⟩
        rw [List.take_add_one, hm] at hy
        rcases List.mem_append.mp hy with h | h
        · exact hz y h
        · have : y = m := by simpa using h
          rw [this]; exact heq
    · rintro σ H' ⟨y6, y7, y8, rfl, s4, hz⟩
      rw [lstv, List.take_of_length_le (Nat.le_refl _)] at hz
      refine ⟨_, _, _, _, _, rfl, s4, fun e' he' => ?_⟩
      rw [List.take_add_one, he] at he'
      rcases List.mem_append.mp he' with h | h
      · exact hnone e' h
      · have : e' = e := by simpa using h
        rw [this]
        show ((msN lo hi).find? _).map _ = none
        have hf : (msN lo hi).find? (fun m => decide (gainN (r1 ++ r2) (sgn r1.length r2.length) e.1 m ≠ 0)) = none := List.find?_eq_none.mpr fun y hy => by simpa using hz y hy
        rw [hf]
        rfl
  · rintro σ H' ⟨y4, y5, y6, y7, y8, rfl, s2, hnone⟩
    rw [lsv, List.take_of_length_le (Nat.le_refl _)] at hnone
    have ht : toldN r1 r2 lo hi 61 = none := List.findSome?_eq_none_iff.mpr hnone
    rw [ht] at q
    exact q H' (X1.sm.trans s2)
end
end PB

/-! the law's draws -/
namespace PB
open PySem PySem.Spec PyProof.Rows L2
theorem if_join {c : Bool} {ta tb : TE} {σ : L2.St} {H : Hp} {Q : VK} (S : V → Hp → Prop) (hA : ∀ Q' : VK, (∀ v H', S v H' → Q' v H') → c = true → ta σ H Q') (hB : ∀ Q' : VK, (∀ v H', S v H' → Q' v H') → c = false → tb σ H Q') (k : ∀ v H', S v H' → Q v H') :
    if c = true then ta σ H Q else tb σ H Q := by
  cases c with
  | true => exact iteT (hA Q k rfl)
  | false => exact iteF (hB Q k rfl)
def Jar (H : Hp) (a : Addr) : Prop := ∃ g s c : Int, H a = some (.lst [.int g, .int s, .int c]) ∧ 0 ≤ g
theorem Jar.some {H : Hp} {a : Addr} (j : Jar H a) : H a ≠ none := by
  obtain ⟨g, s, c, e, _⟩ := j
  rw [e]
  simp
theorem Jar.new {H : Hp} {a p : Addr} {o : HO} (j : Jar H a) (n : H p = none) : Jar (upd H p o) a := by
  obtain ⟨g, s, c, e, z⟩ := j
  exact ⟨g, s, c, same_new n _ _ e, z⟩
theorem Jar.same {H H' : Hp} {a : Addr} (j : Jar H a) (s : Same H H') : Jar H' a := by
  obtain ⟨g, x, c, e, z⟩ := j
  exact ⟨g, x, c, s _ _ e, z⟩
theorem ext_jar {B H H' : Hp} {a : Addr} (s : Same B H) (n : B a = none) (k : ∀ b o, b ≠ a → H b = some o → H' b = some o) (j : Jar H' a) : Ext (some a) B H B H' := by
  refine ⟨fun b o q e => k b o (fun z => q (by rw [z])) e, .refl _, fun b o e => k b o (fun z => by rw [z, n] at e; cases e) (s _ _ e), fun _ _ e => e, fun b q => ?_⟩
  by_cases h : b = a
  · rw [h]; exact j.some
  · cases e : H b with
    | none => exact absurd e q
    | some o => rw [k b o h e]; simp
theorem pick {xs : List V} {d : Int} (h0 : 0 ≤ d) (h1 : d < xs.length) : ∃ v, atI xs d = some v ∧ v ∈ xs := by
  obtain ⟨n, rfl⟩ := Int.eq_ofNat_of_zero_le h0
  have hn : n < xs.length := by omega
  exact ⟨xs[n], atI_nat (List.getElem?_eq_getElem hn), List.getElem_mem hn⟩
theorem pickI {ns : List Int} {lo hi d : Int} (hall : ns.all (fun n => decide (lo ≤ n ∧ n ≤ hi)) = true) (h0 : 0 ≤ d) (h1 : d < ns.length) : ∃ n, atI (ns.map V.int) d = some (.int n) ∧ lo ≤ n ∧ n ≤ hi := by
  obtain ⟨v, e, m⟩ := pick (xs := ns.map V.int) h0 (by rw [List.length_map]; exact h1)
  obtain ⟨n, hn, rfl⟩ := List.mem_map.mp m
  have := List.all_eq_true.mp hall n hn
  exact ⟨n, e, of_decide_eq_true this⟩
theorem pickO {os : List (Option Int)} {lo hi d : Int} (hall : os.all (fun o => match o with | none => true | some n => decide (lo ≤ n ∧ n ≤ hi)) = true) (h0 : 0 ≤ d) (h1 : d < os.length) : ∃ o, atI (os.map optV) d = some (optV o) ∧ ∀ x, o = some x → lo ≤ x ∧ x ≤ hi := by
  obtain ⟨v, e, m⟩ := pick (xs := os.map optV) h0 (by rw [List.length_map]; exact h1)
  obtain ⟨o, ho, rfl⟩ := List.mem_map.mp m
  refine ⟨o, e, fun x hx => ?_⟩
  subst hx
  exact of_decide_eq_true (List.all_eq_true.mp hall _ ho)
section
variable {α : Type} {P : Program} {w : World} {K : PySem.W.Frag} {mg : PySem.Str → Option Value} {base : Heap} {C W R : Addr}
def spJar (K : PySem.W.Frag) : Sp := fun vs H Q _ => ∃ (a : Addr) (ns : List Int) (i : Nat), vs = [.ref a, .int (i : Int)] ∧ SqL K H a (ns.map V.int) ∧ ns.length ≤ 63 ∧ i ≤ 4 ∧ ∀ p H', H p = none → Same H H' → Jar H' p → Q (.ref p) H'
abbrev N_law_jar : List PySem.Str := ["_law_cells", "_law_turn", "_law_cell", "_law_seed", "_law_each"]
theorem sc_law_jar : FnScope N_law_jar ["_law_cells", "_law_turn"] (defScope st_law_jar) := ⟨rfl, rfl, rfl, by decide +kernel, rfl, by decide +kernel, by decide +kernel⟩
theorem b_law_jar (T : Txt K mg C W R) : Body P w K mg base N_law_jar "_law_jar" st_law_jar 0 (spJar K) := by
  intro f cdv A outer s H vs Q E hr h
  obtain ⟨a, ns, i, rfl, hs, hl, hi, q⟩ := h
  refine ⟨_, (pss_cons (ps_set (i := 2) sc_law_jar.nd rfl (Or.inl rfl) (pe_ifExp (pt_cmpR op_lt (pv 1) (pe_callB call_len_seq (by rfl) T.blen PySem.boot_len (pa_cons (pv 0) pa_nil)) (nomark _)) (pe_ix ix_list (pv 0) (pv 1) (fun _ _ => rfl)) (pe_op op_add (pe_op op_mul pe_int (pv 1)) pe_int)))
      (pss_cons (ps_set (i := 3) sc_law_jar.nd rfl (Or.inl rfl) (pe_op op_add pe_int (pe_op op_mul pe_int (pv 1))))
      (pss_cons (ps_for PassesOwn.never rfl (pi_list (pe_op op_cat (pe_lst (pa_cons (pv 2) pa_nil)) (pe_slice sl_list (pv 0) po_none (po_some pe_int)))) (pg_name (i := 4) sc_law_jar.nd rfl (Or.inl rfl))
      (pss_one (ps_set (i := 3) sc_law_jar.nd rfl (Or.inl rfl) (pe_op op_mod (pe_callTy call_int1 (by rfl) T.bint (by decide +kernel) (pa_cons (pe_op op_add (pe_op op_mul (pv 3) pe_int) (pv 4)) pa_nil)) pe_int))))
      (pss_one (ps_ret (pe_lst (pa_cons (pe_ifExp (pt_cmpR op_ge (pe_callB call_abs (by rfl) T.babs (by decide +kernel) (pa_cons (pv 2) pa_nil)) (pe_op op_pow pe_int pe_int) (nomark _)) (pe_callB call_abs (by rfl) T.babs (by decide +kernel) (pa_cons (pv 2) pa_nil)) pe_int) (pa_cons (pv 3) (pa_cons pe_int pa_nil))))))))), ?_⟩
  refine ⟨_, rfl, _, rfl, a, _, rfl, .inl hs, _, _, rfl, rfl, _, rfl, if_join (fun v H' => H = H' ∧ ∃ n : Int, v = .int n) (fun Q' k hc => ?_) (fun Q' k hc => ?_) ?_⟩
  · have hlt : i < ns.length := by have := of_decide_eq_true hc; rw [List.length_map] at this; omega
    exact ⟨_, rfl, _, rfl, a, _, _, _, rfl, rfl, hs, atI_nat (j := i) (by rw [List.getElem?_map, List.getElem?_eq_getElem hlt]; rfl), k _ _ ⟨rfl, _, rfl⟩⟩
  · exact ⟨_, rfl, _, _, rfl, rfl, .inl ⟨by decide, by decide⟩, _, _, rfl, rfl, k _ _ ⟨rfl, _, rfl⟩⟩
  rintro v H' ⟨rfl, c, rfl⟩
  refine ⟨_, rfl, _, _, rfl, rfl, .inl ⟨by decide, by decide⟩, _, _, rfl, rfl, ?_⟩
  refine ⟨_, rfl, by show 1 ≤ sizeLine; decide, fun l nl => ?_⟩
  have s1 := same_new (o := .lst [.int c]) nl
  refine ⟨_, rfl, 8, rfl, a, _, rfl, s1.seq hs, fun m nm => ?_⟩
  have s2 := same_new (o := .lst (cutV (ns.map V.int) none (some 8))) nm
  have hcl : (cutV (ns.map V.int) none (some 8)).length ≤ 63 := Nat.le_trans (cutV_length _ _ _) (by rw [List.length_map]; exact hl)
  have hcI : ∀ v ∈ cutV (ns.map V.int) none (some 8), ∃ n, v = V.int n := fun v hv => by
    obtain ⟨n, _, e⟩ := List.mem_map.mp (List.mem_of_mem_drop (List.mem_of_mem_take hv))
    exact ⟨n, e.symm⟩
  refine ⟨l, m, _, _, rfl, rfl, s2 _ _ upd_same, upd_same, by rw [sizeLine_eq]; simp; omega, fun r nr => ?_⟩
  have s3 := same_new (o := .lst ([.int c] ++ cutV (ns.map V.int) none (some 8))) nr
  refine ⟨r, rfl, ⟨_, SqL.of upd_same⟩, for_list (K := K) (a := r) (xs := [.int c] ++ cutV (ns.map V.int) none (some 8)) (fun k σ H'' => ∃ (z : Int) (y : Option V), σ = [some (.ref a), some (.int (i : Int)), some (.int c), some (.int z), y] ∧ Same H H'' ∧ H'' r = some (.lst ([.int c] ++ cutV (ns.map V.int) none (some 8))))
    ⟨_, _, rfl, s1.trans (s2.trans s3), upd_same⟩ (fun k σ H'' _ ⟨_, _, _, _, e⟩ => SqL.of e) ?_ ?_⟩
  · rintro k x σ H'' hk ⟨z, y, rfl, s4, e4⟩
    obtain ⟨n, rfl⟩ : ∃ n, x = V.int n := by
      have hm := List.mem_of_getElem? hk
      rcases List.mem_append.mp hm with h | h
      · exact ⟨c, by simpa using h⟩
      · exact hcI x h
    exact ⟨_, rfl, _, _, rfl, rfl, .inr ⟨by decide, by decide⟩, _, rfl, _, _, rfl, rfl, .inl ⟨_, rfl, _, _, rfl, rfl, (by show (0 : Int) < 2147483629; decide), _, _, rfl, s4, e4⟩⟩
  · rintro σ H'' ⟨z, y, rfl, s4, e4⟩
    refine ⟨_, rfl, _, rfl, 10, 18, rfl, rfl, ⟨by decide, by decide, by decide⟩, _, _, rfl, rfl, _, rfl, if_join (fun v H' => H'' = H' ∧ ∃ n : Int, v = .int n ∧ 0 ≤ n) (fun Q' k hc => ⟨_, rfl, _, rfl, k _ _ ⟨rfl, _, rfl, ?_⟩⟩) (fun Q' k hc => k _ _ ⟨rfl, 0, rfl, by decide⟩) ?_⟩
    · split <;> omega
    · rintro v H' ⟨rfl, n, rfl, hn⟩
      exact ⟨_, rfl, by show 3 ≤ sizeLine; decide, fun p np => q p _ (s4.free np) (s4.trans (same_new np)) ⟨n, z, 0, upd_same, hn⟩⟩
def spDraw : Sp := fun vs H Q _ => ∃ (B : Hp) (a : Addr) (n : Int), vs = [.ref a, .int n] ∧ Same B H ∧ B a = none ∧ Jar H a ∧ 1 ≤ n ∧ n < 1000000 ∧ ∀ d H', 0 ≤ d → d < n → Jar H' a → Ext (some a) B H B H' → Q (.int d) H'
abbrev N_law_draw : List PySem.Str := ["_law_jar_here", "_law_many", "_law_digit"]
theorem sc_law_draw : FnScope N_law_draw ["_law_jar_here", "_law_many"] (defScope st_law_draw) := ⟨rfl, rfl, rfl, by decide +kernel, rfl, by decide +kernel, by decide +kernel⟩
theorem b_law_draw (T : Txt K mg C W R) : Body P w K mg base N_law_draw "_law_draw" st_law_draw 0 spDraw := by
  intro f cdv A outer s H vs Q E hr h
  obtain ⟨B, a, n, rfl, sB, nB, ⟨g, x, c, ha, hg⟩, h1, h2, q⟩ := h
  have hs : SqL K H a [.int g, .int x, .int c] := SqL.of ha
  refine ⟨_, (pss_cons (ps_if (pt_cmpR op_gt (pe_ix ix_list (pv 0) pe_int (fun _ _ => rfl)) pe_int (nomark _)) (pss_cons (ps_asg (pe_callB call_divmod (by rfl) T.bdivmod (by decide +kernel) (pa_cons (pe_ix ix_list (pv 0) pe_int (fun _ _ => rfl)) (pa_cons (pv 1) pa_nil))) (pg_tup rfl (pgs_cons (pg_sub (pv 0) pe_int set_list) (pgs_cons (pg_name (i := 2) sc_law_draw.nd rfl (Or.inl rfl)) pgs_nil))))
      (pss_one (ps_ret (pv 2)))) pss_nil)
      (pss_cons (ps_asg (pe_op op_add (pe_ix ix_list (pv 0) pe_int (fun _ _ => rfl)) pe_int) (pg_sub (pv 0) pe_int set_list))
      (pss_cons (ps_asg (pe_op op_mod (pe_callTy call_int1 (by rfl) T.bint (by decide +kernel) (pa_cons (pe_op op_add (pe_op op_mul (pe_ix ix_list (pv 0) pe_int (fun _ _ => rfl)) pe_int) (pe_op op_mul pe_int (pe_ix ix_list (pv 0) pe_int (fun _ _ => rfl)))) pa_nil)) pe_int) (pg_sub (pv 0) pe_int set_list))
      (pss_one (ps_ret (pe_op op_mod (pe_callTy call_int1 (by rfl) T.bint (by decide +kernel) (pa_cons (pe_op op_fdiv (pe_ix ix_list (pv 0) pe_int (fun _ _ => rfl)) pe_int) pa_nil)) (pv 1))))))), ?_⟩
  refine ⟨_, rfl, a, _, 0, _, rfl, rfl, hs, atI_nat (j := 0) rfl, _, _, rfl, rfl, _, rfl, iteP (fun hp => ?_) fun hp => ?_⟩
  · refine ⟨_, rfl, a, _, 0, _, rfl, rfl, hs, atI_nat (j := 0) rfl, _, rfl, g, n, rfl, ⟨by omega, by omega⟩, fun p np => ?_⟩
    have s1 := same_new (o := .tup [.int (g / n), .int (g % n)]) np
    refine ⟨p, _, rfl, SqT.of upd_same, rfl, _, _, rfl, _, rfl, a, _, 0, 0, rfl, rfl, s1 _ _ ha, rfl, _, _, rfl, rfl, _, rfl, ?_⟩
    refine q _ _ (Int.emod_nonneg _ (by omega)) (Int.emod_lt_of_pos _ (by omega)) ⟨g / n, x, c, upd_same, Int.ediv_nonneg hg (by omega)⟩ (ext_jar sB nB (fun b o hb e => by rw [upd_ne hb]; exact s1 b o e) ⟨g / n, x, c, upd_same, Int.ediv_nonneg hg (by omega)⟩)
  · refine ⟨_, rfl, a, _, 2, _, rfl, rfl, hs, atI_nat (j := 2) rfl, _, _, rfl, rfl, _, rfl, a, _, 2, 2, rfl, rfl, ha, rfl, ?_⟩
    have h1' : SqL K (upd H a (.lst [.int g, .int x, .int (c + 1)])) a [.int g, .int x, .int (c + 1)] := SqL.of upd_same
    refine ⟨_, rfl, a, _, 1, _, rfl, rfl, h1', atI_nat (j := 1) rfl, _, _, rfl, rfl, .inr ⟨by decide, by decide⟩, _, rfl, a, _, 2, _, rfl, rfl, h1', atI_nat (j := 2) rfl, _, _, rfl, rfl, .inl ⟨by decide, by decide⟩, _, _, rfl, rfl, .inl ⟨_, rfl, _, _, rfl, rfl, (by show (0 : Int) < 2147483629; decide), ?_⟩⟩
    refine ⟨_, rfl, a, _, 1, 1, rfl, rfl, upd_same, rfl, ?_⟩
    refine ⟨_, rfl, a, _, 1, _, rfl, rfl, SqL.of upd_same, atI_nat (j := 1) rfl, _, 8191, rfl, rfl, ⟨by decide, by decide⟩, .inl ⟨_, rfl, _, rfl, _, n, rfl, rfl, (by show 0 < n; omega), ?_⟩⟩
    refine q _ _ (Int.emod_nonneg _ (by omega)) (Int.emod_lt_of_pos _ (by omega)) ⟨_, _, _, upd_same, hg⟩ (ext_jar sB nB (fun b o hb e => by rw [upd_ne hb, upd_ne hb]; exact e) ⟨_, _, _, upd_same, hg⟩)
def spDrawn (R : Rel α) (S : α → Prop) : Sp := fun vs H Q _ => ∃ (B : Hp) (a : Addr), vs = [.ref a] ∧ Same B H ∧ B a = none ∧ Jar H a ∧ ∀ v x B' H', S x → R B' v x → Jar H' a → Ext (some a) B H B' H' → Q v H'
theorem Ext.stay {a : Addr} {B0 H0 B H : Hp} (X : Ext (some a) B0 H0 B H) (j : Jar H0 a) (n : B0 a = none) : B a = none := X.fr a j.some n
abbrev N_law_wide : List PySem.Str := ["_law_jar_here", "_law_every", "_law_begin", "_law_rate", "_law_low", "_law_base", "_law_top", "_law_keep"]
theorem sc_law_wide : FnScope N_law_wide ["_law_jar_here"] (defScope st_law_wide) := ⟨rfl, rfl, rfl, by decide +kernel, rfl, by decide +kernel, by decide +kernel⟩
theorem b_law_wide (T : Txt K mg C W R) (g_law_draw : Fn P w K mg base 1 "_law_draw" ["_law_jar_here", "_law_many"] spDraw) : Body P w K mg base N_law_wide "_law_wide" st_law_wide 1 (spDrawn IsTm Tm.Ok) := by
  intro f cdv A outer s H vs Q E hr h
  obtain ⟨B, a, rfl, sB, nB, jr, q⟩ := h
  refine ⟨_, (pss_cons (ps_set (i := 1) sc_law_wide.nd rfl (Or.inl rfl) (pe_op op_add pe_int (pe_callF g_law_draw hr (pa_cons (pv 0) (pa_cons pe_int pa_nil)))))
      (pss_cons (ps_set (i := 2) sc_law_wide.nd rfl (Or.inl rfl) (pe_op op_add pe_int (pe_callF g_law_draw hr (pa_cons (pv 0) (pa_cons (pv 1) pa_nil)))))
      (pss_cons (ps_set (i := 3) sc_law_wide.nd rfl (Or.inl rfl) (pe_callF g_law_draw hr (pa_cons (pv 0) (pa_cons pe_int pa_nil))))
      (pss_cons (ps_set (i := 4) sc_law_wide.nd rfl (Or.inl rfl) (pe_ifExp (pt_cmpR op_eq (pe_callF g_law_draw hr (pa_cons (pv 0) (pa_cons pe_int pa_nil))) pe_int (nomark _)) pe_non (pe_op op_sub (pe_callF g_law_draw hr (pa_cons (pv 0) (pa_cons pe_int pa_nil))) pe_int)))
      (pss_cons (ps_set (i := 5) sc_law_wide.nd rfl (Or.inl rfl) (pe_ifExp (pt_cmpR op_isN (pv 4) pe_non (nomark _)) (pe_un un_neg pe_int) (pv 4)))
      (pss_cons (ps_set (i := 6) sc_law_wide.nd rfl (Or.inl rfl) (pe_ifExp (pt_cmpR op_eq (pe_callF g_law_draw hr (pa_cons (pv 0) (pa_cons pe_int pa_nil))) pe_int (nomark _)) pe_non (pe_op op_add (pv 5) (pe_callF g_law_draw hr (pa_cons (pv 0) (pa_cons (pe_op op_sub pe_int (pv 5)) pa_nil))))))
      (pss_cons (ps_set (i := 7) sc_law_wide.nd rfl (Or.inl rfl) (pe_ifExp (pt_cmpR op_isN (pv 6) pe_non (nomark _)) pe_int (pe_callF g_law_draw hr (pa_cons (pv 0) (pa_cons pe_int pa_nil)))))
      (pss_one (ps_ret (pe_tup (pa_cons (pv 1) (pa_cons (pv 2) (pa_cons (pv 3) (pa_cons (pv 4) (pa_cons (pv 6) (pa_cons (pv 7) (pa_cons (pe_op op_sub (pe_callF g_law_draw hr (pa_cons (pv 0) (pa_cons pe_int pa_nil))) pe_int) pa_nil))))))))))))))))), ?_⟩
  refine ⟨_, rfl, B, a, 3, rfl, sB, nB, jr, by decide, by decide, fun d1 H1 p1 u1 j1 X1 => ⟨1, d1, rfl, rfl, ?_⟩⟩
  refine ⟨_, rfl, _, rfl, B, a, 1 + d1, rfl, X1.in_, nB, j1, by omega, by omega, fun d2 H2 p2 u2 j2 X2 => ⟨1, d2, rfl, rfl, ?_⟩⟩
  refine ⟨_, rfl, B, a, 6, rfl, X2.in_, nB, j2, by decide, by decide, fun d3 H3 p3 u3 j3 X3 => ?_⟩
  -- low
  refine ⟨_, rfl, B, a, 2, rfl, X3.in_, nB, j3, by decide, by decide, fun e4 H4 _ _ j4 X4 => ⟨rfl, _, rfl, if_join (fun v H' => ∃ o : Option Int, v = optV o ∧ (∀ x, o = some x → -20 ≤ x ∧ x ≤ 20) ∧ Jar H' a ∧ Ext (some a) B H B H') (fun Q' k hc => ?_) (fun Q' k hc => ?_) ?_⟩⟩
  · exact k _ _ ⟨none, rfl, (fun x z => nomatch z), j4, X1.trans (X2.trans (X3.trans X4))⟩
  · refine ⟨_, rfl, B, a, 41, rfl, X4.in_, nB, j4, by decide, by decide, fun d5 H5 p5 u5 j5 X5 => ⟨d5, 20, rfl, rfl, k _ _ ⟨some (d5 - 20), rfl, fun x z => ?_, j5, X1.trans (X2.trans (X3.trans (X4.trans X5)))⟩⟩⟩
    cases z
    omega
  rintro v H5 ⟨lo, rfl, hlo, j5, X5⟩
  -- base
  refine ⟨_, rfl, rfl, _, rfl, if_join (fun v H' => H5 = H' ∧ v = .int (lo.getD (-20))) (fun Q' k hc => ?_) (fun Q' k hc => ?_) ?_⟩
  · rw [opt_none] at hc
    cases of_decide_eq_true hc
    exact ⟨_, rfl, k _ _ ⟨rfl, rfl⟩⟩
  · rw [opt_none] at hc
    refine ⟨_, rfl, k _ _ ⟨rfl, ?_⟩⟩
    cases lo with
    | none => cases hc
    | some x => rfl
  rintro v H' ⟨rfl, rfl⟩
  have hb : -20 ≤ lo.getD (-20) ∧ lo.getD (-20) ≤ 20 := by
    cases lo with
    | none => exact ⟨by decide, by decide⟩
    | some x => exact hlo x rfl
  -- top
  refine ⟨_, rfl, B, a, 3, rfl, X5.in_, nB, j5, by decide, by decide, fun e6 H6 _ _ j6 X6 => ⟨rfl, _, rfl, if_join (fun v H' => ∃ o : Option Int, v = optV o ∧ (∀ x, o = some x → lo.getD (-20) ≤ x ∧ x ≤ 20) ∧ Jar H' a ∧ Ext (some a) B H B H') (fun Q' k hc => ?_) (fun Q' k hc => ?_) ?_⟩⟩
  · exact k _ _ ⟨none, rfl, (fun x z => nomatch z), j6, X5.trans X6⟩
  · refine ⟨_, rfl, _, rfl, _, rfl, 21, _, rfl, rfl, B, a, _, rfl, X6.in_, nB, j6, by omega, by omega, fun d7 H7 p7 u7 j7 X7 => ⟨_, d7, rfl, rfl, k _ _ ⟨some (lo.getD (-20) + d7), rfl, fun x z => ?_, j7, X5.trans (X6.trans X7)⟩⟩⟩
    cases z
    omega
  rintro v H7 ⟨to, rfl, hto, j7, X7⟩
  -- keep
  refine ⟨_, rfl, rfl, _, rfl, if_join (fun v H' => ∃ n : Int, v = .int n ∧ 0 ≤ n ∧ n ≤ 6 ∧ (to = none → n = 0) ∧ Jar H' a ∧ Ext (some a) B H B H') (fun Q' k hc => ?_) (fun Q' k hc => ?_) ?_⟩
  · exact k _ _ ⟨0, rfl, by decide, by decide, fun _ => rfl, j7, X7⟩
  · rw [opt_none] at hc
    refine ⟨_, rfl, B, a, 7, rfl, X7.in_, nB, j7, by decide, by decide, fun d8 H8 p8 u8 j8 X8 => k _ _ ⟨d8, rfl, p8, by omega, fun z => ?_, j8, X7.trans X8⟩⟩
    rw [z] at hc
    cases hc
  rintro v H8 ⟨kp, rfl, hk0, hk6, hkn, j8, X8⟩
  -- the clause
  refine ⟨_, rfl, _, rfl, _, rfl, _, rfl, _, rfl, _, rfl, _, rfl, B, a, 19, rfl, X8.in_, nB, j8, by decide, by decide, fun d9 H9 p9 u9 j9 X9 => ⟨d9, 9, rfl, rfl, by show 7 ≤ sizeLine; decide, fun p np => ?_⟩⟩
  obtain ⟨B1, Y, e⟩ := ext_upd (o := .tup (tmV ⟨1 + d1, 1 + d2, d3, lo, to, kp, d9 - 9⟩)) X9.in_ np
  exact q _ ⟨1 + d1, 1 + d2, d3, lo, to, kp, d9 - 9⟩ B1 _ ⟨⟨by show 1 ≤ 1 + d1; omega, by show 1 + d1 ≤ 3; omega⟩, ⟨by show 1 ≤ 1 + d2; omega, by show 1 + d2 ≤ 1 + d1; omega⟩, ⟨p3, by show d3 ≤ 5; omega⟩, hlo, hto, ⟨hk0, hk6⟩, hkn, ⟨by show -9 ≤ d9 - 9; omega, by show d9 - 9 ≤ 9; omega⟩⟩ ⟨p, rfl, e⟩ (j9.new np) (X8.trans (X9.also Y))
abbrev N_law_terms : List PySem.Str := ["_law_jar_here", "_law_every", "_law_begin", "_law_rate", "_law_low", "_law_base", "_law_top", "_law_keep"]
theorem sc_law_terms : FnScope N_law_terms ["_law_jar_here"] (defScope st_law_terms) := ⟨rfl, rfl, rfl, by decide +kernel, rfl, by decide +kernel, by decide +kernel⟩
theorem b_law_terms (T : Txt K mg C W R) (g_law_draw : Fn P w K mg base 1 "_law_draw" ["_law_jar_here", "_law_many"] spDraw) (g_law_wide : Fn P w K mg base 2 "_law_wide" ["_law_jar_here"] (spDrawn IsTm Tm.Ok)) : Body P w K mg base N_law_terms "_law_terms" st_law_terms 2 (spDrawn IsTm Tm.Ok) := by
  intro f cdv A outer s H vs Q E hr h
  obtain ⟨B, a, rfl, sB, nB, jr, q⟩ := h
  refine ⟨_, (pss_cons (ps_if (pt_cmpR op_eq (pe_callF g_law_draw hr (pa_cons (pv 0) (pa_cons pe_int pa_nil))) pe_int (nomark _)) (pss_one (ps_ret (pe_callF g_law_wide hr (pa_cons (pv 0) pa_nil)))) pss_nil)
      (pss_cons (ps_set (i := 1) sc_law_terms.nd rfl (Or.inl rfl) (pe_ix ix_list (pe_lst (pa_cons pe_int (pa_cons pe_int (pa_cons pe_int (pa_cons pe_int (pa_cons pe_int pa_nil)))))) (pe_callF g_law_draw hr (pa_cons (pv 0) (pa_cons pe_int pa_nil))) (fun _ _ => rfl)))
      (pss_cons (ps_set (i := 2) sc_law_terms.nd rfl (Or.inl rfl) (pe_op op_add pe_int (pe_callF g_law_draw hr (pa_cons (pv 0) (pa_cons (pv 1) pa_nil)))))
      (pss_cons (ps_set (i := 3) sc_law_terms.nd rfl (Or.inl rfl) (pe_ix ix_list (pe_lst (pa_cons pe_int (pa_cons pe_int (pa_cons pe_int (pa_cons pe_int (pa_cons pe_int pa_nil)))))) (pe_callF g_law_draw hr (pa_cons (pv 0) (pa_cons pe_int pa_nil))) (fun _ _ => rfl)))
      (pss_cons (ps_set (i := 4) sc_law_terms.nd rfl (Or.inl rfl) (pe_ix ix_list (pe_lst (pa_cons pe_non (pa_cons pe_int (pa_cons (pe_un un_neg pe_int) (pa_cons pe_non (pa_cons pe_int (pa_cons pe_int pa_nil))))))) (pe_callF g_law_draw hr (pa_cons (pv 0) (pa_cons pe_int pa_nil))) (fun _ _ => rfl)))
      (pss_cons (ps_set (i := 5) sc_law_terms.nd rfl (Or.inl rfl) (pe_ifExp (pt_cmpR op_isN (pv 4) pe_non (nomark _)) pe_int (pv 4)))
      (pss_cons (ps_set (i := 6) sc_law_terms.nd rfl (Or.inl rfl) (pe_ifExp (pt_cmpR op_eq (pe_callF g_law_draw hr (pa_cons (pv 0) (pa_cons pe_int pa_nil))) pe_int (nomark _)) pe_non (pe_op op_add (pv 5) (pe_callF g_law_draw hr (pa_cons (pv 0) (pa_cons pe_int pa_nil))))))
      (pss_cons (ps_set (i := 7) sc_law_terms.nd rfl (Or.inl rfl) (pe_ifExp (pt_cmpR op_isN (pv 6) pe_non (nomark _)) pe_int (pe_ix ix_list (pe_lst (pa_cons pe_int (pa_cons pe_int (pa_cons pe_int (pa_cons pe_int pa_nil))))) (pe_callF g_law_draw hr (pa_cons (pv 0) (pa_cons pe_int pa_nil))) (fun _ _ => rfl))))
      (pss_one (ps_ret (pe_tup (pa_cons (pv 1) (pa_cons (pv 2) (pa_cons (pv 3) (pa_cons (pv 4) (pa_cons (pv 6) (pa_cons (pv 7) (pa_cons (pe_ix ix_list (pe_lst (pa_cons pe_int (pa_cons pe_int (pa_cons pe_int (pa_cons pe_int (pa_cons (pe_un un_neg pe_int) pa_nil)))))) (pe_callF g_law_draw hr (pa_cons (pv 0) (pa_cons pe_int pa_nil))) (fun _ _ => rfl)) pa_nil)))))))))))))))))), ?_⟩
  refine ⟨_, rfl, B, a, 5, rfl, sB, nB, jr, by decide, by decide, fun d1 H1 p1 u1 j1 X1 => ⟨rfl, _, rfl, iteI (fun h1 => ?_) fun h1 => ?_⟩⟩
  · exact ⟨_, rfl, B, a, rfl, X1.in_, nB, j1, fun v x B' H' sx rx j X => q v x B' H' sx rx j (X1.trans X)⟩
  -- every
  refine ⟨by show 5 ≤ sizeLine; decide, fun l2 n2 => ?_⟩
  have X2 := X1.also (ext_loc (o := .lst [.int 1, .int 1, .int 2, .int 1, .int 3]) X1.in_ n2)
  refine ⟨_, rfl, B, a, 5, rfl, X2.in_, nB, j1.new n2, by decide, by decide, fun d3 H3 p3 u3 j3 X3 => ?_⟩
  obtain ⟨ev, hev, e1, e3⟩ := pickI (ns := [1, 1, 2, 1, 3]) (lo := 1) (hi := 3) (by decide) p3 u3
  refine ⟨l2, _, _, _, rfl, rfl, SqL.of (X3.hp l2 _ (fun z => by cases z; exact j1.some n2) upd_same), hev, ?_⟩
  -- begin
  have X13 := X2.trans X3
  refine ⟨_, rfl, _, rfl, B, a, ev, rfl, X13.in_, nB, j3, e1, by omega, fun d4 H4 p4 u4 j4 X4 => ⟨1, d4, rfl, rfl, ?_⟩⟩
  -- rate
  refine ⟨by show 5 ≤ sizeLine; decide, fun l5 n5 => ?_⟩
  have X5 := (X13.trans X4).also (ext_loc (o := .lst [.int 1, .int 2, .int 3, .int 1, .int 0]) X4.in_ n5)
  refine ⟨_, rfl, B, a, 5, rfl, X5.in_, nB, j4.new n5, by decide, by decide, fun d6 H6 p6 u6 j6 X6 => ?_⟩
  obtain ⟨rt, hrt, r0, r5⟩ := pickI (ns := [1, 2, 3, 1, 0]) (lo := 0) (hi := 5) (by decide) p6 u6
  refine ⟨l5, _, _, _, rfl, rfl, SqL.of (X6.hp l5 _ (fun z => by cases z; exact j4.some n5) upd_same), hrt, ?_⟩
  -- low
  have X16 := X5.trans X6
  refine ⟨_, rfl, by show 6 ≤ sizeLine; decide, fun l7 n7 => ?_⟩
  have X7 := X16.also (ext_loc (o := .lst [.non, .int 0, .int (-1), .non, .int 0, .int 1]) X16.in_ n7)
  refine ⟨_, rfl, B, a, 6, rfl, X7.in_, nB, j6.new n7, by decide, by decide, fun d8 H8 p8 u8 j8 X8 => ?_⟩
  obtain ⟨lo, hlo, hl⟩ := pickO (os := [none, some 0, some (-1), none, some 0, some 1]) (lo := -1) (hi := 1) (by decide) p8 u8
  refine ⟨l7, _, _, _, rfl, rfl, SqL.of (X8.hp l7 _ (fun z => by cases z; exact j6.some n7) upd_same), hlo, ?_⟩
  have X18 := X7.trans X8
  -- base
  refine ⟨_, rfl, rfl, _, rfl, if_join (fun v H' => H8 = H' ∧ v = .int (lo.getD 0)) (fun Q' k hc => ?_) (fun Q' k hc => ?_) ?_⟩
  · rw [opt_none] at hc
    cases of_decide_eq_true hc
    exact k _ _ ⟨rfl, rfl⟩
  · rw [opt_none] at hc
    refine ⟨_, rfl, k _ _ ⟨rfl, ?_⟩⟩
    cases lo with
    | none => cases hc
    | some x => rfl
  rintro v H' ⟨rfl, rfl⟩
  have hb : -1 ≤ lo.getD 0 ∧ lo.getD 0 ≤ 1 ∧ lo.getD (-20) ≤ lo.getD 0 := by
    cases lo with
    | none => exact ⟨by decide, by decide, by decide⟩
    | some x => exact ⟨(hl x rfl).1, (hl x rfl).2, Int.le_refl _⟩
  -- top
  refine ⟨_, rfl, B, a, 4, rfl, X18.in_, nB, j8, by decide, by decide, fun e9 H9 _ _ j9 X9 => ⟨rfl, _, rfl, if_join (fun v H' => ∃ o : Option Int, v = optV o ∧ (∀ x, o = some x → lo.getD (-20) ≤ x ∧ x ≤ 20) ∧ Jar H' a ∧ Ext (some a) B H B H') (fun Q' k hc => ?_) (fun Q' k hc => ?_) ?_⟩⟩
  · exact k _ _ ⟨none, rfl, (fun x z => nomatch z), j9, X18.trans X9⟩
  · refine ⟨_, rfl, _, rfl, B, a, 5, rfl, X9.in_, nB, j9, by decide, by decide, fun d7 H7 p7 u7 j7 X7 => ⟨_, d7, rfl, rfl, k _ _ ⟨some (lo.getD 0 + d7), rfl, fun x z => ?_, j7, X18.trans (X9.trans X7)⟩⟩⟩
    cases z
    omega
  rintro v H10 ⟨to, rfl, hto, j10, X10⟩
  -- keep
  refine ⟨_, rfl, rfl, _, rfl, if_join (fun v H' => ∃ n : Int, v = .int n ∧ 0 ≤ n ∧ n ≤ 6 ∧ (to = none → n = 0) ∧ Jar H' a ∧ Ext (some a) B H B H') (fun Q' k hc => ?_) (fun Q' k hc => ?_) ?_⟩
  · exact k _ _ ⟨0, rfl, by decide, by decide, fun _ => rfl, j10, X10⟩
  · rw [opt_none] at hc
    refine ⟨by show 4 ≤ sizeLine; decide, fun l11 n11 => ?_⟩
    have X11 := X10.also (ext_loc (o := .lst [.int 0, .int 2, .int 1, .int 3]) X10.in_ n11)
    refine ⟨_, rfl, B, a, 4, rfl, X11.in_, nB, j10.new n11, by decide, by decide, fun d12 H12 p12 u12 j12 X12 => ?_⟩
    obtain ⟨kp, hkp, k0, k6⟩ := pickI (ns := [0, 2, 1, 3]) (lo := 0) (hi := 6) (by decide) p12 u12
    refine ⟨l11, _, _, _, rfl, rfl, SqL.of (X12.hp l11 _ (fun z => by cases z; exact j10.some n11) upd_same), hkp, k _ _ ⟨kp, rfl, k0, k6, fun z => ?_, j12, X11.trans X12⟩⟩
    rw [z] at hc
    cases hc
  rintro v H13 ⟨kp, rfl, hk0, hk6, hkn, j13, X13'⟩
  -- the clause
  refine ⟨_, rfl, _, rfl, _, rfl, _, rfl, _, rfl, _, rfl, _, rfl, by show 5 ≤ sizeLine; decide, fun l14 n14 => ?_⟩
  have X14 := X13'.also (ext_loc (o := .lst [.int 0, .int 0, .int 1, .int 0, .int (-1)]) X13'.in_ n14)
  refine ⟨_, rfl, B, a, 5, rfl, X14.in_, nB, j13.new n14, by decide, by decide, fun d15 H15 p15 u15 j15 X15 => ?_⟩
  obtain ⟨pl, hpl, pl0, pl9⟩ := pickI (ns := [0, 0, 1, 0, (-1)]) (lo := -9) (hi := 9) (by decide) p15 u15
  refine ⟨l14, _, _, _, rfl, rfl, SqL.of (X15.hp l14 _ (fun z => by cases z; exact j13.some n14) upd_same), hpl, by show 7 ≤ sizeLine; decide, fun p np => ?_⟩
  have X16' := X14.trans X15
  obtain ⟨B1, Y, e⟩ := ext_upd (o := .tup (tmV ⟨ev, 1 + d4, rt, lo, to, kp, pl⟩)) X16'.in_ np
  exact q _ ⟨ev, 1 + d4, rt, lo, to, kp, pl⟩ B1 _ ⟨⟨e1, e3⟩, ⟨by show 1 ≤ 1 + d4; omega, by show 1 + d4 ≤ ev; omega⟩, ⟨r0, r5⟩, fun x z => by have := hl x z; omega, hto, ⟨hk0, hk6⟩, hkn, ⟨pl0, pl9⟩⟩ ⟨p, rfl, e⟩ (j15.new np) (X16'.also Y)
end
end PB

/-! the law's bundles -/
namespace PB
open PySem PySem.Spec PyProof.Rows L2
section
variable {P : Program} {w : World} {K : PySem.W.Frag} {mg : PySem.Str → Option Value} {base : Heap} {C W R : Addr}
def spNear : Sp := fun vs H Q _ => ∃ (B : Hp) (a : Addr) (tv : V) (t : Tm), vs = [.ref a, tv] ∧ Same B H ∧ B a = none ∧ Jar H a ∧ IsTm B tv t ∧ t.Ok ∧ ∀ v x B' H', x.Ok → IsTm B' v x → Jar H' a → Ext (some a) B H B' H' → Q v H'
abbrev N_law_near : List PySem.Str := ["_law_jar_here", "_law_terms_here", "_law_every", "_law_begin", "_law_rate", "_law_low", "_law_top", "_law_keep", "_law_plus", "_law_pick"]
theorem sc_law_near : FnScope N_law_near ["_law_jar_here", "_law_terms_here"] (defScope st_law_near) := ⟨rfl, rfl, rfl, by decide +kernel, rfl, by decide +kernel, by decide +kernel⟩
theorem b_law_near (T : Txt K mg C W R) (g_law_draw : Fn P w K mg base 1 "_law_draw" ["_law_jar_here", "_law_many"] spDraw) (g_law_terms : Fn P w K mg base 3 "_law_terms" ["_law_jar_here"] (spDrawn IsTm Tm.Ok)) : Body P w K mg base N_law_near "_law_near" st_law_near 3 spNear := by
  intro f cdv A outer s H vs Q E hr h
  obtain ⟨B, a, tv, t, rfl, sB, nB, jr, ⟨ta, rfl, hta⟩, ok, q⟩ := h
  refine ⟨_, (pss_cons (ps_asg (pv 1) (pg_tup rfl (pgs_cons (pg_name (i := 2) sc_law_near.nd rfl (Or.inl rfl)) (pgs_cons (pg_name (i := 3) sc_law_near.nd rfl (Or.inl rfl)) (pgs_cons (pg_name (i := 4) sc_law_near.nd rfl (Or.inl rfl)) (pgs_cons (pg_name (i := 5) sc_law_near.nd rfl (Or.inl rfl)) (pgs_cons (pg_name (i := 6) sc_law_near.nd rfl (Or.inl rfl)) (pgs_cons (pg_name (i := 7) sc_law_near.nd rfl (Or.inl rfl)) (pgs_cons (pg_name (i := 8) sc_law_near.nd rfl (Or.inl rfl)) pgs_nil)))))))))
      (pss_cons (ps_set (i := 9) sc_law_near.nd rfl (Or.inl rfl) (pe_callF g_law_draw hr (pa_cons (pv 0) (pa_cons pe_int pa_nil))))
      (pss_cons (ps_if (pt_cmpR op_eq (pv 9) pe_int (nomark _)) (pss_one (ps_ret (pe_callF g_law_terms hr (pa_cons (pv 0) pa_nil)))) pss_nil)
      (pss_cons (ps_if (pt_cmpR op_eq (pv 9) pe_int (nomark _)) (pss_one (ps_ret (pe_tup (pa_cons (pv 2) (pa_cons (pv 3) (pa_cons (pe_op op_mod (pe_callTy call_int1 (by rfl) T.bint (by decide +kernel) (pa_cons (pe_op op_add (pv 4) pe_int) pa_nil)) pe_int) (pa_cons (pv 5) (pa_cons (pv 6) (pa_cons (pv 7) (pa_cons (pv 8) pa_nil)))))))))) pss_nil)
      (pss_cons (ps_if (pt_cmpR op_eq (pv 9) pe_int (nomark _)) (pss_one (ps_ret (pe_tup (pa_cons (pv 2) (pa_cons (pv 3) (pa_cons (pv 4) (pa_cons (pe_ifExp (pt_cmpR op_notN (pv 5) pe_non (nomark _)) pe_non (pe_un un_neg pe_int)) (pa_cons (pv 6) (pa_cons (pv 7) (pa_cons (pv 8) pa_nil)))))))))) pss_nil)
      (pss_cons (ps_if (pt_cmpR op_eq (pv 9) pe_int (nomark _)) (pss_one (ps_ret (pe_tup (pa_cons (pv 2) (pa_cons (pv 3) (pa_cons (pv 4) (pa_cons (pv 5) (pa_cons pe_non (pa_cons pe_int (pa_cons (pv 8) pa_nil)))))))))) pss_nil)
      (pss_cons (ps_if (pt_cmpR op_eq (pv 9) pe_int (nomark _)) (pss_one (ps_ret (pe_tup (pa_cons (pv 2) (pa_cons (pv 3) (pa_cons (pv 4) (pa_cons (pv 5) (pa_cons pe_int (pa_cons (pv 7) (pa_cons (pv 8) pa_nil)))))))))) pss_nil)
      (pss_cons (ps_if (PW.pt (pw_and (pt_cmpR op_eq (pv 9) pe_int (nomark _)) (pw_and1 (pt_cmpR op_notN (pv 6) pe_non (nomark _))))) (pss_one (ps_ret (pe_tup (pa_cons (pv 2) (pa_cons (pv 3) (pa_cons (pv 4) (pa_cons (pv 5) (pa_cons (pv 6) (pa_cons (pe_ifExp (pt_cmpR op_lt (pv 7) pe_int (nomark _)) (pe_op op_sub pe_int (pv 7)) pe_int) (pa_cons (pv 8) pa_nil)))))))))) pss_nil)
      (pss_cons (ps_if (pt_cmpR op_eq (pv 9) pe_int (nomark _)) (pss_one (ps_ret (pe_tup (pa_cons (pv 2) (pa_cons (pv 3) (pa_cons (pv 4) (pa_cons (pv 5) (pa_cons (pv 6) (pa_cons (pv 7) (pa_cons (pe_ifExp (pt_cmpR op_lt (pv 8) pe_int (nomark _)) (pe_op op_add (pv 8) pe_int) (pe_op op_sub (pv 8) pe_int)) pa_nil)))))))))) pss_nil)
      (pss_cons (ps_if (pt_cmpR op_eq (pv 9) pe_int (nomark _)) (pss_one (ps_ret (pe_tup (pa_cons (pv 2) (pa_cons (pv 2) (pa_cons (pv 4) (pa_cons (pv 5) (pa_cons (pv 6) (pa_cons (pv 7) (pa_cons (pv 8) pa_nil)))))))))) pss_nil)
      (pss_one (ps_ret (pv 1))))))))))))), ?_⟩
  refine ⟨_, rfl, ta, _, rfl, SqT.to sB hta, rfl, _, _, rfl, _, _, rfl, _, _, rfl, _, _, rfl, _, _, rfl, _, _, rfl, _, _, rfl, rfl, ?_⟩
  refine atS [some (.ref a), some (.ref ta), some (.int t.every), some (.int t.first), some (.int t.rate), some (optV t.low), some (optV t.top), some (.int t.keep), some (.int t.plus), none] ?_
  refine ⟨_, rfl, B, a, 9, rfl, sB, nB, jr, by decide, by decide, fun d H1 p1 u1 j1 X1 => ?_⟩
  refine atS [some (.ref a), some (.ref ta), some (.int t.every), some (.int t.first), some (.int t.rate), some (optV t.low), some (optV t.top), some (.int t.keep), some (.int t.plus), some (.int d)] ?_
  have fin : ∀ t' : Tm, t'.Ok → ∀ p, H1 p = none → Q (.ref p) (upd H1 p (.tup (tmV t'))) := fun t' ok' p np => by
    obtain ⟨B1, Y, e⟩ := ext_upd (o := .tup (tmV t')) X1.in_ np
    exact q _ t' B1 _ ok' ⟨p, rfl, e⟩ (j1.new np) (X1.also Y)
  have same : Q (.ref ta) H1 := q _ t B H1 ok ⟨ta, rfl, hta⟩ j1 X1
  have z7 : (7 : Nat) ≤ sizeLine := by decide
  have h1 := ok.every
  have h2 := ok.first
  have h3 := ok.rate
  have h4 := ok.keep
  have h5 := ok.plus
  have hlow : -20 ≤ t.low.getD (-20) ∧ t.low.getD (-20) ≤ 20 := by
    cases e : t.low with
    | none => exact ⟨by decide, by decide⟩
    | some x => exact ok.low x e
  refine ⟨_, rfl, rfl, _, rfl, iteI (fun h => ⟨_, rfl, B, a, rfl, X1.in_, nB, j1, fun v x B' H' sx rx j X => q v x B' H' sx rx j (X1.trans X)⟩) fun n0 => ?_⟩
  refine ⟨_, rfl, rfl, _, rfl, iteI (fun h => ?_) fun n1 => ?_⟩
  · refine ⟨_, rfl, _, rfl, _, rfl, _, 1, rfl, rfl, .inl ⟨_, rfl, _, 6, rfl, rfl, (by show (0 : Int) < 6; decide), _, rfl, _, rfl, _, rfl, _, rfl, z7, fin ⟨t.every, t.first, (t.rate + 1) % 6, t.low, t.top, t.keep, t.plus⟩ ⟨h1, h2, ⟨Int.emod_nonneg _ (by decide), ?_⟩, ok.low, ok.top, h4, ok.keep0, h5⟩⟩⟩
    have := Int.emod_lt_of_pos (t.rate + 1) (show (0 : Int) < 6 by decide)
    show (t.rate + 1) % 6 ≤ 5
    omega
  refine ⟨_, rfl, rfl, _, rfl, iteI (fun h => ?_) fun n2 => ?_⟩
  · refine ⟨_, rfl, _, rfl, _, rfl, _, rfl, rfl, _, rfl, if_join (fun v H' => H1 = H' ∧ v = optV (if t.low = none then some (-20) else none)) (fun Q' k hc => ?_) (fun Q' k hc => ?_) ?_⟩
    · refine k _ _ ⟨rfl, ?_⟩
      rw [opt_none] at hc
      cases e : t.low with
      | none => rw [e] at hc; cases hc
      | some x => rfl
    · refine ⟨_, rfl, k _ _ ⟨rfl, ?_⟩⟩
      rw [opt_none] at hc
      cases e : t.low with
      | none => rfl
      | some x => rw [e] at hc; cases hc
    rintro v H' ⟨rfl, rfl⟩
    refine ⟨_, rfl, _, rfl, _, rfl, z7, fin ⟨t.every, t.first, t.rate, if t.low = none then some (-20) else none, t.top, t.keep, t.plus⟩ ⟨h1, h2, h3, fun x hx => ?_, fun x hx => ?_, h4, ok.keep0, h5⟩⟩
    · have hx' : (if t.low = none then some (-20 : Int) else none) = some x := hx
      split at hx' <;> cases hx'
      exact ⟨by decide, by decide⟩
    · have h := ok.top x hx
      have e : (if t.low = none then some (-20 : Int) else none).getD (-20) = -20 := by split <;> rfl
      show (if t.low = none then some (-20 : Int) else none).getD (-20) ≤ x ∧ x ≤ 20
      rw [e]
      omega
  refine ⟨_, rfl, rfl, _, rfl, iteI (fun h => ?_) fun n3 => ?_⟩
  · exact ⟨_, rfl, _, rfl, _, rfl, _, rfl, _, rfl, z7, fin ⟨t.every, t.first, t.rate, t.low, none, 0, t.plus⟩ ⟨h1, h2, h3, ok.low, (fun x z => by cases z), ⟨Int.le_refl 0, by show (0 : Int) ≤ 6; decide⟩, fun _ => rfl, h5⟩⟩
  refine ⟨_, rfl, rfl, _, rfl, iteI (fun h => ?_) fun n4 => ?_⟩
  · exact ⟨_, rfl, _, rfl, _, rfl, _, rfl, _, rfl, _, rfl, z7, fin ⟨t.every, t.first, t.rate, t.low, some 20, t.keep, t.plus⟩ ⟨h1, h2, h3, ok.low, (fun x z => by cases z; exact ⟨hlow.2, by decide⟩), h4, (fun z => by cases z), h5⟩⟩
  refine ⟨_, rfl, rfl, _, rfl, iteI (fun h => ?_) fun n5 => iteF ?_⟩
  · subst h
    refine ⟨_, rfl, rfl, _, rfl, ?_⟩
    cases e : t.top with
    | none => exact iteF ⟨_, rfl, rfl, _, rfl, iteF ⟨_, rfl, rfl, _, rfl, iteF ⟨_, rfl, same⟩⟩⟩
    | some x =>
      refine iteT ⟨_, rfl, _, rfl, _, rfl, _, rfl, _, rfl, _, rfl, _, _, rfl, rfl, _, rfl, if_join (fun v H' => H1 = H' ∧ v = .int (if t.keep < 3 then 2 - t.keep else 0)) (fun Q' k hc => ⟨_, rfl, _, _, rfl, rfl, k _ _ ⟨rfl, ?_⟩⟩) (fun Q' k hc => k _ _ ⟨rfl, ?_⟩) ?_⟩
      · rw [if_pos (of_decide_eq_true hc)]
      · rw [if_neg (of_decide_eq_false hc)]
      rintro v H' ⟨rfl, rfl⟩
      have := fin ⟨t.every, t.first, t.rate, t.low, t.top, if t.keep < 3 then 2 - t.keep else 0, t.plus⟩ ⟨h1, h2, h3, ok.low, ok.top, by show 0 ≤ (if t.keep < 3 then 2 - t.keep else 0) ∧ (if t.keep < 3 then 2 - t.keep else 0) ≤ 6; split <;> omega, fun z => (by rw [show t.top = none from z] at e; cases e), h5⟩
      rw [tmV] at this
      simp only [e] at this
      exact ⟨_, rfl, z7, this⟩
  refine ⟨_, rfl, rfl, _, rfl, iteI (fun h => ?_) fun n6 => ?_⟩
  · refine ⟨_, rfl, _, rfl, _, rfl, _, rfl, _, rfl, _, rfl, _, rfl, _, _, rfl, rfl, _, rfl, if_join (fun v H' => H1 = H' ∧ v = .int (if t.plus < 0 then t.plus + 1 else t.plus - 1)) (fun Q' k hc => ⟨_, rfl, _, _, rfl, rfl, k _ _ ⟨rfl, ?_⟩⟩) (fun Q' k hc => ⟨_, rfl, _, _, rfl, rfl, k _ _ ⟨rfl, ?_⟩⟩) ?_⟩
    · rw [if_pos (of_decide_eq_true hc)]
    · rw [if_neg (of_decide_eq_false hc)]
    rintro v H' ⟨rfl, rfl⟩
    exact ⟨z7, fin ⟨t.every, t.first, t.rate, t.low, t.top, t.keep, if t.plus < 0 then t.plus + 1 else t.plus - 1⟩ ⟨h1, h2, h3, ok.low, ok.top, h4, ok.keep0, by show -9 ≤ (if t.plus < 0 then t.plus + 1 else t.plus - 1) ∧ (if t.plus < 0 then t.plus + 1 else t.plus - 1) ≤ 9; split <;> omega⟩⟩
  refine ⟨_, rfl, rfl, _, rfl, iteI (fun h => ?_) fun n7 => ⟨_, rfl, same⟩⟩
  exact ⟨_, rfl, _, rfl, _, rfl, _, rfl, _, rfl, _, rfl, _, rfl, z7, fin ⟨t.every, t.every, t.rate, t.low, t.top, t.keep, t.plus⟩ ⟨h1, ⟨h1.1, Int.le_refl _⟩, h3, ok.low, ok.top, h4, ok.keep0, h5⟩⟩
abbrev N_law_pair_of : List PySem.Str := ["_law_jar_here", "_law_least_here"]
theorem sc_law_pair_of : FnScope N_law_pair_of ["_law_jar_here"] (defScope st_law_pair_of) := ⟨rfl, rfl, rfl, by decide +kernel, rfl, by decide +kernel, by decide +kernel⟩
theorem b_law_pair_of (T : Txt K mg C W R) (g_law_draw : Fn P w K mg base 1 "_law_draw" ["_law_jar_here", "_law_many"] spDraw) : Body P w K mg base N_law_pair_of "_law_pair_of" st_law_pair_of 1 (spDrawn IsBand BandOk) := by
  intro f cdv A outer s H vs Q E hr h
  obtain ⟨B, a, rfl, sB, nB, jr, q⟩ := h
  refine ⟨_, (pss_cons (ps_set (i := 1) sc_law_pair_of.nd rfl (Or.inl rfl) (pe_op op_sub (pe_callF g_law_draw hr (pa_cons (pv 0) (pa_cons pe_int pa_nil))) pe_int))
      (pss_one (ps_ret (pe_tup (pa_cons (pv 1) (pa_cons (pe_callB (call_min2 rfl) (by rfl) T.bmin (by decide +kernel) (pa_cons pe_int (pa_cons (pe_op op_add (pv 1) (pe_ix ix_list (pe_lst (pa_cons pe_int (pa_cons pe_int (pa_cons pe_int (pa_cons pe_int (pa_cons pe_int pa_nil)))))) (pe_callF g_law_draw hr (pa_cons (pv 0) (pa_cons pe_int pa_nil))) (fun _ _ => rfl))) pa_nil))) pa_nil)))))), ?_⟩
  refine ⟨_, rfl, B, a, 6, rfl, sB, nB, jr, by decide, by decide, fun d1 H1 p1 u1 j1 X1 => ⟨d1, 3, rfl, rfl, ?_⟩⟩
  refine ⟨_, rfl, _, rfl, by show 5 ≤ sizeLine; decide, fun l2 n2 => ?_⟩
  have X2 := X1.also (ext_loc (o := .lst [.int 1, .int 2, .int 1, .int 2, .int 0]) X1.in_ n2)
  refine ⟨_, rfl, B, a, 5, rfl, X2.in_, nB, j1.new n2, by decide, by decide, fun d3 H3 p3 u3 j3 X3 => ?_⟩
  obtain ⟨e, he, e0, e2⟩ := pickI (ns := [1, 2, 1, 2, 0]) (lo := 0) (hi := 2) (by decide) p3 u3
  refine ⟨l2, _, _, _, rfl, rfl, SqL.of (X3.hp l2 _ (fun z => by cases z; exact j1.some n2) upd_same), he, _, _, rfl, rfl, 3, _, rfl, by show 2 ≤ sizeLine; decide, fun p np => ?_⟩
  have X13 := X2.trans X3
  obtain ⟨B1, Y, ep⟩ := ext_upd (o := .tup [.int (d1 - 3), .int (if d1 - 3 + e < 3 then d1 - 3 + e else 3)]) X13.in_ np
  exact q _ (d1 - 3, if d1 - 3 + e < 3 then d1 - 3 + e else 3) B1 _ ⟨by show -3 ≤ d1 - 3; omega, by show d1 - 3 ≤ (if d1 - 3 + e < 3 then d1 - 3 + e else 3); split <;> omega, by show (if d1 - 3 + e < 3 then d1 - 3 + e else 3) ≤ 3; split <;> omega⟩ ⟨p, rfl, ep⟩ (j3.new np) (X13.also Y)
end
end PB

/-! the law's years -/
namespace PB
open PySem PySem.Spec PyProof.Rows L2
def capN (t : Tm) (w : Int) : Int := match t.top with
  | none => w
  | some c => if c < w then c else w
theorem riseL_cap (t : Tm) (w : Int) : riseL t w = match t.low with
  | none => capN t w
  | some f => if f > capN t w then f else capN t w := rfl
section
variable {P : Program} {w : World} {K : PySem.W.Frag} {mg : PySem.Str → Option Value} {base : Heap} {C W R : Addr}
def spOn : Sp := fun vs H Q _ => ∃ B tv sv t s m, vs = [tv, sv, .int m] ∧ Same B H ∧ IsTm B tv t ∧ IsSd B sv s ∧ t.Ok ∧ ∀ v B' H', Ext none B H B' H' → IsP IsSd IsI B' v (onN t s m) → Q v H'
abbrev N_law_on : List PySem.Str := ["_law_terms_here", "_law_stand", "_law_step", "_law_every", "_law_begin", "_law_rate", "_law_low", "_law_top", "_law_keep", "_law_plus", "_law_left", "_law_points", "_law_kept", "_law_want", "_law_rise"]
theorem sc_law_on : FnScope N_law_on ["_law_terms_here", "_law_stand", "_law_step"] (defScope st_law_on) := ⟨rfl, rfl, rfl, by decide +kernel, rfl, by decide +kernel, by decide +kernel⟩
theorem b_law_on (T : Txt K mg C W R) : Body P w K mg base N_law_on "_law_on" st_law_on 0 spOn := by
  intro f cdv A outer s H vs Q E hr h
  obtain ⟨B, tv, sv, t, ⟨l, pt, kp⟩, m, rfl, sB, ⟨ta, rfl, hta⟩, ⟨b, rfl, hb⟩, ok, q⟩ := h
  refine ⟨_, (pss_cons (ps_asg (pv 0) (pg_tup rfl (pgs_cons (pg_name (i := 3) sc_law_on.nd rfl (Or.inl rfl)) (pgs_cons (pg_name (i := 4) sc_law_on.nd rfl (Or.inl rfl)) (pgs_cons (pg_name (i := 5) sc_law_on.nd rfl (Or.inl rfl)) (pgs_cons (pg_name (i := 6) sc_law_on.nd rfl (Or.inl rfl)) (pgs_cons (pg_name (i := 7) sc_law_on.nd rfl (Or.inl rfl)) (pgs_cons (pg_name (i := 8) sc_law_on.nd rfl (Or.inl rfl)) (pgs_cons (pg_name (i := 9) sc_law_on.nd rfl (Or.inl rfl)) pgs_nil)))))))))
      (pss_cons (ps_asg (pv 1) (pg_tup rfl (pgs_cons (pg_name (i := 10) sc_law_on.nd rfl (Or.inl rfl)) (pgs_cons (pg_name (i := 11) sc_law_on.nd rfl (Or.inl rfl)) (pgs_cons (pg_name (i := 12) sc_law_on.nd rfl (Or.inl rfl)) pgs_nil)))))
      (pss_cons (ps_set (i := 11) sc_law_on.nd rfl (Or.inl rfl) (pe_op op_add (pv 11) (pv 2)))
      (pss_cons (ps_if (pt_cmpR op_gt (pv 10) pe_int (nomark _)) (pss_one (ps_ret (pe_tup (pa_cons (pe_tup (pa_cons (pe_op op_sub (pv 10) pe_int) (pa_cons (pv 11) (pa_cons (pv 12) pa_nil)))) (pa_cons pe_int pa_nil))))) pss_nil)
      (pss_cons (ps_set (i := 13) sc_law_on.nd rfl (Or.inl rfl) (pe_op op_add (pe_op op_mul (pv 5) (pv 11)) (pv 12)))
      (pss_cons (ps_set (i := 14) sc_law_on.nd rfl (Or.inl rfl) (pe_ifExp (pt_cmpR op_isN (pv 7) pe_non (nomark _)) (pv 13) (pe_callB (call_min2 rfl) (by rfl) T.bmin (by decide +kernel) (pa_cons (pv 13) (pa_cons (pv 7) pa_nil)))))
      (pss_cons (ps_set (i := 14) sc_law_on.nd rfl (Or.inl rfl) (pe_ifExp (pt_cmpR op_isN (pv 6) pe_non (nomark _)) (pv 14) (pe_callB (call_max2 rfl) (by rfl) T.bmax (by decide +kernel) (pa_cons (pv 14) (pa_cons (pv 6) pa_nil)))))
      (pss_one (ps_ret (pe_tup (pa_cons (pe_tup (pa_cons (pv 3) (pa_cons pe_int (pa_cons (pe_callB (call_min2 rfl) (by rfl) T.bmin (by decide +kernel) (pa_cons (pv 8) (pa_cons (pe_callB (call_max2 rfl) (by rfl) T.bmax (by decide +kernel) (pa_cons pe_int (pa_cons (pe_op op_sub (pv 13) (pv 14)) pa_nil))) pa_nil))) pa_nil)))) (pa_cons (pe_op op_add (pv 14) (pv 9)) pa_nil)))))))))))), ?_⟩
  refine ⟨_, rfl, ta, _, rfl, SqT.to sB hta, rfl, _, _, rfl, _, _, rfl, _, _, rfl, _, _, rfl, _, _, rfl, _, _, rfl, _, _, rfl, rfl, ?_⟩
  refine atS [some (.ref ta), some (.ref b), some (.int m), some (.int t.every), some (.int t.first), some (.int t.rate), some (optV t.low), some (optV t.top), some (.int t.keep), some (.int t.plus), none, none, none, none, none] ?_
  refine ⟨_, rfl, b, _, rfl, SqT.to sB hb, rfl, _, _, rfl, _, _, rfl, _, _, rfl, rfl, ?_⟩
  refine ⟨_, rfl, _, rfl, pt, m, rfl, rfl, ?_⟩
  refine atS [some (.ref ta), some (.ref b), some (.int m), some (.int t.every), some (.int t.first), some (.int t.rate), some (optV t.low), some (optV t.top), some (.int t.keep), some (.int t.plus), some (.int l), some (.int (pt + m)), some (.int kp), none, none] ?_
  refine ⟨_, rfl, l, 1, rfl, rfl, _, rfl, iteP (fun hl => ?_) fun hl => ?_⟩
  · refine ⟨_, rfl, l, 1, rfl, rfl, _, rfl, _, rfl, by show 3 ≤ sizeLine; decide, fun p1 n1 => ⟨by show 2 ≤ sizeLine; decide, fun p2 n2 => ?_⟩⟩
    have e : onN t (l, pt, kp) m = ((l - 1, pt + m, kp), 0) := by simp only [onN]; rw [if_pos hl]
    rw [e] at q
    obtain ⟨B1, Y1, e1⟩ := ext_upd (o := .tup [.int (l - 1), .int (pt + m), .int kp]) sB n1
    obtain ⟨B2, Y2, e2⟩ := ext_upd (o := .tup [.ref p1, .int 0]) Y1.in_ n2
    exact q _ B2 _ (Y1.trans Y2) ⟨p2, .ref p1, .int 0, rfl, e2, ⟨p1, rfl, Y2.gh _ _ e1⟩, rfl⟩
  have hrate := ok.rate
  have eq1 : (onN t (l, pt, kp) m).1 = (t.every, 0, min2 t.keep (max2 0 (t.rate * (pt + m) + kp - riseL t (t.rate * (pt + m) + kp)))) := by simp only [onN]; rw [if_neg hl, riseL_eq ok]
  have eq2 : (onN t (l, pt, kp) m).2 = riseL t (t.rate * (pt + m) + kp) + t.plus := by simp only [onN]; rw [if_neg hl, riseL_eq ok]
  refine ⟨_, rfl, _, rfl, t.rate, pt + m, rfl, rfl, .inl ⟨by omega, by omega⟩, _, rfl, _, kp, rfl, rfl, ?_⟩
  refine atS [some (.ref ta), some (.ref b), some (.int m), some (.int t.every), some (.int t.first), some (.int t.rate), some (optV t.low), some (optV t.top), some (.int t.keep), some (.int t.plus), some (.int l), some (.int (pt + m)), some (.int kp), some (.int (t.rate * (pt + m) + kp)), none] ?_
  -- rise
  refine ⟨_, rfl, rfl, _, rfl, if_join (fun v H' => H = H' ∧ v = .int (capN t (t.rate * (pt + m) + kp))) (fun Q' k hc => ?_) (fun Q' k hc => ?_) ?_⟩
  · rw [opt_none] at hc
    refine ⟨_, rfl, k _ _ ⟨rfl, ?_⟩⟩
    unfold capN
    rw [of_decide_eq_true hc]
  · rw [opt_none] at hc
    cases e : t.top with
    | none => rw [e] at hc; cases hc
    | some c =>
      have e2 : capN t (t.rate * (pt + m) + kp) = if c < t.rate * (pt + m) + kp then c else t.rate * (pt + m) + kp := by unfold capN; rw [e]
      exact ⟨_, rfl, _, rfl, _, c, rfl, k _ _ ⟨rfl, by rw [e2]⟩⟩
  rintro v H' ⟨rfl, rfl⟩
  refine ⟨_, rfl, rfl, _, rfl, if_join (fun v H' => H = H' ∧ v = .int (riseL t (t.rate * (pt + m) + kp))) (fun Q' k hc => ?_) (fun Q' k hc => ?_) ?_⟩
  · rw [opt_none] at hc
    refine ⟨_, rfl, k _ _ ⟨rfl, ?_⟩⟩
    rw [riseL_cap, of_decide_eq_true hc]
  · rw [opt_none] at hc
    cases e : t.low with
    | none => rw [e] at hc; cases hc
    | some c => exact ⟨_, rfl, _, rfl, _, c, rfl, k _ _ ⟨rfl, by rw [riseL_cap, e]⟩⟩
  rintro v H' ⟨rfl, rfl⟩
  refine ⟨_, rfl, _, rfl, _, rfl, _, rfl, _, _, rfl, rfl, 0, _, rfl, t.keep, _, rfl, by show 3 ≤ sizeLine; decide, fun p1 n1 => ?_⟩
  obtain ⟨B1, Y1, e1⟩ := ext_upd (o := .tup (sdV (onN t (l, pt, kp) m).1)) sB n1
  rw [eq1] at Y1 e1
  refine ⟨_, rfl, _, rfl, _, t.plus, rfl, rfl, by show 2 ≤ sizeLine; decide, fun p2 n2 => ?_⟩
  obtain ⟨B2, Y2, e2⟩ := ext_upd (o := .tup [.ref p1, .int (riseL t (t.rate * (pt + m) + kp) + t.plus)]) Y1.in_ n2
  refine q _ B2 _ (Y1.trans Y2) ⟨p2, .ref p1, _, rfl, e2, ⟨p1, rfl, ?_⟩, congrArg V.int eq2.symm⟩
  rw [eq1]
  exact Y2.gh _ _ e1
abbrev IsYear : Rel (List Sd × List Int) := IsP IsSds (IsL IsI)
theorem mono_Year : Mono IsYear := mono_P mono_Sds (mono_L mono_I)
def spYear : Sp := fun vs H Q _ => ∃ B rv nv row ss m, vs = [rv, nv, .int m] ∧ Same B H ∧ IsL IsTm B rv row ∧ IsSds B nv ss ∧ ss.length = row.length ∧ row.length ≤ 6 ∧ RowOk row ∧
  ∀ v B' H', Ext none B H B' H' → IsYear B' v (stepN row ss m, riseN row ss m) → Q v H'
abbrev N_law_year : List PySem.Str := ["_law_row", "_law_stands", "_law_step", "_law_both", "_law_terms_here", "_law_stand", "_law_each"]
theorem sc_law_year : FnScope N_law_year ["_law_row", "_law_stands", "_law_step"] (defScope st_law_year) := ⟨rfl, rfl, rfl, by decide +kernel, rfl, by decide +kernel, by decide +kernel⟩
theorem b_law_year (T : Txt K mg C W R) (g_law_on : Fn P w K mg base 1 "_law_on" ["_law_terms_here", "_law_stand", "_law_step"] spOn) : Body P w K mg base N_law_year "_law_year" st_law_year 1 spYear := by
  intro f cdv A outer s H vs Q E hr h
  obtain ⟨B, rv, nv, row, ss, m, rfl, sB, ⟨ra, tvs, rfl, hra, ptv⟩, ⟨na, nvs, rfl, hna, pnv⟩, l1, l3, ok, q⟩ := h
  have lt : tvs.length = row.length := Paired.length ptv
  have ln : nvs.length = ss.length := Paired.length pnv
  refine ⟨_, (pss_cons (ps_setLc (i := 3) (own := [("_law_terms_here", 4), ("_law_stand", 5)]) (g := gTup K 2 (gCons (gName 4) (gCons (gName 5) gNil))) rfl sc_law_year.nd rfl rfl (sw_true rfl rfl rfl (by decide +kernel)) (pi_zipK true false (by rfl) T.bzip (pa_cons (pv 0) (pa_cons (pv 1) pa_nil))) (blkOk_by (own := [("_law_terms_here", 4), ("_law_stand", 5)]) (N := N_law_year) (sc := defScope st_law_year) (by decide +kernel)) (fun _ _ _ _ _ => (pg_tup rfl (pgs_cons (pg_name (i := 4) sc_law_year.nd rfl (Or.inl rfl)) (pgs_cons (pg_name (i := 5) sc_law_year.nd rfl (Or.inl rfl)) pgs_nil)))) (fun _ _ _ _ _ => pts_nil) (fun _ _ _ _ _ => (pe_callF g_law_on hr (pa_cons (pv 4) (pa_cons (pv 5) (pa_cons (pv 2) pa_nil))))))
      (pss_one (ps_ret (pe_tup (pa_cons (pe_callTy call_tuple_of (by rfl) T.btuple (by decide +kernel) (pa_cons (pe_lc (own := [("_law_each", 6)]) (g := gName 6) rfl sc_law_year.nd (pi_list (pv 3)) (blkOk_by (own := [("_law_each", 6)]) (N := N_law_year) (sc := defScope st_law_year) (by decide +kernel)) (fun _ _ _ _ _ => (pg_name (i := 6) sc_law_year.nd rfl (Or.inl rfl))) (fun _ _ _ _ _ => pts_nil) (fun _ _ _ _ _ => (pe_ix (ix_tupK (K := K)) (pv 6) pe_int (fun _ _ => rfl)))) pa_nil)) (pa_cons (pe_lc (own := [("_law_each", 6)]) (g := gName 6) rfl sc_law_year.nd (pi_list (pv 3)) (blkOk_by (own := [("_law_each", 6)]) (N := N_law_year) (sc := defScope st_law_year) (by decide +kernel)) (fun _ _ _ _ _ => (pg_name (i := 6) sc_law_year.nd rfl (Or.inl rfl))) (fun _ _ _ _ _ => pts_nil) (fun _ _ _ _ _ => (pe_ix (ix_tupK (K := K)) (pv 6) pe_int (fun _ _ => rfl)))) pa_nil)))))), ?_⟩
  refine ⟨_, rfl, _, rfl, ra, na, tvs, nvs, rfl, SqL.to sB hra, SqT.to sB hna, fun D nD => ?_⟩
  refine lc_new (walk_zipK (k1 := true) (k2 := false) (xs := tvs) (ys := nvs) (n := row.length) (by omega) (by omega)) (List.zipWith (fun t s => onN t s m) row ss) (IsP IsSd IsI) (mono_P mono_Sd mono_I) sB nD (by simp [l1]) (by rw [sizeLine_eq]; omega)
    (fun H2 s2 => ⟨SqL.to (sB.trans s2) hra, SqT.to (sB.trans s2) hna⟩) ?_ ?_
  · rintro i x z B1 H2 H3 Qn Qs hz X ⟨T1, x1, x2, rfl, nT, rfl, f1, f2⟩ hq
    obtain ⟨t, s', ht, hs', rfl⟩ := zip_get hz
    obtain ⟨c1, hc1, pc1⟩ := paired_get ptv ht
    obtain ⟨c2, hc2, pc2⟩ := paired_get pnv hs'
    cases f1.symm.trans hc1
    cases f2.symm.trans hc2
    have Y1 := ext_loc (o := .tup [x1, x2]) X.in_ nT
    refine ⟨T1, _, rfl, SqT.of upd_same, rfl, _, _, rfl, _, _, rfl, rfl, rfl, yesT ?_⟩
    exact ⟨_, rfl, _, rfl, _, rfl, B1, _, _, t, s', m, rfl, Y1.in_, mono_Tm.up X.gh pc1, mono_Sd.up X.gh pc2, ok t (List.mem_of_getElem? ht), fun v B2 H4 Y2 pv => hq v B2 H4 (Y1.trans Y2) pv⟩
  rintro B1 H2 X1 ⟨D', pvs, e, hD, ppv⟩
  cases e
  have lz : (List.zipWith (fun t s => onN t s m) row ss).length = row.length := by simp [l1]
  have lp : pvs.length = row.length := (Paired.length ppv).trans lz
  -- tuple([each[0] ..])
  refine ⟨_, rfl, D, rfl, ⟨_, SqL.to X1.in_ hD⟩, fun D3 nD3 => ?_⟩
  refine lc_new walk_L (stepN row ss m) IsSd mono_Sd X1.in_ nD3 (by rw [stepN_len l1, lp]) (by rw [sizeLine_eq]; omega) (fun H2 s2 => SqL.to (X1.in_.trans s2) hD) ?_ ?_
  · rintro i x z B3 H4 H5 Qn Qs hz X ⟨rfl, hx⟩ hq
    obtain ⟨t, s', ht, hs', rfl⟩ := zip_get hz
    have hzz : (List.zipWith (fun t s => onN t s m) row ss)[i]? = some (onN t s' m) := by rw [List.getElem?_zipWith, ht, hs']
    obtain ⟨c1, hc1, pc1⟩ := paired_get ppv hzz
    cases hx.symm.trans hc1
    obtain ⟨pa, v1, v2, rfl, hpa, e1, e2⟩ := pc1
    exact ⟨rfl, yesT ⟨_, rfl, pa, _, 0, v1, rfl, rfl, SqT.to X.in_ (X.gh _ _ hpa), atI_nat (j := 0) rfl, hq _ B3 _ (.refl X.in_) (mono_Sd.up X.gh e1)⟩⟩
  rintro B3 H4 X3 ⟨D3', ls, e, hD3, pls⟩
  cases e
  refine ⟨D3, ls, rfl, .inl ⟨SqL.to X3.in_ hD3, fun l nl => ?_⟩⟩
  obtain ⟨B4, X4, h4⟩ := ext_upd (o := .tup ls) X3.in_ nl
  -- [each[1] ..]
  have hD4 := (X3.gh.trans X4.gh) _ _ hD
  refine ⟨_, rfl, D, rfl, ⟨_, SqL.to X4.in_ hD4⟩, fun D5 nD5 => ?_⟩
  refine lc_new walk_L (riseN row ss m) IsI mono_I X4.in_ nD5 (by rw [riseN_len l1, lp]) (by rw [sizeLine_eq]; omega) (fun H2 s2 => SqL.to (X4.in_.trans s2) hD4) ?_ ?_
  · rintro i x z B5 H6 H7 Qn Qs hz X ⟨rfl, hx⟩ hq
    obtain ⟨t, s', ht, hs', rfl⟩ := zip_get hz
    have hzz : (List.zipWith (fun t s => onN t s m) row ss)[i]? = some (onN t s' m) := by rw [List.getElem?_zipWith, ht, hs']
    obtain ⟨c1, hc1, pc1⟩ := paired_get ppv hzz
    cases hx.symm.trans hc1
    obtain ⟨pa, v1, v2, rfl, hpa, e1, e2⟩ := pc1
    exact ⟨rfl, yesT ⟨_, rfl, pa, _, 1, v2, rfl, rfl, SqT.to X.in_ ((X3.gh.trans (X4.gh.trans X.gh)) _ _ hpa), atI_nat (j := 1) rfl, hq _ B5 _ (.refl X.in_) e2⟩⟩
  rintro B5 H6 X5 h5
  have h5' := h5
  obtain ⟨D5', rs, e, hD5, prs⟩ := h5
  cases e
  refine ⟨by show 2 ≤ sizeLine; decide, fun p np => ?_⟩
  obtain ⟨B6, X6, h6⟩ := ext_upd (o := .tup [.ref l, .ref D5]) X5.in_ np
  exact q _ B6 _ (X1.trans (X3.trans (X4.trans (X5.trans X6)))) ⟨p, .ref l, .ref D5, rfl, h6, ⟨l, ls, rfl, (X5.gh.trans X6.gh) _ _ h4, mono_Sd.p (X4.gh.trans (X5.gh.trans X6.gh)) pls⟩, (mono_L mono_I).up X6.gh h5'⟩
end
end PB

/-! the law's clauses and sums -/
namespace PB
open PySem PySem.Spec PyProof.Rows L2
def IsB : Rel Bool := fun _ v b => v = .bl b
theorem mono_B : Mono IsB := ⟨fun _ h => h⟩
section
variable {P : Program} {w : World} {K : PySem.W.Frag} {mg : PySem.Str → Option Value} {base : Heap} {C W R : Addr}
abbrev IsR : Rel (List Tm) := IsL IsTm
theorem mono_R : Mono IsR := mono_L mono_Tm
def spBegun9 : Sp := fun vs H Q _ => ∃ B rv row, vs = [rv] ∧ Same B H ∧ IsR B rv row ∧ row.length ≤ 6 ∧ ∀ v B' H', Ext none B H B' H' → IsSds B' v (begR row) → Q v H'
abbrev N_law_begun : List PySem.Str := ["_law_row", "_law_terms_here"]
theorem sc_law_begun : FnScope N_law_begun ["_law_row"] (defScope st_law_begun) := ⟨rfl, rfl, rfl, by decide +kernel, rfl, by decide +kernel, by decide +kernel⟩
theorem b_law_begun (T : Txt K mg C W R) : Body P w K mg base N_law_begun "_law_begun" st_law_begun 0 spBegun9 := by
  intro f cdv A outer s H vs Q E hr h
  obtain ⟨B, rv, row, rfl, sB, ⟨ra, tvs, rfl, hra, ptv⟩, l1, q⟩ := h
  have lt : tvs.length = row.length := Paired.length ptv
  refine ⟨_, (pss_one (ps_ret (pe_callTy call_tuple_of (by rfl) T.btuple (by decide +kernel) (pa_cons (pe_lc (own := [("_law_terms_here", 1)]) (g := gName 1) rfl sc_law_begun.nd (pi_list (pv 0)) (blkOk_by (own := [("_law_terms_here", 1)]) (N := N_law_begun) (sc := defScope st_law_begun) (by decide +kernel)) (fun _ _ _ _ _ => (pg_name (i := 1) sc_law_begun.nd rfl (Or.inl rfl))) (fun _ _ _ _ _ => pts_nil) (fun _ _ _ _ _ => (pe_tup (pa_cons (pe_ix (ix_tupK (K := K)) (pv 1) pe_int (fun _ _ => rfl)) (pa_cons pe_int (pa_cons pe_int pa_nil)))))) pa_nil)))), ?_⟩
  refine ⟨_, rfl, ra, rfl, ⟨_, SqL.to sB hra⟩, fun D nD => lc_new walk_L (begR row) IsSd mono_Sd sB nD (by rw [begR_len, lt]) (by rw [sizeLine_eq]; omega) (fun H2 s2 => SqL.to (sB.trans s2) hra) ?_ ?_⟩
  · rintro i x z B1 H2 H3 Qn Qs hz X ⟨rfl, hx⟩ hq
    obtain ⟨t, ht, rfl⟩ := map_get hz
    obtain ⟨c, hc, pt⟩ := paired_get ptv ht
    cases hx.symm.trans hc
    obtain ⟨a, rfl, ha⟩ := pt
    refine ⟨rfl, yesT ⟨_, rfl, a, _, 1, _, rfl, rfl, SqT.to X.in_ (X.gh _ _ ha), atI_nat (j := 1) rfl, by show 3 ≤ sizeLine; decide, fun p np => ?_⟩⟩
    obtain ⟨B2, Y, e⟩ := ext_upd (o := .tup (sdV (begN t))) X.in_ np
    exact hq _ B2 _ Y ⟨p, rfl, e⟩
  · rintro B1 H2 X1 ⟨D', ls, e, hD, pl⟩
    cases e
    refine ⟨D, ls, rfl, .inl ⟨SqL.to X1.in_ hD, fun l nl => ?_⟩⟩
    obtain ⟨B2, X2, e2⟩ := ext_upd (o := .tup ls) X1.in_ nl
    exact q _ B2 _ (X1.trans X2) ⟨l, ls, rfl, e2, mono_Sd.p X2.gh pl⟩
def spClause (C : Addr) : Sp := fun vs H Q _ => ∃ B tv t, vs = [tv] ∧ Same B H ∧ IsTm B tv t ∧ t.Ok ∧ ∀ v B' H', Ext none B H B' H' → IsCl C B' v t → Q v H'
abbrev N_law_clause : List PySem.Str := ["_law_terms_here"]
theorem sc_law_clause : FnScope N_law_clause ["_law_terms_here"] (defScope st_law_clause) := ⟨rfl, rfl, rfl, by decide +kernel, rfl, by decide +kernel, by decide +kernel⟩
theorem b_law_clause (T : Txt K mg C W R) (i_Clause : FnI P w K mg base 4 C "Clause" ["self", "every", "first", "rate", "floor", "ceiling", "keep", "plus"] (spCInit C)) : Body P w K mg base N_law_clause "_law_clause" st_law_clause 5 (spClause C) := by
  intro f cdv A outer s H vs Q E hr h
  obtain ⟨B, tv, t, rfl, sB, ⟨ta, rfl, hta⟩, ok, q⟩ := h
  have hs : SqT K H ta (tmV t) := SqT.to sB hta
  refine ⟨_, (pss_one (ps_ret (pe_makeF i_Clause hr (pa_cons (pe_ix ix_tup (pv 0) pe_int (fun _ _ => rfl)) (pa_cons (pe_ix ix_tup (pv 0) pe_int (fun _ _ => rfl)) (pa_cons (pe_ix ix_tup (pv 0) pe_int (fun _ _ => rfl)) (pa_cons (pe_ix ix_tup (pv 0) pe_int (fun _ _ => rfl)) (pa_cons (pe_ix ix_tup (pv 0) pe_int (fun _ _ => rfl)) (pa_cons (pe_ix ix_tup (pv 0) pe_int (fun _ _ => rfl)) (pa_cons (pe_ix ix_tup (pv 0) pe_int (fun _ _ => rfl)) pa_nil)))))))))), ?_⟩
  refine ⟨_, rfl, ta, _, 0, _, rfl, rfl, hs, atI_nat (j := 0) rfl, _, rfl, ta, _, 1, _, rfl, rfl, hs, atI_nat (j := 1) rfl, _, rfl, ta, _, 2, _, rfl, rfl, hs, atI_nat (j := 2) rfl, _, rfl, ta, _, 3, _, rfl, rfl, hs, atI_nat (j := 3) rfl,
    _, rfl, ta, _, 4, _, rfl, rfl, hs, atI_nat (j := 4) rfl, _, rfl, ta, _, 5, _, rfl, rfl, hs, atI_nat (j := 5) rfl, _, rfl, ta, _, 6, _, rfl, rfl, hs, atI_nat (j := 6) rfl, fun x dx nx ndx ne => ?_⟩
  refine ⟨x, dx, t, rfl, upd_same, ok, fun tp H1 keep e1 ntp et => ⟨rfl, ?_⟩⟩
  have s1 : Same H H1 := fun b o e => keep b o (ne_of_none e nx) (by rw [upd_ne (ne_of_none e nx), upd_ne (ne_of_none e ndx)]; exact e)
  have hx : H x = none := nx
  have htp : H tp = none := by
    cases z : H tp with
    | none => rfl
    | some o =>
      rw [upd_ne (ne_of_none z nx), upd_ne (ne_of_none z ndx), z] at ntp
      cases ntp
  obtain ⟨B1, X1, f1, sm1, ne1⟩ := (ext_same (j := none) sB s1).fix (fun z => nomatch z) hx (sB.free hx) e1
  have hxt : tp ≠ x := fun z => by rw [z, upd_same] at ntp; cases ntp
  obtain ⟨B2, X2, f2, sm2, ne2⟩ := X1.fix (fun z => nomatch z) htp (by rw [ne1 tp hxt]; exact sB.free htp) et
  exact q _ B2 H1 X2 ⟨x, dx, tp, rfl, sm2 _ _ f1, f2⟩
def spClauses (C : Addr) : Sp := fun vs H Q _ => ∃ B rv row, vs = [rv] ∧ Same B H ∧ IsR B rv row ∧ row.length ≤ 6 ∧ RowOk row ∧ ∀ v B' H', Ext none B H B' H' → Cls_ C B' v row → Q v H'
abbrev N_law_clauses : List PySem.Str := ["_law_row", "_law_terms_here"]
theorem sc_law_clauses : FnScope N_law_clauses ["_law_row"] (defScope st_law_clauses) := ⟨rfl, rfl, rfl, by decide +kernel, rfl, by decide +kernel, by decide +kernel⟩
theorem b_law_clauses (T : Txt K mg C W R) (g_law_clause : Fn P w K mg base 6 "_law_clause" ["_law_terms_here"] (spClause C)) : Body P w K mg base N_law_clauses "_law_clauses" st_law_clauses 6 (spClauses C) := by
  intro f cdv A outer s H vs Q E hr h
  obtain ⟨B, rv, row, rfl, sB, ⟨ra, tvs, rfl, hra, ptv⟩, l1, ok, q⟩ := h
  have lt : tvs.length = row.length := Paired.length ptv
  refine ⟨_, (pss_one (ps_ret (pe_callTy call_tuple_of (by rfl) T.btuple (by decide +kernel) (pa_cons (pe_lc (own := [("_law_terms_here", 1)]) (g := gName 1) rfl sc_law_clauses.nd (pi_list (pv 0)) (blkOk_by (own := [("_law_terms_here", 1)]) (N := N_law_clauses) (sc := defScope st_law_clauses) (by decide +kernel)) (fun _ _ _ _ _ => (pg_name (i := 1) sc_law_clauses.nd rfl (Or.inl rfl))) (fun _ _ _ _ _ => pts_nil) (fun _ _ _ _ _ => (pe_callF g_law_clause hr (pa_cons (pv 1) pa_nil)))) pa_nil)))), ?_⟩
  refine ⟨_, rfl, ra, rfl, ⟨_, SqL.to sB hra⟩, fun D nD => lc_new walk_L row (IsCl C) mono_Cl sB nD lt.symm (by rw [sizeLine_eq]; omega) (fun H2 s2 => SqL.to (sB.trans s2) hra) ?_ ?_⟩
  · rintro i x z B1 H2 H3 Qn Qs hz X ⟨rfl, hx⟩ hq
    obtain ⟨c, hc, pt⟩ := paired_get ptv hz
    cases hx.symm.trans hc
    exact ⟨rfl, yesT ⟨_, rfl, B1, _, z, rfl, X.in_, mono_Tm.up X.gh pt, ok z (List.mem_of_getElem? hz), fun v B2 H4 Y pv => hq v B2 H4 Y pv⟩⟩
  · rintro B1 H2 X1 ⟨D', ls, e, hD, pl⟩
    cases e
    refine ⟨D, ls, rfl, .inl ⟨SqL.to X1.in_ hD, fun l nl => ?_⟩⟩
    obtain ⟨B2, X2, e2⟩ := ext_upd (o := .tup ls) X1.in_ nl
    exact q _ B2 _ (X1.trans X2) ⟨l, ls, rfl, e2, mono_Cl.p X2.gh pl⟩
def spGap : Sp := fun vs H Q _ => ∃ B sv xv signs sums, vs = [sv, xv] ∧ Same B H ∧ IsL IsI B sv signs ∧ IsL IsI B xv sums ∧ signs.length = sums.length ∧ signs.length ≤ 6 ∧ SgnOk signs ∧ ∀ H', Same H H' → Q (.int (gapN signs sums)) H'
abbrev N_law_gap : List PySem.Str := ["_law_signs", "_law_sums", "_law_sign", "_law_each"]
theorem sc_law_gap : FnScope N_law_gap ["_law_signs", "_law_sums"] (defScope st_law_gap) := ⟨rfl, rfl, rfl, by decide +kernel, rfl, by decide +kernel, by decide +kernel⟩
theorem b_law_gap (T : Txt K mg C W R) : Body P w K mg base N_law_gap "_law_gap" st_law_gap 0 spGap := by
  intro f cdv A outer s H vs Q E hr h
  obtain ⟨B, sv, xv, signs, sums, rfl, sB, ⟨sa, svs, rfl, hsa, psv⟩, ⟨xa, xvs, rfl, hxa, pxv⟩, l1, l2, sok, q⟩ := h
  have ls : svs.length = signs.length := Paired.length psv
  have lx : xvs.length = sums.length := Paired.length pxv
  refine ⟨_, (pss_one (ps_ret (pe_callB (cr_sum rfl) (by rfl) T.bsum (by decide +kernel) (pa_cons (pe_lc (own := [("_law_sign", 2), ("_law_each", 3)]) (g := gTup K 2 (gCons (gName 2) (gCons (gName 3) gNil))) rfl sc_law_gap.nd (pi_zipK true true (by rfl) T.bzip (pa_cons (pv 0) (pa_cons (pv 1) pa_nil))) (blkOk_by (own := [("_law_sign", 2), ("_law_each", 3)]) (N := N_law_gap) (sc := defScope st_law_gap) (by decide +kernel)) (fun _ _ _ _ _ => (pg_tup rfl (pgs_cons (pg_name (i := 2) sc_law_gap.nd rfl (Or.inl rfl)) (pgs_cons (pg_name (i := 3) sc_law_gap.nd rfl (Or.inl rfl)) pgs_nil)))) (fun _ _ _ _ _ => pts_nil) (fun _ _ _ _ _ => (pe_op op_mul (pv 2) (pv 3)))) pa_nil)))), ?_⟩
  refine ⟨_, rfl, _, rfl, sa, xa, svs, xvs, rfl, SqL.to sB hsa, SqL.to sB hxa, fun D nD => ?_⟩
  refine lc_new (walk_zipK (k1 := true) (k2 := true) (xs := svs) (ys := xvs) (n := signs.length) (by omega) (by omega)) (List.zipWith (fun a b => a * b) signs sums) IsI mono_I sB nD (by simp [l1]) (by rw [sizeLine_eq]; omega)
    (fun H2 s2 => ⟨SqL.to (sB.trans s2) hsa, SqL.to (sB.trans s2) hxa⟩) ?_ ?_
  · rintro i x z B1 H2 H3 Qn Qs hz X ⟨T1, x1, x2, rfl, nT, rfl, f1, f2⟩ hq
    obtain ⟨g, r, hg, hr', rfl⟩ := zip_get hz
    obtain ⟨c1, hc1, pc1⟩ := paired_get psv hg
    obtain ⟨c2, hc2, pc2⟩ := paired_get pxv hr'
    cases f1.symm.trans hc1
    cases f2.symm.trans hc2
    cases pc1
    cases pc2
    have Y1 := ext_loc (o := .tup [.int g, .int r]) X.in_ nT
    refine ⟨T1, _, rfl, SqT.of upd_same, rfl, _, _, rfl, _, _, rfl, rfl, rfl, yesT ?_⟩
    refine ⟨_, rfl, _, rfl, g, r, rfl, rfl, .inl ?_, hq _ B1 _ Y1 rfl⟩
    rcases sok g (List.mem_of_getElem? hg) with rfl | rfl
    · exact ⟨by decide, by decide⟩
    · exact ⟨by decide, by decide⟩
  rintro B1 H2 X1 ⟨D', gs, e, hD, pgs⟩
  cases e
  cases isI_map pgs
  exact ⟨D, _, rfl, SqL.to X1.in_ hD, q _ X1.sm⟩
abbrev N_law_is_int : List PySem.Str := ["_law_value"]
theorem sc_law_is_int : FnScope N_law_is_int ["_law_value"] (defScope st_law_is_int) := ⟨rfl, rfl, rfl, by decide +kernel, rfl, by decide +kernel, by decide +kernel⟩
theorem b_law_is_int (T : Txt K mg C W R) : Body P w K mg base N_law_is_int "_law_is_int" st_law_is_int 0 spIsInteger := by
  intro f cdv A outer s H vs Q E hr h
  obtain ⟨n, rfl, q⟩ := h
  refine ⟨_, (pss_one (ps_ret (pe_and (pe_callB call_isi (by rfl) T.bisinstance (by decide +kernel) (pa_cons (pv 0) (pa_cons (pe_bltn (v := .ty "int") (u := .type "int") (by rfl) T.bint (by decide +kernel) rfl) pa_nil))) (pe_one (pe_not (pe_callB call_isi (by rfl) T.bisinstance (by decide +kernel) (pa_cons (pv 0) (pa_cons (pe_bltn (v := .ty "bool") (u := .type "bool") (by rfl) T.bbool (by decide +kernel) rfl) pa_nil)))))))), ?_⟩
  exact ⟨_, rfl, _, _, _, _, true, rfl, .ty "int", .base (.int n), kit_ty (by decide +kernel), true, rfl, iteT ⟨_, rfl, _, _, _, _, false, rfl, .ty "bool", .base (.int n), kit_ty (by decide +kernel), false, rfl, q⟩⟩
def spIsCourse : Sp := fun vs H Q _ => ∃ B cv bv c lo hi, vs = [cv, bv] ∧ Same B H ∧ IsT IsI B cv c ∧ c.length ≤ 1000 ∧ (∀ x ∈ c, lo ≤ x ∧ x ≤ hi) ∧ IsBand B bv (lo, hi) ∧ ∀ H', Same H H' → Q (.bl true) H'
abbrev N_law_is_course : List PySem.Str := ["_law_value", "_law_limits_here", "_law_step"]
theorem sc_law_is_course : FnScope N_law_is_course ["_law_value", "_law_limits_here"] (defScope st_law_is_course) := ⟨rfl, rfl, rfl, by decide +kernel, rfl, by decide +kernel, by decide +kernel⟩
theorem b_law_is_course (T : Txt K mg C W R) (g_law_is_int : Fn P w K mg base 1 "_law_is_int" ["_law_value"] spIsInteger) : Body P w K mg base N_law_is_course "_law_is_course" st_law_is_course 1 spIsCourse := by
  intro f cdv A outer s H vs Q E hr h
  obtain ⟨B, cv, bv, c, lo, hi, rfl, sB, ⟨ca, cvs, rfl, hca, pc⟩, hlen, hin, ⟨ba, rfl, hba⟩, q⟩ := h
  cases isI_map pc
  refine ⟨_, (pss_cons (ps_if (PW.pt (pw_or (pt_not (pt_val (pe_callB call_isi (by rfl) T.bisinstance (by decide +kernel) (pa_cons (pv 0) (pa_cons (pe_bltn (v := .ty "tuple") (u := .type "tuple") (by rfl) T.btuple (by decide +kernel) rfl) pa_nil))))) (pw_or1 (pt_not (pt_val (pe_callB (cr_all rfl) (by rfl) T.ball (by decide +kernel) (pa_cons (pe_lc (own := [("_law_step", 2)]) (g := gName 2) rfl sc_law_is_course.nd (pi_tup (pv 0)) (blkOk_by (own := [("_law_step", 2)]) (N := N_law_is_course) (sc := defScope st_law_is_course) (by decide +kernel)) (fun _ _ _ _ _ => (pg_name (i := 2) sc_law_is_course.nd rfl (Or.inl rfl))) (fun _ _ _ _ _ => pts_nil) (fun _ _ _ _ _ => (pe_callF g_law_is_int hr (pa_cons (pv 2) pa_nil)))) pa_nil))))))) (pss_one (ps_ret pe_bl)) pss_nil)
      (pss_one (ps_ret (pe_callB (cr_all rfl) (by rfl) T.ball (by decide +kernel) (pa_cons (pe_lc (own := [("_law_step", 2)]) (g := gName 2) rfl sc_law_is_course.nd (pi_tup (pv 0)) (blkOk_by (own := [("_law_step", 2)]) (N := N_law_is_course) (sc := defScope st_law_is_course) (by decide +kernel)) (fun _ _ _ _ _ => (pg_name (i := 2) sc_law_is_course.nd rfl (Or.inl rfl))) (fun _ _ _ _ _ => pts_nil) (fun _ _ _ _ _ => (pe_chain op_le op_le (pe_ix (ix_tupK (K := K)) (pv 1) pe_int (fun _ _ => rfl)) (pv 2) (pe_ix (ix_tupK (K := K)) (pv 1) pe_int (fun _ _ => rfl))))) pa_nil))))), ?_⟩
  have lcv : (c.map V.int).length = c.length := List.length_map _
  have lz : (c.map fun _ => true).length = c.length := List.length_map _
  have alltrue : (c.map fun _ => true).all id = true := by simp
  refine ⟨_, rfl, _, _, _, _, true, rfl, .ty "tuple", .base (.tup (sB _ _ hca)), kit_ty (by decide +kernel), true, rfl, iteF ?_⟩
  refine ⟨_, rfl, ca, rfl, ⟨_, SqT.to sB hca⟩, fun D nD => lc_new walk_T (c.map fun _ => true) IsB mono_B sB nD (by rw [lz, lcv]) (by rw [lcv, sizeLine_eq]; omega) (fun H2 s2 => SqT.to (sB.trans s2) hca) ?_ ?_⟩
  · rintro i x z B1 H2 H3 Qn Qs hz X ⟨rfl, hx⟩ hq
    obtain ⟨n, hn, rfl⟩ := map_get hx
    obtain ⟨m, hm, rfl⟩ := map_get hz
    exact ⟨rfl, yesT ⟨_, rfl, n, rfl, hq _ B1 _ (.refl X.in_) rfl⟩⟩
  rintro B1 H2 X1 ⟨D', bs, e, hD, pbs⟩
  cases e
  cases paired_eq (f := V.bl) pbs
  refine ⟨D, _, rfl, SqL.to X1.in_ hD, ?_⟩
  rw [alltrue]
  refine ⟨true, rfl, iteF ?_⟩
  refine ⟨_, rfl, ca, rfl, ⟨_, SqT.to X1.in_ (X1.gh _ _ hca)⟩, fun D2 nD2 => lc_new walk_T (c.map fun _ => true) IsB mono_B X1.in_ nD2 (by rw [lz, lcv]) (by rw [lcv, sizeLine_eq]; omega) (fun H2 s2 => SqT.to (X1.in_.trans s2) (X1.gh _ _ hca)) ?_ ?_⟩
  · rintro i x z B2 H3 H4 Qn Qs hz X ⟨rfl, hx⟩ hq
    obtain ⟨n, hn, rfl⟩ := map_get hx
    obtain ⟨m, hm, rfl⟩ := map_get hz
    have hb := X.in_ _ _ ((X1.gh.trans X.gh) _ _ hba)
    have hn2 := hin n (List.mem_of_getElem? hn)
    refine ⟨rfl, yesT ⟨_, rfl, ba, _, 0, _, rfl, rfl, SqT.of hb, atI_nat (j := 0) rfl, _, rfl, lo, n, rfl, rfl, _, rfl, ?_⟩⟩
    rw [decide_eq_true hn2.1]
    refine iteT ⟨_, rfl, ba, _, 1, _, rfl, rfl, SqT.of hb, atI_nat (j := 1) rfl, n, hi, rfl, rfl, ?_⟩
    exact hq _ B2 _ (.refl X.in_) (congrArg V.bl (decide_eq_true hn2.2))
  rintro B2 H3 X2 ⟨D2', bs2, e, hD2, pbs2⟩
  cases e
  cases paired_eq (f := V.bl) pbs2
  refine ⟨D2, _, rfl, SqL.to X2.in_ hD2, ?_⟩
  rw [alltrue]
  exact q _ (X1.sm.trans X2.sm)
end
end PB

/-! the law's net -/
namespace PB
open PySem PySem.Spec PyProof.Rows L2
theorem fold_len {S : Type} [DecidableEq S] (nxt : S → Int → S) (s : S) (c : List Int) : ∀ (l : List Int) (E : List (En S)), (l.foldl (add1 nxt s c) E).length ≤ E.length + l.length
  | [], E => Nat.le_refl _
  | m :: l, E => by
    have h := fold_len nxt s c l (add1 nxt s c E m)
    rw [List.foldl_cons, List.length_cons]
    have h2 : (add1 nxt s c E m).length ≤ E.length + 1 := by
      unfold add1
      split
      · omega
      · simp
    omega
theorem row_len {row : List Tm} {lo hi : Int} (hb : (msN lo hi).length ≤ 7) : ∀ n, (rowE row lo hi n).length ≤ 1 + 7 * n
  | 0 => Nat.le_refl _
  | n + 1 => by
    have ih := row_len (row := row) hb n
    show (turn (stepN row) (msN lo hi) (rowE row lo hi n) n).length ≤ _
    unfold turn
    split
    · omega
    · rename_i e _
      have := fold_len (stepN row) e.1 e.2 (msN lo hi) (rowE row lo hi n)
      omega
theorem BandOk.len {lo hi : Int} (b : BandOk (lo, hi)) : (msN lo hi).length ≤ 7 := by
  obtain ⟨b1, b2, b3⟩ := b
  simp only at b1 b2 b3
  rw [msN_len]
  omega
def behN (row : List Tm) (lo hi : Int) (ss : List Sd) : List (List Sd × List Int) := (msN lo hi).map fun m => (stepN row ss m, riseN row ss m)
def NetE (row : List Tm) (lo hi : Int) (B : Hp) (kv : List Sd × V) (e : En (List Sd)) : Prop := kv.1 = e.1 ∧ IsL IsYear B kv.2 (behN row lo hi e.1)
theorem NetE.upP {row : List Tm} {lo hi : Int} {B B' : Hp} {kvs : Tab} {E : List (En (List Sd))} (s : Same B B') (h : Paired (NetE row lo hi B) kvs E) : Paired (NetE row lo hi B') kvs E := Paired.mapP h fun _ _ z => ⟨z.1, (mono_L mono_Year).up s z.2⟩
theorem NetE.keys {row : List Tm} {lo hi : Int} {B : Hp} {kvs : Tab} {E : List (En (List Sd))} (h : Paired (NetE row lo hi B) kvs E) : kvs.map (·.1) = E.map (·.1) := by
  induction h with
  | nil => rfl
  | cons h t ih => rw [List.map_cons, List.map_cons, ih, h.1]
structure NetS (P : Program) (w : World) (row : List Tm) (lo hi : Int) (B H : Hp) (d1 ol d2 : Addr) (n : Nat) (E : List (En (List Sd))) : Prop where
  net : ∃ o kvs, ND P w H d1 o kvs ∧ Paired (NetE row lo hi B) kvs (E.take n)
  ord : ∃ ovs, H ol = some (.lst ovs) ∧ Paired (IsSds B) ovs (E.map (·.1))
  seen : ∃ o kvs, ND P w H d2 o kvs ∧ kvs.map (·.1) = E.map (·.1)
  b1 : B d1 = none
  bo : B ol = none
  b2 : B d2 = none
  ne : d1 ≠ d2
section
variable {P : Program} {w : World} {row : List Tm} {lo hi : Int} {B H B' H' : Hp} {d1 ol d2 : Addr} {n : Nat} {E : List (En (List Sd))}
theorem NetS.step (S : NetS P w row lo hi B H d1 ol d2 n E) (X : Ext none B H B' H') : NetS P w row lo hi B' H' d1 ol d2 n E := by
  obtain ⟨o, kvs, nd, pk⟩ := S.net
  obtain ⟨ovs, ho, po⟩ := S.ord
  obtain ⟨o2, kvs2, nd2, hk⟩ := S.seen
  exact ⟨⟨o, kvs, nd.same X.sm, NetE.upP X.gh pk⟩, ⟨ovs, X.sm _ _ ho, mono_Sds.p X.gh po⟩, ⟨o2, kvs2, nd2.same X.sm, hk⟩, X.fr _ (by rw [nd.at_]; simp) S.b1, X.fr _ (by rw [ho]; simp) S.bo, X.fr _ (by rw [nd2.at_]; simp) S.b2, S.ne⟩
end
section
variable {P : Program} {w : World} {K : PySem.W.Frag} {mg : PySem.Str → Option Value} {base : Heap} {C W R : Addr}
def spNet (P : Program) (w : World) : Sp := fun vs H Q _ => ∃ B rv bv row lo hi, vs = [rv, bv, .int 60] ∧ Same B H ∧ IsR B rv row ∧ row.length ≤ 6 ∧ RowOk row ∧ IsBand B bv (lo, hi) ∧ BandOk (lo, hi) ∧
  ∀ d o kvs B' H', Ext none B H B' H' → H d = none → B' d = none → ND P w H' d o kvs → Paired (NetE row lo hi B') kvs ((rowE row lo hi 61).take 61) → Q (.ref d) H'
abbrev N_law_net : List PySem.Str := ["_law_row", "_law_limits_here", "_law_size", "_law_net_here", "_law_order", "_law_seen", "_law_turn", "_law_behind_it", "_law_goal", "_law_rises", "_law_step"]
theorem sc_law_net : FnScope N_law_net ["_law_row", "_law_limits_here", "_law_size"] (defScope st_law_net) := ⟨rfl, rfl, rfl, by decide +kernel, rfl, by decide +kernel, by decide +kernel⟩
theorem b_law_net (T : Txt K mg C W R) (g_law_begun : Fn P w K mg base 1 "_law_begun" ["_law_row"] spBegun9) (g_law_year : Fn P w K mg base 2 "_law_year" ["_law_row", "_law_stands", "_law_step"] spYear) : Body P w K mg base N_law_net "_law_net" st_law_net 2 (spNet P w) := by
  intro f cdv A outer s H vs Q E hr h
  obtain ⟨B, rv, bv, row, lo, hi, rfl, sB, hrow, l1, rok, hband, bok, q⟩ := h
  have mlen := bok.len
  have hms := msN_srt lo hi
  refine ⟨_, (pss_cons (ps_asg (pe_tup (pa_cons pe_newN (pa_cons (pe_lst (pa_cons (pe_callF g_law_begun hr (pa_cons (pv 0) pa_nil)) pa_nil)) (pa_cons (pe_oneN hr.units (pe_callF g_law_begun hr (pa_cons (pv 0) pa_nil)) pe_bl) pa_nil)))) (pg_tup rfl (pgs_cons (pg_name (i := 3) sc_law_net.nd rfl (Or.inl rfl)) (pgs_cons (pg_name (i := 4) sc_law_net.nd rfl (Or.inr rfl)) (pgs_cons (pg_name (i := 5) sc_law_net.nd rfl (Or.inl rfl)) pgs_nil)))))
      (pss_cons (ps_for PassesOwn.never rfl (pi_range1 (by rfl) T.brange (pa_cons (pe_op op_add (pv 2) pe_int) pa_nil)) (pg_name (i := 6) sc_law_net.nd rfl (Or.inr rfl))
      (pss_one (ps_if (pt_cmpR op_lt (pv 6) (pe_callB call_len_seq (by rfl) T.blen PySem.boot_len (pa_cons (pv 4) pa_nil)) (nomark _)) (pss_cons (ps_setLc (i := 7) (own := [("_law_step", 10)]) (g := gName 10) rfl sc_law_net.nd rfl rfl (sw_true rfl rfl rfl (by decide +kernel)) (pi_range2 (by rfl) T.brange (pa_cons (pe_ix ix_tup (pv 1) pe_int (fun _ _ => rfl)) (pa_cons (pe_op op_add (pe_ix ix_tup (pv 1) pe_int (fun _ _ => rfl)) pe_int) pa_nil))) (blkOk_by (own := [("_law_step", 10)]) (N := N_law_net) (sc := defScope st_law_net) (by decide +kernel)) (fun _ _ _ _ _ => (pg_name (i := 10) sc_law_net.nd rfl (Or.inl rfl))) (fun _ _ _ _ _ => pts_nil) (fun _ _ _ _ _ => (pe_callF g_law_year hr (pa_cons (pv 0) (pa_cons (pe_ix (ix_listK (K := K)) (pv 4) (pv 6) (fun _ _ => rfl)) (pa_cons (pv 10) pa_nil))))))
      (pss_cons (ps_asg (pv 7) (pg_sub (pv 3) (pe_ix ix_list (pv 4) (pv 6) (fun _ _ => rfl)) (set_N hr.units)))
      (pss_one (ps_for PassesOwn.never rfl (pi_list (pv 7)) (pg_tup rfl (pgs_cons (pg_name (i := 8) sc_law_net.nd rfl (Or.inl rfl)) (pgs_cons (pg_name (i := 9) sc_law_net.nd rfl (Or.inl rfl)) pgs_nil)))
      (pss_one (ps_if (pt_cmpR (op_ninN hr.units) (pv 8) (pv 5) (by rfl)) (pss_cons (ps_asg pe_bl (pg_sub (pv 5) (pv 8) (set_N hr.units)))
      (pss_one (ps_expr (pe_bm PySem.F.plainAttrs_list PySem.F.slot_list_append PySem.F.type_list_append mt_append (pv 4) (pa_cons (pv 8) pa_nil))))) pss_nil)))))) pss_nil)))
      (pss_one (ps_ret (pv 3))))), ?_⟩
  -- net, order, seen = {}, [begun(row)], {begun(row): True}
  intro d1 o1 H1 n1 eH1 nd1
  have X1 : Ext none B H B H1 := by rw [eH1]; exact ext_loc sB n1 _
  clear eH1
  refine ⟨_, rfl, B, rv, row, rfl, X1.in_, hrow, l1, fun v1 B2 H2 X2 hv1 => ⟨by show 1 ≤ sizeLine; decide, fun ol nol => ?_⟩⟩
  have X3 := ext_loc (o := .lst [v1]) X2.in_ nol
  have X13 := X1.trans (X2.trans X3)
  intro d2 o2 nd2
  have X4 := ext_loc (o := .ext fun h => h.get? d2 = some o2) X3.in_ nd2
  have X14 := X13.trans X4
  refine ⟨_, rfl, B2, rv, row, rfl, X4.in_, mono_R.up X2.gh hrow, l1, fun v2 B5 H5 X5 hv2 => ⟨X5.sm _ _ upd_same, begR row, mono_Sds.up X5.in_ hv2, fun o2' H6 eH6 nd6 => ⟨by show 3 ≤ sizeLine; decide, fun tp ntp => ?_⟩⟩⟩
  have z2 : H d2 = none := X13.sm.free nd2
  have b25 : B5 d2 = none := X5.fr d2 (by rw [upd_same]; simp) (X13.in_.free nd2)
  have X6 : Ext none B H B5 H6 := by rw [eH6]; exact (X14.trans X5).mut (.inr z2) b25 _
  have k56 : ∀ b o, H5 b = some o → b ≠ d2 → H6 b = some o := fun b o e n => by rw [eH6, upd_ne n]; exact e
  clear eH6
  have X7 := ext_loc (o := .tup [.ref d1, .ref ol, .ref d2]) X6.in_ ntp
  have X67 := X6.trans X7
  have zol : H ol = none := (X1.trans X2).sm.free nol
  have e1_4 : ∀ b o, H1 b = some o → b ≠ d2 → (upd H6 tp (.tup [.ref d1, .ref ol, .ref d2])) b = some o := fun b o e n => X7.sm _ _ (k56 _ _ (X5.sm _ _ (X4.sm _ _ (X3.sm _ _ (X2.sm _ _ e)))) n)
  have ne12 : d1 ≠ d2 := fun z => by rw [← z] at nd2; rw [X3.sm _ _ (X2.sm _ _ nd1.at_)] at nd2; cases nd2
  have neo2 : ol ≠ d2 := fun z => by rw [← z] at nd2; rw [upd_same] at nd2; cases nd2
  have hol : (upd H6 tp (.tup [.ref d1, .ref ol, .ref d2])) ol = some (.lst [v1]) := X7.sm _ _ (k56 _ _ (X5.sm _ _ (X4.sm _ _ upd_same)) neo2)
  have S0 : NetS P w row lo hi B5 (upd H6 tp (.tup [.ref d1, .ref ol, .ref d2])) d1 ol d2 0 (rowE row lo hi 0) := by
    refine ⟨⟨o1, [], nd1.keep (fun b xs e => e1_4 _ _ e (ne_of_none (X3.sm _ _ (X2.sm _ _ e)) nd2)) (by rw [nd1.at_]; exact e1_4 _ _ nd1.at_ ne12), .nil⟩, ⟨[v1], hol, paired_one (mono_Sds.up (X4.gh.trans X5.gh) hv1)⟩, ⟨o2', _, nd6.same X7.sm, rfl⟩, ?_, ?_, b25, ne12⟩
    · exact X5.fr d1 ((X2.also (X3.trans X4)).al d1 (by rw [nd1.at_]; simp)) (X2.fr d1 (by rw [nd1.at_]; simp) (X1.gh.free (sB.free n1)))
    · exact X5.fr ol (X4.al ol (by rw [upd_same]; simp)) (X2.in_.free nol)
  refine ⟨tp, _, rfl, SqT.of upd_same, rfl, _, _, rfl, _, _, rfl, _, _, rfl, rfl, ?_⟩
  refine atS [some rv, some bv, some (.int 60), some (.ref d1), some (.ref ol), some (.ref d2), none, none, none, none, none] ?_
  refine ⟨_, rfl, 60, 1, rfl, rfl, 61, rfl, by decide, by decide, for_range (lo := 0) (n := 61) (fun i σ H' => ∃ B' y6 y7 y8 y9, σ = [some rv, some bv, some (.int 60), some (.ref d1), some (.ref ol), some (.ref d2), y6, y7, y8, y9, none] ∧ Ext none B H B' H' ∧ NetS P w row lo hi B' H' d1 ol d2 i (rowE row lo hi i))
    ⟨B5, none, none, none, none, rfl, X67, S0⟩ ?_ ?_⟩
  · rintro i σ H1 hi61 ⟨B1, y6, y7, y8, y9, rfl, X, S⟩
    refine atS [some rv, some bv, some (.int 60), some (.ref d1), some (.ref ol), some (.ref d2), some (.int (i : Int)), y7, y8, y9, none] ?_ (by simp)
    obtain ⟨ovs, ho, po⟩ := S.ord
    have lov : ovs.length = (rowE row lo hi i).length := by have := Paired.length po; rwa [List.length_map] at this
    have hlen := row_len (row := row) (lo := lo) (hi := hi) mlen i
    refine ⟨_, rfl, _, rfl, ol, ovs, rfl, .inl (SqL.of ho), _, _, rfl, rfl, _, rfl, iteP (fun hlt => ?_) fun hge => ?_⟩
    · have hn : i < (rowE row lo hi i).length := by omega
      obtain ⟨e, he⟩ : ∃ e, (rowE row lo hi i)[i]? = some e := ⟨_, List.getElem?_eq_getElem hn⟩
      have hE1 : rowE row lo hi (i + 1) = (msN lo hi).foldl (add1 (stepN row) e.1 e.2) (rowE row lo hi i) := by
        show turn (stepN row) (msN lo hi) (rowE row lo hi i) i = _
        unfold turn
        rw [he]
      have elen : e.1.length = row.length := by
        rw [(binv _ _ _ hms i).run_ e (List.mem_of_getElem? he)]
        exact run_len row _ _ (begR_len row)
      have he1 : ((rowE row lo hi i).map (·.1))[i]? = some e.1 := by rw [List.getElem?_map, he]; rfl
      obtain ⟨nv, hnv, pnv⟩ := paired_get po he1
      obtain ⟨ba, rfl, hba⟩ := hband
      have hb1 := X.gh _ _ hba
      obtain ⟨b1, b2, b3⟩ := bok
      simp only at b1 b2 b3
      -- behind_it
      refine ⟨_, rfl, ba, _, 0, _, rfl, rfl, SqT.to X.in_ hb1, atI_nat (j := 0) rfl, _, rfl, ba, _, 1, _, rfl, rfl, SqT.to X.in_ hb1, atI_nat (j := 1) rfl, hi, 1, rfl, rfl, lo, hi + 1, rfl, ⟨by omega, by omega, by omega, by omega⟩, fun D nD => ?_⟩
      refine lc_new walk_R (behN row lo hi e.1) IsYear mono_Year X.in_ nD (by rw [behN, List.length_map, msN_len]) (by rw [sizeLine_eq]; omega) (fun _ _ => trivial) ?_ ?_
      · rintro k x z B2 H2 H3 Qn Qs hz Y ⟨rfl, rfl⟩ hq
        obtain ⟨m, hm, rfl⟩ := map_get hz
        have hk : k < (hi + 1 - lo).toNat := by have := (List.getElem?_eq_some_iff.mp hm).1; rwa [msN_len] at this
        have em : m = lo + (k : Int) := by
          have := (msN_get hk).symm.trans hm
          exact (Option.some.inj this).symm
        subst em
        refine ⟨rfl, yesT ⟨_, rfl, _, rfl, _, rfl, ol, ovs, (i : Int), nv, rfl, rfl, SqL.of (Y.sm _ _ ho), atI_nat hnv, _, rfl, ?_⟩⟩
        exact ⟨B2, rv, nv, row, e.1, _, rfl, Y.in_, mono_R.up (X.gh.trans Y.gh) hrow, mono_Sds.up Y.gh pnv, elen, l1, rok, fun v B3 H4 Z hv => hq v B3 H4 Z hv⟩
      rintro B2 H2 X2 hbeh
      have S2 := S.step X2
      have ho2 := X2.sm _ _ ho
      obtain ⟨o, kvs, ndn, pk⟩ := S2.net
      have pnv2 := mono_Sds.up X2.gh pnv
      -- net[order[turn]] = behind_it
      have ht : (rowE row lo hi i).take i ++ [e] = (rowE row lo hi i).take (i + 1) := by rw [List.take_add_one, he]; rfl
      have klen : kvs.length ≤ i := by have := Paired.length pk; rw [List.length_take] at this; omega
      refine ⟨_, rfl, _, rfl, _, rfl, _, rfl, ol, ovs, (i : Int), nv, rfl, rfl, SqL.of ho2, atI_nat hnv, d1, o, kvs, e.1, rfl, ndn, mono_Sds.up X2.in_ pnv2, by rw [sizeLine_eq]; omega, fun o' H3 eH3 nd3 => ?_⟩
      have zd1 : H d1 = none := n1
      have Z3 : Ext none B H B2 H3 := by rw [eH3]; exact (X.trans X2).mut (.inr zd1) S2.b1 _
      have k23 : ∀ b o, H2 b = some o → b ≠ d1 → H3 b = some o := fun b o e n => by rw [eH3, upd_ne n]; exact e
      clear eH3
      have hnew : (valV kvs e.1) = none := by
        cases hv : valV kvs e.1 with
        | none => rfl
        | some v =>
          exfalso
          have hin : (kvs.any fun kv => decide (kv.1 = e.1)) = true := by rw [valV_any, hv]; rfl
          obtain ⟨p, hp, e2⟩ := List.any_eq_true.mp hin
          have hk : e.1 ∈ ((rowE row lo hi i).take i).map (·.1) := by
            rw [← NetE.keys pk]
            exact List.mem_map.mpr ⟨p, hp, of_decide_eq_true e2⟩
          have nd := (binv (stepN row) (msN lo hi) (begR row) hms i).nd
          have nd2 : (((rowE row lo hi i).take (i + 1)).map (·.1)).Nodup := by rw [List.map_take]; exact nd.sublist (List.take_sublist _ _)
          rw [← ht, List.map_append, List.nodup_append] at nd2
          exact nd2.2.2 _ hk e.1 (by simp) rfl
      have hput : putK kvs e.1 (V.ref D) = kvs ++ [(e.1, V.ref D)] := by
        unfold putK
        rw [valV_any, hnew]
        rfl
      rw [hput] at nd3
      have S3 : NetS P w row lo hi B2 H3 d1 ol d2 (i + 1) (rowE row lo hi i) := by
        obtain ⟨o2, kvs2, nds, hk⟩ := S2.seen
        have neo : ol ≠ d1 := ne_of ho2 ndn.at_ (fun z => nomatch z)
        refine ⟨⟨o', _, nd3, ?_⟩, ⟨ovs, k23 _ _ ho2 neo, mono_Sds.p X2.gh po⟩, ⟨o2, kvs2, nds.keep (fun b xs e => k23 _ _ e (ne_of e ndn.at_ (fun z => nomatch z))) (by rw [nds.at_]; exact k23 _ _ nds.at_ (Ne.symm S2.ne)), hk⟩, S2.b1, S2.bo, S2.b2, S2.ne⟩
        rw [← ht]
        exact paired_app pk (paired_one ⟨rfl, hbeh⟩)
      have hpre : ∀ l : List Int, ∃ new, l.foldl (add1 (stepN row) e.1 e.2) (rowE row lo hi i) = rowE row lo hi i ++ new := fun l => foldl_add_prefix _ _ _ l _
      obtain ⟨D', bvs, eD, hD, pb⟩ := hbeh
      cases eD
      have lbv : bvs.length = (msN lo hi).length := by have := Paired.length pb; rw [this, behN, List.length_map]
      have zol' : H ol = none := zol
      refine ⟨_, rfl, D, rfl, ⟨_, SqL.to Z3.in_ hD⟩, for_list (K := K) (a := D) (xs := bvs) (fun k σ H' => ∃ B' y8 y9, σ = [some rv, some (.ref ba), some (.int 60), some (.ref d1), some (.ref ol), some (.ref d2), some (.int (i : Int)), some (.ref D), y8, y9, none] ∧ Ext none B H B' H' ∧ Same B2 B' ∧
          NetS P w row lo hi B' H' d1 ol d2 (i + 1) (((msN lo hi).take k).foldl (add1 (stepN row) e.1 e.2) (rowE row lo hi i)))
        ⟨B2, y8, y9, rfl, Z3, .refl _, S3⟩ (fun k σ H' _ ⟨B', _, _, _, Z, s, _⟩ => SqL.to Z.in_ (s _ _ hD)) ?_ ?_⟩
      · rintro k x σ H4 hk ⟨B4, y8, y9, rfl, Z4, s24, S4⟩
        obtain ⟨z, hz, pz⟩ := paired_getL pb hk
        obtain ⟨m, hm, rfl⟩ := map_get hz
        obtain ⟨pa, v1', v2', rfl, hpa, hv1', hv2'⟩ := mono_Year.up s24 pz
        refine ⟨pa, _, rfl, SqT.to Z4.in_ hpa, rfl, _, _, rfl, _, _, rfl, rfl, ?_⟩
        refine atS [some rv, some (.ref ba), some (.int 60), some (.ref d1), some (.ref ol), some (.ref d2), some (.int (i : Int)), some (.ref D), some v1', some v2', none] ?_
        obtain ⟨o4, kvs4, nd4, hk4⟩ := S4.seen
        obtain ⟨ovs4, ho4, po4⟩ := S4.ord
        have hg4 := mono_Sds.up Z4.in_ hv1'
        have hT := tab_has hk4 (stepN row e.1 m)
        have eE : (if has (((msN lo hi).take k).foldl (add1 (stepN row) e.1 e.2) (rowE row lo hi i)) (stepN row e.1 m) = true then (((msN lo hi).take k).foldl (add1 (stepN row) e.1 e.2) (rowE row lo hi i)) else (((msN lo hi).take k).foldl (add1 (stepN row) e.1 e.2) (rowE row lo hi i)) ++ [(stepN row e.1 m, e.2 ++ [m])]) =
            ((msN lo hi).take (k + 1)).foldl (add1 (stepN row) e.1 e.2) (rowE row lo hi i) := by
          rw [List.take_add_one, hm, List.foldl_append]
          rfl
        have flen := fold_len (stepN row) e.1 e.2 ((msN lo hi).take k) (rowE row lo hi i)
        have tlen : ((msN lo hi).take k).length ≤ 7 := by rw [List.length_take]; omega
        refine ⟨_, rfl, _, rfl, d2, o4, kvs4, _, rfl, nd4, hg4, _, rfl, ?_⟩
        rw [hT]
        cases hb : has (((msN lo hi).take k).foldl (add1 (stepN row) e.1 e.2) (rowE row lo hi i)) (stepN row e.1 m) with
        | true =>
          rw [hb, if_pos rfl] at eE
          refine iteF ⟨B4, _, _, rfl, Z4, s24, ?_⟩
          rw [← eE]
          exact S4
        | false =>
          rw [hb, if_neg Bool.false_ne_true] at eE
          rw [hb] at hT
          have k4len : kvs4.length = (((msN lo hi).take k).foldl (add1 (stepN row) e.1 e.2) (rowE row lo hi i)).length := by have := congrArg List.length hk4; simpa using this
          have o4len : ovs4.length = (((msN lo hi).take k).foldl (add1 (stepN row) e.1 e.2) (rowE row lo hi i)).length := by have := Paired.length po4; rwa [List.length_map] at this
          refine iteT ⟨_, rfl, _, rfl, d2, o4, kvs4, stepN row e.1 m, rfl, nd4, hg4, by rw [sizeLine_eq]; omega, fun o5 H5 eH5 nd5 => ?_⟩
          have z2' : H d2 = none := z2
          have Z5 : Ext none B H B4 H5 := by rw [eH5]; exact Z4.mut (.inr z2') S4.b2 _
          have k45 : ∀ b o, H4 b = some o → b ≠ d2 → H5 b = some o := fun b o e n => by rw [eH5, upd_ne n]; exact e
          clear eH5
          have neo : ol ≠ d2 := ne_of ho4 nd4.at_ (fun z => nomatch z)
          have ho5 := k45 _ _ ho4 neo
          refine ⟨_, rfl, .inl ⟨rfl, _, SqL.of ho5⟩, _, rfl, ol, ovs4, v1', rfl, rfl, ho5, by rw [sizeLine_eq]; omega, ?_⟩
          have hput4 : putK kvs4 (stepN row e.1 m) (V.bl true) = kvs4 ++ [(stepN row e.1 m, V.bl true)] := by
            unfold putK
            rw [valV_any, hT]
            rfl
          rw [hput4] at nd5
          have k56 : ∀ b o, H5 b = some o → b ≠ ol → (upd H5 ol (.lst (ovs4 ++ [v1']))) b = some o := fun b o e n => by rw [upd_ne n]; exact e
          refine ⟨B4, _, _, rfl, Z5.mut (.inr zol') S4.bo _, s24, ?_⟩
          rw [← eE]
          obtain ⟨on, kvn, ndn4, pn4⟩ := S4.net
          have hd1 : H5 d1 = H4 d1 := by rw [ndn4.at_]; exact k45 _ _ ndn4.at_ S4.ne
          have hd1' : (upd H5 ol (.lst (ovs4 ++ [v1']))) d1 = H4 d1 := (k56 _ _ (hd1.trans ndn4.at_) (ne_of (hd1.trans ndn4.at_) ho5 (fun z => nomatch z))).trans ndn4.at_.symm
          refine ⟨⟨on, kvn, ndn4.keep (fun b xs e => k56 _ _ (k45 _ _ e (ne_of e nd4.at_ (fun z => nomatch z))) (ne_of e ho4 (fun z => nomatch z))) hd1', ?_⟩, ⟨_, upd_same, ?_⟩, ⟨o5, _, nd5.keep (fun b xs e => k56 _ _ e (ne_of e ho5 (fun z => nomatch z))) (by rw [nd5.at_]; exact k56 _ _ nd5.at_ (Ne.symm neo)), ?_⟩, S4.b1, S4.bo, S4.b2, S4.ne⟩
          · obtain ⟨new, hnew⟩ := hpre ((msN lo hi).take k)
            rw [List.take_append_of_le_length (by rw [hnew, List.length_append]; omega)]
            exact pn4
          · rw [List.map_append]
            exact paired_app po4 (paired_one hv1')
          · rw [List.map_append, List.map_append, hk4]
            rfl
      · rintro σ H4 ⟨B4, y8, y9, rfl, Z4, s24, S4⟩
        rw [lbv, List.take_of_length_le (Nat.le_refl _), ← hE1] at S4
        exact ⟨B4, _, _, _, _, rfl, Z4, S4⟩
    · have hE1 : rowE row lo hi (i + 1) = rowE row lo hi i := by
        show turn (stepN row) (msN lo hi) (rowE row lo hi i) i = _
        unfold turn
        rw [List.getElem?_eq_none (by omega)]
      refine ⟨B1, _, _, _, _, rfl, X, ?_⟩
      rw [hE1]
      obtain ⟨o, kvs, ndn, pk⟩ := S.net
      refine ⟨⟨o, kvs, ndn, ?_⟩, S.ord, S.seen, S.b1, S.bo, S.b2, S.ne⟩
      rw [List.take_of_length_le (by omega)] at pk ⊢
      exact pk
  · rintro σ H1 ⟨B1, y6, y7, y8, y9, rfl, X, S⟩
    obtain ⟨o, kvs, ndn, pk⟩ := S.net
    exact ⟨_, rfl, q d1 o kvs B1 H1 X n1 S.b1 ndn pk⟩
end
end PB

/-! the law's tame rows -/
namespace PB
open PySem PySem.Spec PyProof.Rows L2
section
variable {P : Program} {w : World} {K : PySem.W.Frag} {mg : PySem.Str → Option Value} {base : Heap} {C W R : Addr}
def spTame : Sp := fun vs H Q _ => ∃ B rv bv row lo hi, vs = [rv, bv, .int 60] ∧ Same B H ∧ IsR B rv row ∧ row.length ≤ 6 ∧ RowOk row ∧ IsBand B bv (lo, hi) ∧ BandOk (lo, hi) ∧
  ∀ v row' B' H', Ext none B H B' H' → IsR B' v row' → row'.length = row.length → RowOk row' → FewR row' lo hi 60 → Q v H'
theorem net_few {row : List Tm} {lo hi : Int} {B : Hp} {kvs : Tab} (pk : Paired (NetE row lo hi B) kvs ((rowE row lo hi 61).take 61)) (h : (kvs.length : Int) ≤ 60) : FewR row lo hi 60 := by
  have := Paired.length pk
  rw [List.length_take] at this
  show (rowE row lo hi 61).length ≤ 60
  omega
abbrev N_law_tame : List PySem.Str := ["_law_row", "_law_limits_here", "_law_size", "_law_yearly", "_law_terms_here"]
theorem sc_law_tame : FnScope N_law_tame ["_law_row", "_law_limits_here", "_law_size"] (defScope st_law_tame) := ⟨rfl, rfl, rfl, by decide +kernel, rfl, by decide +kernel, by decide +kernel⟩
theorem b_law_tame (T : Txt K mg C W R) (g_law_net : Fn P w K mg base 3 "_law_net" ["_law_row", "_law_limits_here", "_law_size"] (spNet P w)) : Body P w K mg base N_law_tame "_law_tame" st_law_tame 3 spTame := by
  intro f cdv A outer s H vs Q E hr h
  obtain ⟨B, rv, bv, row, lo, hi, rfl, sB, hrow, l1, rok, hband, bok, q⟩ := h
  refine ⟨_, (pss_cons (ps_if (pt_cmpR op_le (pe_callB call_lenN (by rfl) T.blen PySem.boot_len (pa_cons (pe_callF g_law_net hr (pa_cons (pv 0) (pa_cons (pv 1) (pa_cons (pv 2) pa_nil)))) pa_nil)) (pv 2) (nomark _)) (pss_one (ps_ret (pv 0))) pss_nil)
      (pss_cons (ps_setLc (i := 3) (own := [("_law_terms_here", 4)]) (g := gName 4) rfl sc_law_tame.nd rfl rfl (sw_true rfl rfl rfl (by decide +kernel)) (pi_list (pv 0)) (blkOk_by (own := [("_law_terms_here", 4)]) (N := N_law_tame) (sc := defScope st_law_tame) (by decide +kernel)) (fun _ _ _ _ _ => (pg_name (i := 4) sc_law_tame.nd rfl (Or.inl rfl))) (fun _ _ _ _ _ => pts_nil) (fun _ _ _ _ _ => (pe_op (op_catAK (K := K)) (pe_tup (pa_cons pe_int (pa_cons pe_int pa_nil))) (pe_slice (sl_tupAK (K := K)) (pv 4) (po_some pe_int) po_none))))
      (pss_cons (ps_if (pt_cmpR op_le (pe_callB call_lenN (by rfl) T.blen PySem.boot_len (pa_cons (pe_callF g_law_net hr (pa_cons (pv 3) (pa_cons (pv 1) (pa_cons (pv 2) pa_nil)))) pa_nil)) (pv 2) (nomark _)) (pss_one (ps_ret (pv 3))) pss_nil)
      (pss_one (ps_ret (pe_lc (own := [("_law_terms_here", 4)]) (g := gName 4) rfl sc_law_tame.nd (pi_list (pv 3)) (blkOk_by (own := [("_law_terms_here", 4)]) (N := N_law_tame) (sc := defScope st_law_tame) (by decide +kernel)) (fun _ _ _ _ _ => (pg_name (i := 4) sc_law_tame.nd rfl (Or.inl rfl))) (fun _ _ _ _ _ => pts_nil) (fun _ _ _ _ _ => (pe_op (op_catAK (K := K)) (pe_op (op_catAK (K := K)) (pe_slice (sl_tupAK (K := K)) (pv 4) po_none (po_some pe_int)) (pe_tup (pa_cons pe_int pa_nil))) (pe_slice (sl_tupAK (K := K)) (pv 4) (po_some pe_int) po_none))))))))), ?_⟩
  refine ⟨_, rfl, _, rfl, _, rfl, B, rv, bv, row, lo, hi, rfl, sB, hrow, l1, rok, hband, bok, fun d o kvs B1 H1 X1 _ _ nd pk => ⟨d, o, kvs, rfl, nd, _, rfl, _, 60, rfl, rfl, _, rfl, iteP (fun hle => ?_) fun _ => ?_⟩⟩
  · exact ⟨_, rfl, q rv row B1 H1 X1 (mono_R.up X1.gh hrow) rfl rok (net_few pk hle)⟩
  -- yearly
  obtain ⟨ra, tvs, rfl, hra, ptv⟩ := hrow
  have lt : tvs.length = row.length := Paired.length ptv
  refine ⟨_, rfl, ra, rfl, ⟨_, SqL.to X1.in_ (X1.gh _ _ hra)⟩, fun D nD => lc_new walk_L (row.map yearly) IsTm mono_Tm X1.in_ nD (by rw [List.length_map, lt]) (by rw [sizeLine_eq]; omega) (fun H2 s2 => SqL.to (X1.in_.trans s2) (X1.gh _ _ hra)) ?_ ?_⟩
  · rintro i x z B2 H2 H3 Qn Qs hz X ⟨rfl, hx⟩ hq
    obtain ⟨t, ht, rfl⟩ := map_get hz
    obtain ⟨c, hc, pt⟩ := paired_get ptv ht
    cases hx.symm.trans hc
    obtain ⟨a, rfl, ha⟩ := pt
    have ha2 := (X1.gh.trans X.gh) _ _ ha
    refine ⟨rfl, yesT ⟨by show 2 ≤ sizeLine; decide, fun p np => ?_⟩⟩
    obtain ⟨B3, Y3, e3⟩ := ext_upd (o := .tup [.int 1, .int 1]) X.in_ np
    refine ⟨_, rfl, 2, rfl, a, tmV t, rfl, SqT.to Y3.in_ (Y3.gh _ _ ha2), fun z => absurd (show (2 : Nat) = 0 from z.1) (by decide), fun _ p4 np4 => ?_⟩
    obtain ⟨B4, Y4, e4⟩ := ext_upd (o := .tup [.int t.rate, optV t.low, optV t.top, .int t.keep, .int t.plus]) Y3.in_ np4
    refine ⟨p, p4, _, _, rfl, rfl, SqT.to Y4.in_ (Y4.gh _ _ e3), SqT.to Y4.in_ e4, by show 2 + 5 ≤ sizeLine; decide, (fun z => by cases z), (fun _ z => by cases z), fun _ _ p5 np5 => ?_⟩
    obtain ⟨B5, Y5, e5⟩ := ext_upd (o := .tup (tmV (yearly t))) Y4.in_ np5
    exact hq _ B5 _ (Y3.trans (Y4.trans Y5)) ⟨p5, rfl, e5⟩
  rintro B2 H2 X2 hy
  have X12 := X1.trans X2
  have yok : RowOk (row.map yearly) := fun t ht => by
    obtain ⟨u, hu, rfl⟩ := List.mem_map.mp ht
    exact yearly_ok (rok u hu)
  have ylen : (row.map yearly).length = row.length := List.length_map _
  refine ⟨_, rfl, _, rfl, _, rfl, B2, _, bv, row.map yearly, lo, hi, rfl, X2.in_, hy, by rw [ylen]; exact l1, yok, mono_Band.up X12.gh hband, bok, fun d3 o3 kvs3 B3 H3 X3 _ _ nd3 pk3 => ⟨d3, o3, kvs3, rfl, nd3, _, rfl, _, 60, rfl, rfl, _, rfl, iteP (fun hle => ?_) fun _ => ?_⟩⟩
  · exact ⟨_, rfl, q _ (row.map yearly) B3 H3 (X12.trans X3) (mono_R.up X3.gh hy) ylen yok (net_few pk3 hle)⟩
  -- nothing kept
  obtain ⟨ya, yvs, ey, hya, pyv⟩ := hy
  cases ey
  have ly : yvs.length = row.length := (Paired.length pyv).trans ylen
  refine ⟨_, rfl, D, rfl, ⟨_, SqL.to X3.in_ (X3.gh _ _ hya)⟩, fun D4 nD4 => lc_new walk_L (row.map fun t => unkept (yearly t)) IsTm mono_Tm X3.in_ nD4 (by rw [List.length_map, ly]) (by rw [sizeLine_eq]; omega) (fun H4 s4 => SqL.to (X3.in_.trans s4) (X3.gh _ _ hya)) ?_ ?_⟩
  · rintro i x z B4 H4 H5 Qn Qs hz X ⟨rfl, hx⟩ hq
    obtain ⟨t, ht, rfl⟩ := map_get hz
    have hty : (row.map yearly)[i]? = some (yearly t) := by rw [List.getElem?_map, ht]; rfl
    obtain ⟨c, hc, pt⟩ := paired_get pyv hty
    cases hx.symm.trans hc
    obtain ⟨a, rfl, ha⟩ := pt
    have ha2 := (X3.gh.trans X.gh) _ _ ha
    refine ⟨rfl, yesT ⟨_, rfl, 5, rfl, a, tmV (yearly t), rfl, SqT.to X.in_ ha2, fun z => absurd (show (5 : Nat) = 7 from z.2) (by decide), fun _ p1 np1 => ?_⟩⟩
    obtain ⟨C1, Y1, e1⟩ := ext_upd (o := .tup [.int 1, .int 1, .int t.rate, optV t.low, optV t.top]) X.in_ np1
    refine ⟨by show 1 ≤ sizeLine; decide, fun p2 np2 => ?_⟩
    obtain ⟨C2, Y2, e2⟩ := ext_upd (o := .tup [.int 0]) Y1.in_ np2
    refine ⟨p1, p2, _, _, rfl, rfl, SqT.to Y2.in_ (Y2.gh _ _ e1), SqT.to Y2.in_ e2, by show 5 + 1 ≤ sizeLine; decide, (fun z => by cases z), (fun _ z => by cases z), fun _ _ p3 np3 => ?_⟩
    obtain ⟨C3, Y3, e3⟩ := ext_upd (o := .tup [.int 1, .int 1, .int t.rate, optV t.low, optV t.top, .int 0]) Y2.in_ np3
    refine ⟨_, rfl, 6, rfl, a, tmV (yearly t), rfl, SqT.to Y3.in_ ((Y1.gh.trans (Y2.gh.trans Y3.gh)) _ _ ha2), fun z => absurd (show (6 : Nat) = 0 from z.1) (by decide), fun _ p4 np4 => ?_⟩
    obtain ⟨C4, Y4, e4⟩ := ext_upd (o := .tup [.int t.plus]) Y3.in_ np4
    refine ⟨p3, p4, _, _, rfl, rfl, SqT.to Y4.in_ (Y4.gh _ _ e3), SqT.to Y4.in_ e4, by show 6 + 1 ≤ sizeLine; decide, (fun z => by cases z), (fun _ z => by cases z), fun _ _ p5 np5 => ?_⟩
    obtain ⟨C5, Y5, e5⟩ := ext_upd (o := .tup (tmV (unkept (yearly t)))) Y4.in_ np5
    exact hq _ C5 _ (Y1.trans (Y2.trans (Y3.trans (Y4.trans Y5)))) ⟨p5, rfl, e5⟩
  rintro B4 H4 X4 hu
  refine q _ (row.map fun t => unkept (yearly t)) B4 H4 (X12.trans (X3.trans X4)) hu (List.length_map _) (fun t ht => ?_) (few_still row lo hi (by decide))
  obtain ⟨u, hu, rfl⟩ := List.mem_map.mp ht
  exact unkept_ok (yearly_ok (rok u hu))
end
end PB

/-! the law's drawn bundles -/
namespace PB
open PySem PySem.Spec PyProof.Rows L2
theorem and_join {c : Bool} {u : TT} {σ : L2.St} {H : Hp} {Qb : Bool → Hp → Prop} (r : Bool) (h1 : c = true → ∀ Qb' : Bool → Hp → Prop, Qb' r H → u σ H Qb') (h2 : c = false → r = false) (k : Qb r H) : if c = true then u σ H Qb else Qb false H := by
  cases c with
  | true => exact iteT (h1 rfl Qb k)
  | false => exact iteF (h2 rfl ▸ k)
theorem paired_last {α β : Type} {F : α → β → Prop} {xs : List α} {ys : List β} (h : Paired F xs ys) : ys ≠ [] → ∃ xs' x y, xs = xs' ++ [x] ∧ y ∈ ys ∧ F x y := by
  induction h with
  | nil => intro z; exact absurd rfl z
  | @cons a b l1 l2 h t ih =>
    intro _
    by_cases z : l2 = []
    · subst z
      cases t
      exact ⟨[], a, b, rfl, by simp, h⟩
    · obtain ⟨xs', x, y, e, hy, hf⟩ := ih z
      exact ⟨a :: xs', x, y, by rw [e]; rfl, by simp [hy], hf⟩
theorem cut_take (xs : List V) (k : Nat) : cutV xs none (some (k : Int)) = xs.take k := by
  unfold cutV
  rw [HT.sIx_nat, HT.sIx_none, List.drop_zero, Nat.sub_zero, List.take_eq_take_iff]
  omega
theorem cut_drop (xs : List V) (k : Nat) : cutV xs (some (k : Int)) none = xs.drop k := by
  unfold cutV
  rw [HT.sIx_nat, HT.sIx_none]
  rw [List.take_of_length_le (by rw [List.length_drop]; omega)]
  by_cases h : k ≤ xs.length
  · rw [Nat.min_eq_left h]
  · rw [Nat.min_eq_right (by omega), List.drop_length, List.drop_of_length_le (by omega)]
def SideOk (r : List Tm) : Prop := 1 ≤ r.length ∧ r.length ≤ 3 ∧ RowOk r
theorem pick_row {B : Hp} {vs : List V} {zs : List Tm} (h : Paired (fun v (_ : Tm) => ∃ t', IsTm B v t' ∧ t'.Ok) vs zs) : ∃ r2, Paired (IsTm B) vs r2 ∧ r2.length = zs.length ∧ RowOk r2 := by
  induction h with
  | nil => exact ⟨[], .nil, rfl, fun t ht => by simp at ht⟩
  | cons h t ih =>
    obtain ⟨t', h1, h2⟩ := h
    obtain ⟨r2, p, l, ok⟩ := ih
    refine ⟨t' :: r2, .cons h1 p, by simp [l], fun x hx => ?_⟩
    rcases List.mem_cons.mp hx with rfl | hx
    · exact h2
    · exact ok x hx
section
variable {P : Program} {w : World} {K : PySem.W.Frag} {mg : PySem.Str → Option Value} {base : Heap} {C W R : Addr}
abbrev spSides : Sp := spDrawn (IsP IsR IsR) fun x => SideOk x.1 ∧ SideOk x.2
abbrev N_law_sides : List PySem.Str := ["_law_jar_here", "_law_left", "_law_turn", "_law_pick", "_law_right_here", "_law_terms_here"]
theorem sc_law_sides : FnScope N_law_sides ["_law_jar_here"] (defScope st_law_sides) := ⟨rfl, rfl, rfl, by decide +kernel, rfl, by decide +kernel, by decide +kernel⟩
theorem b_law_sides (T : Txt K mg C W R) (g_law_draw : Fn P w K mg base 1 "_law_draw" ["_law_jar_here", "_law_many"] spDraw) (g_law_terms : Fn P w K mg base 3 "_law_terms" ["_law_jar_here"] (spDrawn IsTm Tm.Ok))
    (g_law_near : Fn P w K mg base 4 "_law_near" ["_law_jar_here", "_law_terms_here"] spNear) : Body P w K mg base N_law_sides "_law_sides" st_law_sides 4 spSides := by
  intro f cdv A outer s H vs Q E hr h
  obtain ⟨B, a, rfl, sB, nB, jr, q⟩ := h
  refine ⟨_, (pss_cons (ps_set (i := 1) sc_law_sides.nd rfl (Or.inl rfl) (pe_lst (pa_cons (pe_callF g_law_terms hr (pa_cons (pv 0) pa_nil)) pa_nil)))
      (pss_cons (ps_for PassesOwn.never rfl (pi_range1 (by rfl) T.brange (pa_cons (pe_callF g_law_draw hr (pa_cons (pv 0) (pa_cons pe_int pa_nil))) pa_nil)) (pg_name (i := 2) sc_law_sides.nd rfl (Or.inl rfl))
      (pss_one (ps_set (i := 1) sc_law_sides.nd rfl (Or.inl rfl) (pe_op op_cat (pv 1) (pe_lst (pa_cons (pe_callF g_law_near hr (pa_cons (pv 0) (pa_cons (pe_ix ix_list (pv 1) (pe_un un_neg pe_int) (fun _ _ => rfl)) pa_nil))) pa_nil))))))
      (pss_cons (ps_set (i := 3) sc_law_sides.nd rfl (Or.inl rfl) (pe_callF g_law_draw hr (pa_cons (pv 0) (pa_cons pe_int pa_nil))))
      (pss_cons (ps_if (pt_cmpR op_eq (pv 3) pe_int (nomark _)) (pss_one (ps_ret (pe_tup (pa_cons (pv 1) (pa_cons (pe_revL (pv 1)) pa_nil))))) pss_nil)
      (pss_cons (ps_if (PW.pt (pw_and (pt_cmpR op_eq (pv 3) pe_int (nomark _)) (pw_and1 (pt_cmpR op_lt (pe_callB call_len_seq (by rfl) T.blen PySem.boot_len (pa_cons (pv 1) pa_nil)) pe_int (nomark _))))) (pss_one (ps_ret (pe_tup (pa_cons (pv 1) (pa_cons (pe_op op_cat (pe_lst (pa_cons (pe_tup (pa_cons pe_int (pa_cons pe_int (pa_cons pe_int (pa_cons pe_non (pa_cons pe_non (pa_cons pe_int (pa_cons pe_int pa_nil)))))))) pa_nil)) (pv 1)) pa_nil))))) pss_nil)
      (pss_cons (ps_setLc (i := 4) (own := [("_law_terms_here", 5)]) (g := gName 5) rfl sc_law_sides.nd rfl rfl (sw_true rfl rfl rfl (by decide +kernel)) (pi_list (pv 1)) (blkOk_by (own := [("_law_terms_here", 5)]) (N := N_law_sides) (sc := defScope st_law_sides) (by decide +kernel)) (fun _ _ _ _ _ => (pg_name (i := 5) sc_law_sides.nd rfl (Or.inl rfl))) (fun _ _ _ _ _ => pts_nil) (fun _ _ _ _ _ => (pe_callF g_law_near hr (pa_cons (pv 0) (pa_cons (pv 5) pa_nil)))))
      (pss_cons (ps_if (pt_cmpR op_eq (pv 3) pe_int (nomark _)) (pss_one (ps_ret (pe_tup (pa_cons (pv 1) (pa_cons (pe_slice sl_list (pv 4) po_none (po_some pe_int)) pa_nil))))) pss_nil)
      (pss_cons (ps_if (PW.pt (pw_and (pt_cmpR op_eq (pv 3) pe_int (nomark _)) (pw_and1 (pt_cmpR op_lt (pe_callB call_len_seq (by rfl) T.blen PySem.boot_len (pa_cons (pv 4) pa_nil)) pe_int (nomark _))))) (pss_one (ps_ret (pe_tup (pa_cons (pv 1) (pa_cons (pe_op op_cat (pv 4) (pe_lst (pa_cons (pe_callF g_law_near hr (pa_cons (pv 0) (pa_cons (pe_ix ix_list (pv 1) pe_int (fun _ _ => rfl)) pa_nil))) pa_nil))) pa_nil))))) pss_nil)
      (pss_one (ps_ret (pe_tup (pa_cons (pv 1) (pa_cons (pv 4) pa_nil))))))))))))), ?_⟩
  refine ⟨_, rfl, B, a, rfl, sB, nB, jr, fun v t B1 H1 ok1 rt1 j1 X1 => ⟨by show 1 ≤ sizeLine; decide, fun l nl => ?_⟩⟩
  obtain ⟨B2, Y2, e2⟩ := ext_upd (o := .lst [v]) X1.in_ nl
  have X2 := X1.also Y2
  refine ⟨_, rfl, B2, a, 3, rfl, X2.in_, X2.stay jr nB, j1.new nl, by decide, by decide, fun d H3 p3 u3 j3 X3 => ⟨d, rfl, by omega, by omega, ?_⟩⟩
  refine for_range (lo := 0) (n := d.toNat) (fun i σ H' => ∃ (B' : Hp) (l : Addr) (r : List Tm) (y2 : Option V), σ = [some (.ref a), some (.ref l), y2, none, none, none] ∧ Ext (some a) B H B' H' ∧ Jar H' a ∧ IsR B' (.ref l) r ∧ r.length = i + 1 ∧ RowOk r)
    ⟨B2, l, [t], none, rfl, X2.trans X3, j3, ⟨l, _, rfl, e2, paired_one (mono_Tm.up Y2.gh rt1)⟩, rfl, fun x hx => by rw [List.mem_singleton.mp hx]; exact ok1⟩ ?_ ?_
  · rintro i σ H4 hi ⟨B4, l4, r, y2, rfl, X4, j4, ⟨l', vs, el, hl4, pl4⟩, lr, rok⟩
    cases el
    have hne : r ≠ [] := fun z => by rw [z] at lr; simp at lr
    obtain ⟨vs', x, tx, evs, hm, ptx⟩ := paired_last pl4 hne
    have lvs : vs.length = i + 1 := (Paired.length pl4).trans lr
    refine ⟨_, rfl, _, rfl, _, rfl, _, rfl, l4, vs, -1, x, rfl, rfl, SqL.to X4.in_ hl4, by rw [evs]; exact atI_last _ _, ?_⟩
    refine ⟨B4, a, x, tx, rfl, X4.in_, X4.stay jr nB, j4, ptx, rok tx hm, fun v t' B5 H5 ok5 rt5 j5 X5 => ⟨by show 1 ≤ sizeLine; decide, fun m nm => ?_⟩⟩
    obtain ⟨B6, Y6, e6⟩ := ext_upd (o := .lst [v]) X5.in_ nm
    have X46 := X4.trans (X5.also Y6)
    refine ⟨l4, m, _, _, rfl, rfl, X46.in_ _ _ ((X5.gh.trans Y6.gh) _ _ hl4), X46.in_ _ _ e6, by rw [sizeLine_eq, lvs]; simp; omega, fun p np => ?_⟩
    obtain ⟨B7, Y7, e7⟩ := ext_upd (o := .lst (vs ++ [v])) X46.in_ np
    refine ⟨B7, p, r ++ [t'], _, rfl, X46.also Y7, (j5.new nm).new np, ⟨p, _, rfl, e7, paired_app (mono_Tm.p (X5.gh.trans (Y6.gh.trans Y7.gh)) pl4) (paired_one (mono_Tm.up (Y6.gh.trans Y7.gh) rt5))⟩, by rw [List.length_append, lr]; rfl, fun y hy => ?_⟩
    rcases List.mem_append.mp hy with h | h
    · exact rok y h
    · rw [List.mem_singleton.mp h]; exact ok5
  rintro σ H4 ⟨B4, l4, r, y2, rfl, X4, j4, hR4, lr, rok⟩
  have hR4' := hR4
  obtain ⟨l', vs, el, hl4, pl4⟩ := hR4'
  cases el
  have lvs : vs.length = r.length := Paired.length pl4
  have sok : SideOk r := ⟨by omega, by omega, rok⟩
  refine ⟨_, rfl, B4, a, 6, rfl, X4.in_, X4.stay jr nB, j4, by decide, by decide, fun pk H5 p5 u5 j5 X5 => ?_⟩
  have X45 := X4.trans X5
  refine ⟨_, rfl, rfl, _, rfl, iteI (fun h0 => ?_) fun h0 => ?_⟩
  · refine ⟨_, rfl, _, rfl, l4, vs, rfl, SqL.to X5.in_ hl4, fun p np => ⟨by show 2 ≤ sizeLine; decide, fun t nt => ?_⟩⟩
    obtain ⟨B6, Y6, e6⟩ := ext_upd (o := .lst vs.reverse) X5.in_ np
    obtain ⟨B7, Y7, e7⟩ := ext_upd (o := .tup [.ref l4, .ref p]) Y6.in_ nt
    refine q _ (r, r.reverse) B7 _ ⟨sok, by rw [List.length_reverse]; exact sok.1, by rw [List.length_reverse]; exact sok.2.1, fun x hx => rok x (List.mem_reverse.mp hx)⟩ ⟨t, _, _, rfl, e7, mono_R.up (Y6.gh.trans Y7.gh) hR4, ⟨p, _, rfl, Y7.gh _ _ e6, paired_rev (mono_Tm.p (Y6.gh.trans Y7.gh) pl4)⟩⟩ ((j5.new np).new nt) ((X45.also Y6).also Y7)
  refine ⟨_, rfl, rfl, _, rfl, and_join (decide (pk = 1 ∧ r.length < 3)) (fun hc Qb k => ?_) (fun hc => ?_) (iteP (fun h1 => ?_) fun h1 => ?_)⟩
  · refine ⟨_, rfl, l4, vs, rfl, .inl (SqL.to X5.in_ hl4), _, _, rfl, rfl, _, rfl, ?_⟩
    have e1 : pk = 1 := V.int.inj (of_decide_eq_true hc)
    have e : decide (((vs.length : Nat) : Int) < 3) = decide (pk = 1 ∧ r.length < 3) := by
      rw [lvs]
      simp only [e1, true_and, decide_eq_decide]
      omega
    rw [e]
    exact k
  · have e1 : pk ≠ 1 := fun z => by rw [z] at hc; simp at hc
    simp [e1]
  · have zt : (7 : Nat) ≤ sizeLine := by decide
    refine ⟨_, rfl, zt, fun t0 nt0 => ⟨by show 1 ≤ sizeLine; decide, fun m nm => ?_⟩⟩
    obtain ⟨B6, Y6, e6⟩ := ext_upd (o := .tup (tmV ⟨2, 1, 0, none, none, 0, 0⟩)) X5.in_ nt0
    obtain ⟨B7, Y7, e7⟩ := ext_upd (o := .lst [.ref t0]) Y6.in_ nm
    refine ⟨_, rfl, m, l4, _, _, rfl, rfl, Y7.in_ _ _ e7, Y7.in_ _ _ ((Y6.gh.trans Y7.gh) _ _ hl4), by rw [sizeLine_eq, lvs]; simp; omega, fun p np => ?_⟩
    obtain ⟨B8, Y8, e8⟩ := ext_upd (o := .lst ([.ref t0] ++ vs)) Y7.in_ np
    refine ⟨by show 2 ≤ sizeLine; decide, fun t nt => ?_⟩
    obtain ⟨B9, Y9, e9⟩ := ext_upd (o := .tup [.ref l4, .ref p]) Y8.in_ nt
    have ok0 : Tm.Ok ⟨2, 1, 0, none, none, 0, 0⟩ := ⟨⟨by decide, by decide⟩, ⟨by decide, by decide⟩, ⟨by decide, by decide⟩, (fun x z => nomatch z), (fun x z => nomatch z), ⟨by decide, by decide⟩, fun _ => rfl, ⟨by decide, by decide⟩⟩
    refine q _ (r, ⟨2, 1, 0, none, none, 0, 0⟩ :: r) B9 _ ⟨sok, by simp, by simp; omega, fun x hx => ?_⟩ ⟨t, _, _, rfl, e9, mono_R.up (Y6.gh.trans (Y7.gh.trans (Y8.gh.trans Y9.gh))) hR4, ⟨p, _, rfl, Y9.gh _ _ e8, .cons ⟨t0, rfl, (Y7.gh.trans (Y8.gh.trans Y9.gh)) _ _ e6⟩ (mono_Tm.p (Y6.gh.trans (Y7.gh.trans (Y8.gh.trans Y9.gh))) pl4)⟩⟩
      ((((j5.new nt0).new nm).new np).new nt) ((((X45.also Y6).also Y7).also Y8).also Y9)
    rcases List.mem_cons.mp hx with h | h
    · rw [h]; exact ok0
    · exact rok x h
  -- right
  refine ⟨_, rfl, l4, rfl, ⟨_, SqL.to X5.in_ hl4⟩, fun D nD => ?_⟩
  have aD : a ≠ D := fun z => by rw [← z] at nD; exact j5.some nD
  refine lc_map walk_L (some a) r (fun B v (_ : Tm) => ∃ t', IsTm B v t' ∧ t'.Ok) ⟨fun s ⟨t', h1, h2⟩ => ⟨t', mono_Tm.up s h1, h2⟩⟩ (fun H => Jar H a) j5 (fun H o ⟨g, x, c, e, z⟩ => ⟨g, x, c, by rw [upd_ne aD]; exact e, z⟩) X5.in_ nD (fun z => aD (Option.some.inj z)) lvs.symm (by rw [sizeLine_eq]; omega)
    (fun H6 k6 => .inl (.inl (k6 _ _ (fun z => by cases z; have := X4.stay jr nB; rw [hl4] at this; cases this) (X5.in_ _ _ hl4)))) ?_ ?_
  · rintro i x z B6 H6 H7 Qn Qs hz X iH ⟨rfl, hx⟩ hq
    obtain ⟨c, hc, pt⟩ := paired_get pl4 hz
    cases hx.symm.trans hc
    exact ⟨rfl, yesT ⟨_, rfl, _, rfl, B6, a, x, z, rfl, X.in_, X.fr a j5.some (X4.stay jr nB), iH, mono_Tm.up X.gh pt, rok z (List.mem_of_getElem? hz), fun v t' B7 H8 ok7 rt7 j7 X7 => hq v B7 H8 X7 j7 ⟨t', rt7, ok7⟩⟩⟩
  rintro vs2 B6 H6 X6 nD6 j6 eD pv
  obtain ⟨B7, X7, e7, sm7, ne7⟩ := X6.fix (fun z => aD (Option.some.inj z)) nD nD6 eD
  obtain ⟨r2, pr2, lr2, ok2⟩ := pick_row pv
  have pr7 := mono_Tm.p sm7 pr2
  have X57 := X45.trans X7
  have lv2 : vs2.length = r2.length := Paired.length pr2
  have sok2 : SideOk r2 := ⟨by omega, by omega, ok2⟩
  have a7 : B7 a = none := X57.stay jr nB
  refine ⟨_, rfl, rfl, _, rfl, iteI (fun h2 => ?_) fun h2 => ?_⟩
  · refine ⟨_, rfl, _, rfl, 2, rfl, D, vs2, rfl, SqL.to X7.in_ e7, fun p np => ⟨by show 2 ≤ sizeLine; decide, fun t nt => ?_⟩⟩
    obtain ⟨B8, Y8, e8⟩ := ext_upd (o := .lst (cutV vs2 none (some 2))) X7.in_ np
    obtain ⟨B9, Y9, e9⟩ := ext_upd (o := .tup [.ref l4, .ref p]) Y8.in_ nt
    rw [show (2 : Int) = ((2 : Nat) : Int) from rfl, cut_take] at e8
    refine q _ (r, r2.take 2) B9 _ ⟨sok, by rw [List.length_take]; omega, by rw [List.length_take]; omega, fun x hx => ok2 x (List.mem_of_mem_take hx)⟩ ⟨t, _, _, rfl, e9, mono_R.up (X7.gh.trans (Y8.gh.trans Y9.gh)) hR4, ⟨p, _, rfl, Y9.gh _ _ e8, paired_take (mono_Tm.p (Y8.gh.trans Y9.gh) pr7) 2⟩⟩ ((j6.new np).new nt) ((X57.also Y8).also Y9)
  refine ⟨_, rfl, rfl, _, rfl, and_join (decide (pk = 3 ∧ r2.length < 3)) (fun hc Qb k => ?_) (fun hc => ?_) (iteP (fun h3 => ?_) fun h3 => ?_)⟩
  · refine ⟨_, rfl, D, vs2, rfl, .inl (SqL.to X7.in_ e7), _, _, rfl, rfl, _, rfl, ?_⟩
    have e1 : pk = 3 := V.int.inj (of_decide_eq_true hc)
    have e : decide (((vs2.length : Nat) : Int) < 3) = decide (pk = 3 ∧ r2.length < 3) := by
      rw [lv2]
      simp only [e1, true_and, decide_eq_decide]
      omega
    rw [e]
    exact k
  · have e1 : pk ≠ 3 := fun z => by rw [z] at hc; simp at hc
    simp [e1]
  · obtain ⟨v0, hv0⟩ : ∃ v0, vs[0]? = some v0 := ⟨_, List.getElem?_eq_getElem (by omega)⟩
    obtain ⟨t0, ht0, pt0⟩ := paired_getL pl4 hv0
    refine ⟨_, rfl, _, rfl, _, rfl, _, rfl, l4, vs, 0, v0, rfl, rfl, SqL.to X7.in_ (X7.gh _ _ hl4), atI_nat (j := 0) hv0, ?_⟩
    refine ⟨B7, a, v0, t0, rfl, X7.in_, a7, j6, mono_Tm.up X7.gh pt0, rok t0 (List.mem_of_getElem? ht0), fun v t' B8 H8 ok8 rt8 j8 X8 => ⟨by show 1 ≤ sizeLine; decide, fun m nm => ?_⟩⟩
    obtain ⟨B9, Y9, e9⟩ := ext_upd (o := .lst [v]) X8.in_ nm
    refine ⟨D, m, _, _, rfl, rfl, Y9.in_ _ _ ((X8.gh.trans Y9.gh) _ _ e7), Y9.in_ _ _ e9, by rw [sizeLine_eq, lv2]; simp; omega, fun p np => ⟨by show 2 ≤ sizeLine; decide, fun t nt => ?_⟩⟩
    obtain ⟨B10, Y10, e10⟩ := ext_upd (o := .lst (vs2 ++ [v])) Y9.in_ np
    obtain ⟨B11, Y11, e11⟩ := ext_upd (o := .tup [.ref l4, .ref p]) Y10.in_ nt
    refine q _ (r, r2 ++ [t']) B11 _ ⟨sok, by simp, by simp; omega, fun x hx => ?_⟩ ⟨t, _, _, rfl, e11, mono_R.up (X7.gh.trans (X8.gh.trans (Y9.gh.trans (Y10.gh.trans Y11.gh)))) hR4, ⟨p, _, rfl, Y11.gh _ _ e10, paired_app (mono_Tm.p (X8.gh.trans (Y9.gh.trans (Y10.gh.trans Y11.gh))) pr7) (paired_one (mono_Tm.up (Y9.gh.trans (Y10.gh.trans Y11.gh)) rt8))⟩⟩
      (((j8.new nm).new np).new nt) ((((X57.trans X8).also Y9).also Y10).also Y11)
    rcases List.mem_append.mp hx with h | h
    · exact ok2 x h
    · rw [List.mem_singleton.mp h]; exact ok8
  · refine ⟨_, rfl, _, rfl, by show 2 ≤ sizeLine; decide, fun t nt => ?_⟩
    obtain ⟨B8, Y8, e8⟩ := ext_upd (o := .tup [.ref l4, .ref D]) X7.in_ nt
    exact q _ (r, r2) B8 _ ⟨sok, sok2⟩ ⟨t, _, _, rfl, e8, mono_R.up (X7.gh.trans Y8.gh) hR4, ⟨D, _, rfl, Y8.gh _ _ e7, mono_Tm.p Y8.gh pr7⟩⟩ (j6.new nt) (X57.also Y8)
def IsQ4 (B : Hp) (v : V) (r1 r2 : List Tm) : Prop := ∃ p x1 x2 x3 x4, v = .ref p ∧ B p = some (.tup [x1, x2, x3, x4]) ∧ IsR B x1 r1 ∧ IsR B x2 r2 ∧ IsR B x3 (r1 ++ r2) ∧ IsL IsI B x4 (sgn r1.length r2.length)
def spTameSides : Sp := fun vs H Q _ => ∃ B a bv lo hi, vs = [.ref a, bv, .int 60] ∧ Same B H ∧ B a = none ∧ Jar H a ∧ IsBand B bv (lo, hi) ∧ BandOk (lo, hi) ∧
  ∀ v r1 r2 B' H', SideOk r1 → SideOk r2 → FewR (r1 ++ r2) lo hi 60 → IsQ4 B' v r1 r2 → Jar H' a → Ext (some a) B H B' H' → Q v H'
abbrev N_law_tame_sides : List PySem.Str := ["_law_jar_here", "_law_limits_here", "_law_size", "_law_left", "_law_right_here", "_law_row", "_law_terms_here"]
theorem sc_law_tame_sides : FnScope N_law_tame_sides ["_law_jar_here", "_law_limits_here", "_law_size"] (defScope st_law_tame_sides) := ⟨rfl, rfl, rfl, by decide +kernel, rfl, by decide +kernel, by decide +kernel⟩
theorem b_law_tame_sides (T : Txt K mg C W R) (g_law_sides : Fn P w K mg base 5 "_law_sides" ["_law_jar_here"] spSides) (g_law_tame : Fn P w K mg base 4 "_law_tame" ["_law_row", "_law_limits_here", "_law_size"] spTame) : Body P w K mg base N_law_tame_sides "_law_tame_sides" st_law_tame_sides 5 spTameSides := by
  intro f cdv A outer s H vs Q E hr h
  obtain ⟨B, a, bv, lo, hi, rfl, sB, nB, jr, hb, bok, q⟩ := h
  refine ⟨_, (pss_cons (ps_asg (pe_callF g_law_sides hr (pa_cons (pv 0) pa_nil)) (pg_tup rfl (pgs_cons (pg_name (i := 3) sc_law_tame_sides.nd rfl (Or.inl rfl)) (pgs_cons (pg_name (i := 4) sc_law_tame_sides.nd rfl (Or.inl rfl)) pgs_nil))))
      (pss_cons (ps_set (i := 5) sc_law_tame_sides.nd rfl (Or.inl rfl) (pe_callF g_law_tame hr (pa_cons (pe_op op_cat (pv 3) (pv 4)) (pa_cons (pv 1) (pa_cons (pv 2) pa_nil)))))
      (pss_one (ps_ret (pe_tup (pa_cons (pe_slice sl_list (pv 5) po_none (po_some (pe_callB call_len_seq (by rfl) T.blen PySem.boot_len (pa_cons (pv 3) pa_nil)))) (pa_cons (pe_slice sl_list (pv 5) (po_some (pe_callB call_len_seq (by rfl) T.blen PySem.boot_len (pa_cons (pv 3) pa_nil))) po_none) (pa_cons (pv 5) (pa_cons (pe_op op_cat (pe_lc (own := [("_law_terms_here", 6)]) (g := gName 6) rfl sc_law_tame_sides.nd (pi_list (pv 3)) (blkOk_by (own := [("_law_terms_here", 6)]) (N := N_law_tame_sides) (sc := defScope st_law_tame_sides) (by decide +kernel)) (fun _ _ _ _ _ => (pg_name (i := 6) sc_law_tame_sides.nd rfl (Or.inl rfl))) (fun _ _ _ _ _ => pts_nil) (fun _ _ _ _ _ => pe_int)) (pe_lc (own := [("_law_terms_here", 6)]) (g := gName 6) rfl sc_law_tame_sides.nd (pi_list (pv 4)) (blkOk_by (own := [("_law_terms_here", 6)]) (N := N_law_tame_sides) (sc := defScope st_law_tame_sides) (by decide +kernel)) (fun _ _ _ _ _ => (pg_name (i := 6) sc_law_tame_sides.nd rfl (Or.inl rfl))) (fun _ _ _ _ _ => pts_nil) (fun _ _ _ _ _ => (pe_un un_neg pe_int)))) pa_nil))))))))), ?_⟩
  refine ⟨_, rfl, B, a, rfl, sB, nB, jr, fun v x B1 H1 sx ⟨p, v1, v2, ev, hp, hv1, hv2⟩ j1 X1 => ?_⟩
  obtain ⟨s1, s2⟩ := sx
  subst ev
  refine ⟨p, _, rfl, SqT.to X1.in_ hp, rfl, _, _, rfl, _, _, rfl, rfl, ?_⟩
  have h1 := hv1
  have h2 := hv2
  obtain ⟨la, lvs, rfl, hla, pl⟩ := h1
  obtain ⟨ra, rvs, rfl, hra, pr⟩ := h2
  have ll : lvs.length = x.1.length := Paired.length pl
  have lr : rvs.length = x.2.length := Paired.length pr
  refine atS [some (.ref a), some bv, some (.int 60), some (.ref la), some (.ref ra), none, none] ?_
  -- row = tame(left + right, limits, size)
  have b1 := s1.2.1
  have b2 := s2.2.1
  refine ⟨_, rfl, _, rfl, la, ra, lvs, rvs, rfl, rfl, X1.in_ _ _ hla, X1.in_ _ _ hra, by rw [sizeLine_eq]; omega, fun m nm => ?_⟩
  obtain ⟨B2, Y2, e2⟩ := ext_upd (o := .lst (lvs ++ rvs)) X1.in_ nm
  have ok12 : RowOk (x.1 ++ x.2) := fun t ht => by
    rcases List.mem_append.mp ht with h | h
    · exact s1.2.2 t h
    · exact s2.2.2 t h
  refine ⟨_, rfl, _, rfl, B2, .ref m, bv, x.1 ++ x.2, lo, hi, rfl, Y2.in_, ⟨m, _, rfl, e2, paired_app (mono_Tm.p Y2.gh pl) (mono_Tm.p Y2.gh pr)⟩, by rw [List.length_append]; omega, ok12, mono_Band.up (X1.gh.trans Y2.gh) hb, bok, fun rv row B3 H3 X3 hrow lrow rok few => ?_⟩
  have hrow' := hrow
  obtain ⟨wa, wvs, rfl, hwa, pw⟩ := hrow'
  have X13 : Ext (some a) B H B3 H3 := (X1.also Y2).also X3
  have s13 := Y2.gh.trans X3.gh
  -- row[:len(left)]
  refine ⟨_, rfl, _, rfl, la, lvs, rfl, .inl (SqL.to X3.in_ (s13 _ _ hla)), _, rfl, wa, wvs, rfl, SqL.to X3.in_ hwa, fun p4 np4 => ?_⟩
  obtain ⟨B4, Y4, e4⟩ := ext_upd (o := .lst (cutV wvs none (some (lvs.length : Int)))) X3.in_ np4
  rw [cut_take] at e4
  -- row[len(left):]
  refine ⟨_, rfl, _, rfl, la, lvs, rfl, .inl (SqL.to Y4.in_ (Y4.gh _ _ (s13 _ _ hla))), _, rfl, wa, wvs, rfl, SqL.to Y4.in_ (Y4.gh _ _ hwa), fun p5 np5 => ?_⟩
  obtain ⟨B5, Y5, e5⟩ := ext_upd (o := .lst (cutV wvs (some (lvs.length : Int)) none)) Y4.in_ np5
  rw [cut_drop] at e5
  have s35 := Y4.gh.trans Y5.gh
  have s15 := s13.trans s35
  -- signs
  refine ⟨_, rfl, _, rfl, la, rfl, ⟨_, SqL.to Y5.in_ (s15 _ _ hla)⟩, fun D nD => lc_new walk_L (List.replicate x.1.length 1) IsI mono_I Y5.in_ nD (by rw [List.length_replicate, ll]) (by rw [sizeLine_eq]; omega) (fun H6 s6 => SqL.to (Y5.in_.trans s6) (s15 _ _ hla)) ?_ ?_⟩
  · rintro i y z B6 H6 H7 Qn Qs hz X ⟨rfl, hx⟩ hq
    have ez : z = 1 := List.eq_of_mem_replicate (List.mem_of_getElem? hz)
    subst ez
    exact ⟨rfl, yesT (hq _ B6 _ (.refl X.in_) rfl)⟩
  rintro B6 H6 X6 ⟨D', gs, e, hD, pg⟩
  cases e
  refine ⟨_, rfl, ra, rfl, ⟨_, SqL.to X6.in_ (X6.gh _ _ (s15 _ _ hra))⟩, fun D2 nD2 => lc_new walk_L (List.replicate x.2.length (-1)) IsI mono_I X6.in_ nD2 (by rw [List.length_replicate, lr]) (by rw [sizeLine_eq]; omega) (fun H7 s7 => SqL.to (X6.in_.trans s7) (X6.gh _ _ (s15 _ _ hra))) ?_ ?_⟩
  · rintro i y z B7 H7 H8 Qn Qs hz X ⟨rfl, hx⟩ hq
    have ez : z = -1 := List.eq_of_mem_replicate (List.mem_of_getElem? hz)
    subst ez
    exact ⟨rfl, yesT ⟨_, rfl, hq _ B7 _ (.refl X.in_) rfl⟩⟩
  rintro B7 H7 X7 ⟨D2', gs2, e, hD2, pg2⟩
  cases e
  have lg : gs.length = x.1.length := by have := Paired.length pg; rwa [List.length_replicate] at this
  have lg2 : gs2.length = x.2.length := by have := Paired.length pg2; rwa [List.length_replicate] at this
  refine ⟨D, D2, gs, gs2, rfl, rfl, X7.in_ _ _ (X7.gh _ _ hD), X7.in_ _ _ hD2, by rw [sizeLine_eq]; omega, fun p8 np8 => ⟨by show 4 ≤ sizeLine; decide, fun p9 np9 => ?_⟩⟩
  obtain ⟨B8, Y8, e8⟩ := ext_upd (o := .lst (gs ++ gs2)) X7.in_ np8
  obtain ⟨B9, Y9, e9⟩ := ext_upd (o := .tup [.ref p4, .ref p5, .ref wa, .ref p8]) Y8.in_ np9
  have lrow' : row.length = x.1.length + x.2.length := by rw [lrow, List.length_append]
  have et : row.take lvs.length ++ row.drop lvs.length = row := List.take_append_drop _ _
  have lt1 : (row.take lvs.length).length = x.1.length := by rw [List.length_take]; omega
  have lt2 : (row.drop lvs.length).length = x.2.length := by rw [List.length_drop]; omega
  have s79 := X7.gh.trans (Y8.gh.trans Y9.gh)
  have s59 := X6.gh.trans s79
  have b1' := s1.1
  have b2' := s2.1
  have j9 : Jar H7 a := (((((j1.new nm).same X3.sm).new np4).new np5).same X6.sm).same X7.sm
  refine q _ (row.take lvs.length) (row.drop lvs.length) B9 _ ⟨by omega, by omega, fun t ht => rok t (List.mem_of_mem_take ht)⟩ ⟨by omega, by omega, fun t ht => rok t (List.mem_of_mem_drop ht)⟩ (by rw [et]; exact few) ?_ ((j9.new np8).new np9) ((((((X13.also Y4).also Y5).also X6).also X7).also Y8).also Y9)
  have pw9 := mono_Tm.p (s35.trans s59) pw
  refine ⟨p9, _, _, _, _, rfl, e9, ⟨p4, _, rfl, (Y5.gh.trans s59) _ _ e4, paired_take pw9 _⟩, ⟨p5, _, rfl, s59 _ _ e5, paired_drop pw9 _⟩, ?_, ?_⟩
  · rw [et]
    exact mono_R.up (s35.trans s59) hrow
  · rw [lt1, lt2]
    exact ⟨p8, _, rfl, Y9.gh _ _ e8, paired_app (mono_I.p s79 pg) (mono_I.p (Y8.gh.trans Y9.gh) pg2)⟩
end
end PB

/-! the law's courses and paths -/
namespace PB
open PySem PySem.Spec PyProof.Rows L2
abbrev IsC : Rel (List Int) := IsT IsI
theorem mono_C : Mono IsC := mono_T mono_I
theorem ways_le {lo hi : Int} (b : BandOk (lo, hi)) {k : Nat} (hk : k ≤ 4) : (waysN (msN lo hi) k).length ≤ 2401 := by
  have h := ways_len (msN lo hi) 7 b.len k
  have h2 : 7 ^ k ≤ 7 ^ 4 := Nat.pow_le_pow_right (by decide) hk
  have h3 : (7 : Nat) ^ 4 = 2401 := by decide
  omega
section
variable {P : Program} {w : World} {K : PySem.W.Frag} {mg : PySem.Str → Option Value} {base : Heap} {C W R : Addr}
def spWays : Sp := fun vs H Q _ => ∃ B bv lo hi, ∃ k : Nat, vs = [bv, .int (k : Int)] ∧ Same B H ∧ IsBand B bv (lo, hi) ∧ BandOk (lo, hi) ∧ k ≤ 4 ∧ ∀ v B' H', Ext none B H B' H' → IsL IsC B' v (waysN (msN lo hi) k) → Q v H'
abbrev N_law_ways : List PySem.Str := ["_law_limits_here", "_law_many", "_law_found", "_law_turn", "_law_longer", "_law_course", "_law_step"]
theorem sc_law_ways : FnScope N_law_ways ["_law_limits_here", "_law_many"] (defScope st_law_ways) := ⟨rfl, rfl, rfl, by decide +kernel, rfl, by decide +kernel, by decide +kernel⟩
theorem b_law_ways (T : Txt K mg C W R) : Body P w K mg base N_law_ways "_law_ways" st_law_ways 0 spWays := by
  intro f cdv A outer s H vs Q E hr h
  obtain ⟨B, bv, lo, hi, k, rfl, sB, ⟨ba, rfl, hba⟩, bok, hk, q⟩ := h
  have mlen := bok.len
  have bok' := bok
  obtain ⟨b1, b2, b3⟩ := bok'
  simp only at b1 b2 b3
  refine ⟨_, (pss_cons (ps_set (i := 2) sc_law_ways.nd rfl (Or.inl rfl) (pe_lst (pa_cons (pe_tup pa_nil) pa_nil)))
      (pss_cons (ps_for PassesOwn.never rfl (pi_range1 (by rfl) T.brange (pa_cons (pv 1) pa_nil)) (pg_name (i := 3) sc_law_ways.nd rfl (Or.inl rfl))
      (pss_cons (ps_set (i := 4) sc_law_ways.nd rfl (Or.inl rfl) (pe_lst pa_nil))
      (pss_cons (ps_for PassesOwn.never rfl (pi_list (pv 2)) (pg_name (i := 5) sc_law_ways.nd rfl (Or.inr rfl))
      (pss_one (ps_set (i := 4) sc_law_ways.nd rfl (Or.inl rfl) (pe_op op_cat (pv 4) (pe_lc (own := [("_law_step", 6)]) (g := gName 6) rfl sc_law_ways.nd (pi_range2 (by rfl) T.brange (pa_cons (pe_ix ix_tup (pv 0) pe_int (fun _ _ => rfl)) (pa_cons (pe_op op_add (pe_ix ix_tup (pv 0) pe_int (fun _ _ => rfl)) pe_int) pa_nil))) (blkOk_by (own := [("_law_step", 6)]) (N := N_law_ways) (sc := defScope st_law_ways) (by decide +kernel)) (fun _ _ _ _ _ => (pg_name (i := 6) sc_law_ways.nd rfl (Or.inl rfl))) (fun _ _ _ _ _ => pts_nil) (fun _ _ _ _ _ => (pe_op (op_catAK (K := K)) (pv 5) (pe_tup (pa_cons (pv 6) pa_nil)))))))))
      (pss_one (ps_set (i := 2) sc_law_ways.nd rfl (Or.inl rfl) (pv 4))))))
      (pss_one (ps_ret (pv 2))))), ?_⟩
  refine ⟨Nat.zero_le _, fun t0 nt0 => ⟨by show 1 ≤ sizeLine; decide, fun f0 nf0 => ?_⟩⟩
  obtain ⟨B1, Y1, e1⟩ := ext_upd (o := .tup []) sB nt0
  obtain ⟨B2, Y2, e2⟩ := ext_upd (o := .lst [.ref t0]) Y1.in_ nf0
  refine ⟨_, rfl, (k : Int), rfl, by omega, by omega, for_range (lo := 0) (n := (k : Int).toNat) (fun i σ H' => ∃ (B' : Hp) (fl : V) (y3 y4 y5 : Option V), σ = [some (.ref ba), some (.int (k : Int)), some fl, y3, y4, y5, none] ∧ Ext none B H B' H' ∧ IsL IsC B' fl (waysN (msN lo hi) i))
    ⟨B2, _, none, none, none, rfl, Y1.trans Y2, ⟨f0, _, rfl, e2, paired_one ⟨t0, [], rfl, Y2.gh _ _ e1, .nil⟩⟩⟩ ?_ ?_⟩
  · rintro i σ H3 hi' ⟨B3, fl, y3, y4, y5, rfl, X3, hfl⟩
    have hi4 : i + 1 ≤ 4 := by omega
    have wl := ways_le bok (k := i) (by omega)
    have wl1 := ways_le bok hi4
    refine ⟨Nat.zero_le _, fun g0 ng0 => ?_⟩
    obtain ⟨B4, Y4, e4⟩ := ext_upd (o := .lst []) X3.in_ ng0
    have hfl' := hfl
    obtain ⟨fa, fvs, rfl, hfa, pf⟩ := hfl'
    have lf : fvs.length = (waysN (msN lo hi) i).length := Paired.length pf
    refine ⟨_, rfl, fa, rfl, ⟨_, SqL.to Y4.in_ (Y4.gh _ _ hfa)⟩, for_list (K := K) (a := fa) (xs := fvs) (fun j σ H' => ∃ (B' : Hp) (gv : V) (y3 y5 : Option V), σ = [some (.ref ba), some (.int (k : Int)), some (.ref fa), y3, some gv, y5, none] ∧ Ext none B H B' H' ∧ Same B3 B' ∧
        IsL IsC B' gv (((waysN (msN lo hi) i).take j).flatMap fun c => (msN lo hi).map fun m => c ++ [m]))
      ⟨B4, _, _, _, rfl, X3.trans Y4, Y4.gh, ⟨g0, [], rfl, e4, .nil⟩⟩ (fun j σ H' _ ⟨B', _, _, _, _, X, s, _⟩ => SqL.to X.in_ (s _ _ hfa)) ?_ ?_⟩
    · rintro j x σ H5 hj ⟨B5, gv, y3, y5, rfl, X5, s35, ⟨ga, gvs, rfl, hga, pg⟩⟩
      obtain ⟨c, hc, pc⟩ := paired_getL pf hj
      obtain ⟨ca, cvs, rfl, hca, pci⟩ := mono_C.up s35 pc
      have lc : c.length = i := ((ways_mem (msN lo hi)).mp (List.mem_of_getElem? hc)).1
      have lcv : cvs.length = i := (Paired.length pci).trans lc
      have hb5 := X5.gh _ _ hba
      refine ⟨_, rfl, _, rfl, ba, _, 0, _, rfl, rfl, SqT.to X5.in_ hb5, atI_nat (j := 0) rfl, _, rfl, ba, _, 1, _, rfl, rfl, SqT.to X5.in_ hb5, atI_nat (j := 1) rfl, hi, 1, rfl, rfl, lo, hi + 1, rfl, ⟨by omega, by omega, by omega, by omega⟩, fun D nD => ?_⟩
      refine lc_new walk_R ((msN lo hi).map fun m => c ++ [m]) IsC mono_C X5.in_ nD (by rw [List.length_map, msN_len]) (by rw [sizeLine_eq]; omega) (fun _ _ => trivial) ?_ ?_
      · rintro n x z B6 H6 H7 Qn Qs hz Y ⟨rfl, rfl⟩ hq
        obtain ⟨m, hm, rfl⟩ := map_get hz
        have hn : n < (hi + 1 - lo).toNat := by have := (List.getElem?_eq_some_iff.mp hm).1; rwa [msN_len] at this
        have em : m = lo + (n : Int) := (Option.some.inj ((msN_get hn).symm.trans hm)).symm
        subst em
        have hca6 := Y.gh _ _ hca
        have pci6 := mono_I.p Y.gh pci
        refine ⟨rfl, yesT ⟨_, rfl, _, rfl, by show 1 ≤ sizeLine; decide, fun p np => ?_⟩⟩
        obtain ⟨B7, Y7, e7⟩ := ext_upd (o := .tup [.int (lo + (n : Int))]) Y.in_ np
        have p1 : Paired (IsI B7) [V.int (lo + (n : Int))] [lo + (n : Int)] := paired_one rfl
        refine ⟨ca, p, cvs, _, rfl, rfl, SqT.to Y7.in_ (Y7.gh _ _ hca6), SqT.to Y7.in_ e7, by rw [sizeLine_eq, lcv]; simp; omega, fun z => ?_, (fun _ z => by cases z), fun _ _ p8 np8 => ?_⟩
        · subst z
          have e0 : c = [] := by cases pci; rfl
          subst e0
          exact hq _ B7 _ Y7 ⟨p, _, rfl, e7, p1⟩
        · obtain ⟨B8, Y8, e8⟩ := ext_upd (o := .tup (cvs ++ [.int (lo + (n : Int))])) Y7.in_ np8
          exact hq _ B8 _ (Y7.trans Y8) ⟨p8, _, rfl, e8, paired_app (mono_I.p (Y7.gh.trans Y8.gh) pci6) (paired_one rfl)⟩
      rintro B6 H6 X6 ⟨D', ds, eD, hD, pD⟩
      cases eD
      have lg : gvs.length ≤ 2401 := by
        have h1 : gvs.length = (((waysN (msN lo hi) i).take j).flatMap fun c => (msN lo hi).map fun m => c ++ [m]).length := Paired.length pg
        have h2 : waysN (msN lo hi) (i + 1) = (((waysN (msN lo hi) i).take j).flatMap fun c => (msN lo hi).map fun m => c ++ [m]) ++ (((waysN (msN lo hi) i).drop j).flatMap fun c => (msN lo hi).map fun m => c ++ [m]) := by
          rw [← List.flatMap_append, List.take_append_drop]
          rfl
        have h3 := congrArg List.length h2
        rw [List.length_append] at h3
        omega
      have lds : ds.length ≤ 7 := by have := Paired.length pD; rw [List.length_map] at this; omega
      refine ⟨ga, D, gvs, ds, rfl, rfl, X6.in_ _ _ (X6.gh _ _ hga), X6.in_ _ _ hD, by rw [sizeLine_eq]; omega, fun p np => ?_⟩
      obtain ⟨B7, Y7, e7⟩ := ext_upd (o := .lst (gvs ++ ds)) X6.in_ np
      refine ⟨B7, .ref p, _, _, rfl, X5.trans (X6.trans Y7), s35.trans (X6.gh.trans Y7.gh), p, _, rfl, e7, ?_⟩
      rw [List.take_add_one, hc, List.flatMap_append]
      refine paired_app (mono_C.p (X6.gh.trans Y7.gh) pg) ?_
      show Paired (IsC B7) ds (((msN lo hi).map fun m => c ++ [m]) ++ [])
      rw [List.append_nil]
      exact mono_C.p Y7.gh pD
    · rintro σ H5 ⟨B5, gv, y3, y5, rfl, X5, s35, hg⟩
      rw [List.take_of_length_le (by omega)] at hg
      exact ⟨_, rfl, B5, gv, _, _, _, rfl, X5, hg⟩
  · rintro σ H3 ⟨B3, fl, y3, y4, y5, rfl, X3, hfl⟩
    rw [Int.toNat_natCast] at hfl
    exact ⟨_, rfl, q fl B3 H3 X3 hfl⟩
def zerosN (row : List Tm) : List Int := List.replicate row.length 0
def pathsN (row : List Tm) (c : List Int) (n : Nat) : List (List Int) := (List.range n).map fun k => sumsN row (begR row) (zerosN row) (c.take (k + 1))
def spPaths : Sp := fun vs H Q _ => ∃ B rv cv row c, vs = [rv, cv] ∧ Same B H ∧ IsR B rv row ∧ row.length ≤ 6 ∧ RowOk row ∧ IsC B cv c ∧ c.length ≤ 1000 ∧ ∀ v B' H', Ext none B H B' H' → IsL (IsL IsI) B' v (pathsN row c c.length) → Q v H'
abbrev N_law_paths : List PySem.Str := ["_law_row", "_law_course", "_law_stands", "_law_sums", "_law_found", "_law_step", "_law_rises", "_law_terms_here", "_law_total", "_law_rise"]
theorem sc_law_paths : FnScope N_law_paths ["_law_row", "_law_course"] (defScope st_law_paths) := ⟨rfl, rfl, rfl, by decide +kernel, rfl, by decide +kernel, by decide +kernel⟩
theorem b_law_paths (T : Txt K mg C W R) (g_law_begun : Fn P w K mg base 1 "_law_begun" ["_law_row"] spBegun9) (g_law_year : Fn P w K mg base 2 "_law_year" ["_law_row", "_law_stands", "_law_step"] spYear) : Body P w K mg base N_law_paths "_law_paths" st_law_paths 2 spPaths := by
  intro f cdv A outer s H vs Q E hr h
  obtain ⟨B, rv, cv, row, c, rfl, sB, hrow, l1, rok, ⟨ca, cvs, rfl, hca, pc⟩, lc, q⟩ := h
  cases isI_map pc
  refine ⟨_, (pss_cons (ps_par3 (i := 2) (j := 3) (l := 4) rfl sc_law_paths.nd rfl rfl rfl (by decide) (by decide) (by decide) rfl rfl rfl (pa_cons (pe_callF g_law_begun hr (pa_cons (pv 0) pa_nil)) (pa_cons (pe_lc (own := [("_law_terms_here", 7)]) (g := gName 7) rfl sc_law_paths.nd (pi_list (pv 0)) (blkOk_by (own := [("_law_terms_here", 7)]) (N := N_law_paths) (sc := defScope st_law_paths) (by decide +kernel)) (fun _ _ _ _ _ => (pg_name (i := 7) sc_law_paths.nd rfl (Or.inl rfl))) (fun _ _ _ _ _ => pts_nil) (fun _ _ _ _ _ => pe_int)) (pa_cons (pe_lst pa_nil) pa_nil))) (by rfl))
      (pss_cons (ps_for PassesOwn.never rfl (pi_tup (pv 1)) (pg_name (i := 5) sc_law_paths.nd rfl (Or.inl rfl))
      (pss_cons (ps_asg (pe_callF g_law_year hr (pa_cons (pv 0) (pa_cons (pv 2) (pa_cons (pv 5) pa_nil)))) (pg_tup rfl (pgs_cons (pg_name (i := 2) sc_law_paths.nd rfl (Or.inl rfl)) (pgs_cons (pg_name (i := 6) sc_law_paths.nd rfl (Or.inl rfl)) pgs_nil))))
      (pss_cons (ps_setLc (i := 3) (own := [("_law_total", 8), ("_law_rise", 9)]) (g := gTup K 2 (gCons (gName 8) (gCons (gName 9) gNil))) rfl sc_law_paths.nd rfl rfl (sw_true rfl rfl rfl (by decide +kernel)) (pi_zipK true true (by rfl) T.bzip (pa_cons (pv 3) (pa_cons (pv 6) pa_nil))) (blkOk_by (own := [("_law_total", 8), ("_law_rise", 9)]) (N := N_law_paths) (sc := defScope st_law_paths) (by decide +kernel)) (fun _ _ _ _ _ => (pg_tup rfl (pgs_cons (pg_name (i := 8) sc_law_paths.nd rfl (Or.inl rfl)) (pgs_cons (pg_name (i := 9) sc_law_paths.nd rfl (Or.inl rfl)) pgs_nil)))) (fun _ _ _ _ _ => pts_nil) (fun _ _ _ _ _ => (pe_op op_add (pv 8) (pv 9))))
      (pss_one (ps_expr (pe_bm PySem.F.plainAttrs_list PySem.F.slot_list_append PySem.F.type_list_append mt_append (pv 4) (pa_cons (pv 3) pa_nil)))))))
      (pss_one (ps_ret (pv 4))))), ?_⟩
  refine ⟨_, rfl, B, rv, row, rfl, sB, hrow, l1, fun v1 B1 H1 X1 hv1 => ?_⟩
  have hrow1 := mono_R.up X1.gh hrow
  have hr1 := hrow1
  obtain ⟨ra, tvs, rfl, hra, ptv⟩ := hr1
  have lt : tvs.length = row.length := Paired.length ptv
  refine ⟨_, rfl, ra, rfl, ⟨_, SqL.to X1.in_ hra⟩, fun D nD => lc_new walk_L (zerosN row) IsI mono_I X1.in_ nD (by rw [zerosN, List.length_replicate, lt]) (by rw [sizeLine_eq]; omega) (fun H2 s2 => SqL.to (X1.in_.trans s2) hra) ?_ ?_⟩
  · rintro i x z B2 H2 H3 Qn Qs hz X ⟨rfl, hx⟩ hq
    have ez : z = 0 := List.eq_of_mem_replicate (List.mem_of_getElem? hz)
    subst ez
    exact ⟨rfl, yesT (hq _ B2 _ (.refl X.in_) rfl)⟩
  rintro B2 H2 X2 hz
  refine ⟨Nat.zero_le _, fun fl nfl => ⟨_, _, _, rfl, ?_⟩⟩
  have zfl : H fl = none := (X1.trans X2).sm.free nfl
  have X12 := X1.trans X2
  have X3 := X12.trans (ext_loc (o := .lst []) X2.in_ nfl)
  refine atS [some (.ref ra), some (.ref ca), some v1, some (.ref D), some (.ref fl), none, none, none, none, none] ?_
  refine ⟨_, rfl, ca, rfl, ⟨_, SqT.to X3.in_ (X3.gh _ _ hca)⟩, for_tup (K := K) (a := ca) (xs := c.map V.int) (fun i σ H' => ∃ (B' : Hp) (sv xv : V) (fvs : List V) (y5 y6 : Option V), σ = [some (.ref ra), some (.ref ca), some sv, some xv, some (.ref fl), y5, y6, none, none, none] ∧ Ext none B H B' H' ∧ B' fl = none ∧
      IsSds B' sv (run (stepN row) (begR row) (c.take i)) ∧ IsL IsI B' xv (sumsN row (begR row) (zerosN row) (c.take i)) ∧ H' fl = some (.lst fvs) ∧ Paired (IsL IsI B') fvs (pathsN row c i))
    ⟨B2, v1, _, [], none, none, rfl, X3, X12.in_.free nfl, mono_Sds.up X2.gh hv1, hz, upd_same, .nil⟩ (fun i σ H' _ ⟨B', _, _, _, _, _, _, X, _⟩ => SqT.to X.in_ (X.gh _ _ hca)) ?_ ?_⟩
  · rintro i x σ H4 hx ⟨B4, sv, xv, fvs, y5, y6, rfl, X4, b4, hsv, hxv, hfl, pf⟩
    obtain ⟨m, hm, rfl⟩ := map_get hx
    have hil := (List.getElem?_eq_some_iff.mp hm).1
    have lrun := run_len row (c.take i) _ (begR_len row)
    refine ⟨_, rfl, _, rfl, _, rfl, B4, .ref ra, sv, row, _, m, rfl, X4.in_, mono_R.up X4.gh hrow, hsv, lrun, l1, rok, fun v B5 H5 X5 hv => ?_⟩
    obtain ⟨pa, v1', v2', rfl, hpa, hst, hri⟩ := hv
    refine ⟨pa, _, rfl, SqT.to X5.in_ hpa, rfl, _, _, rfl, _, _, rfl, rfl, ?_⟩
    refine atS [some (.ref ra), some (.ref ca), some v1', some xv, some (.ref fl), some (.int m), some v2', none, none, none] ?_
    have hxv5 := (mono_L mono_I).up X5.gh hxv
    obtain ⟨xa, xvs, rfl, hxa, pxv⟩ := hxv5
    obtain ⟨ia, ivs, rfl, hia, piv⟩ := hri
    have lzr : (zerosN row).length = row.length := List.length_replicate ..
    have lxs : xvs.length = row.length := (Paired.length pxv).trans (sumsN_len _ _ _ (begR_len row) lzr)
    have lis : ivs.length = row.length := (Paired.length piv).trans (riseN_len lrun)
    have esn : sumsN row (begR row) (zerosN row) (c.take (i + 1)) = List.zipWith (fun a b => a + b) (sumsN row (begR row) (zerosN row) (c.take i)) (riseN row (run (stepN row) (begR row) (c.take i)) m) := by
      rw [List.take_add_one, hm]
      exact sumsN_snoc row _ _ _ _
    have ern : run (stepN row) (begR row) (c.take (i + 1)) = stepN row (run (stepN row) (begR row) (c.take i)) m := by
      rw [List.take_add_one, hm]
      exact run_snoc _ _ _ _
    refine ⟨_, rfl, _, rfl, xa, ia, xvs, ivs, rfl, SqL.to X5.in_ hxa, SqL.to X5.in_ hia, fun D6 nD6 => ?_⟩
    refine lc_new (walk_zipK (k1 := true) (k2 := true) (xs := xvs) (ys := ivs) (n := row.length) (by omega) (by omega)) (sumsN row (begR row) (zerosN row) (c.take (i + 1))) IsI mono_I X5.in_ nD6 (sumsN_len _ _ _ (begR_len row) lzr) (by rw [sizeLine_eq]; omega)
      (fun H2 s2 => ⟨SqL.to (X5.in_.trans s2) hxa, SqL.to (X5.in_.trans s2) hia⟩) ?_ ?_
    · rintro n x z B6 H6 H7 Qn Qs hz X ⟨T1, x1, x2, rfl, nT, rfl, f1, f2⟩ hq
      rw [esn] at hz
      obtain ⟨g, r, hg, hr', rfl⟩ := zip_get hz
      obtain ⟨c1, hc1, pc1⟩ := paired_get pxv hg
      obtain ⟨c2, hc2, pc2⟩ := paired_get piv hr'
      cases f1.symm.trans hc1
      cases f2.symm.trans hc2
      cases pc1
      cases pc2
      have Y1 := ext_loc (o := .tup [.int g, .int r]) X.in_ nT
      exact ⟨T1, _, rfl, SqT.of upd_same, rfl, _, _, rfl, _, _, rfl, rfl, rfl, yesT ⟨_, rfl, _, rfl, g, r, rfl, rfl, hq _ B6 _ Y1 rfl⟩⟩
    rintro B6 H6 X6 hs6
    have X46 := X5.trans X6
    have hfl6 := X46.sm _ _ hfl
    have b6 : B6 fl = none := X46.fr fl (by rw [hfl]; simp) b4
    have lfv : fvs.length = i := by have := Paired.length pf; rw [pathsN, List.length_map, List.length_range] at this; exact this
    refine ⟨_, rfl, .inl ⟨rfl, _, SqL.of hfl6⟩, _, rfl, fl, fvs, _, rfl, rfl, hfl6, by rw [sizeLine_eq]; omega, ?_⟩
    refine ⟨B6, v1', .ref D6, _, _, _, rfl, (X4.trans X46).mut (.inr zfl) b6 _, b6, ?_, hs6, upd_same, ?_⟩
    · rw [ern]; exact mono_Sds.up X6.gh hst
    · rw [pathsN, List.range_succ, List.map_append]
      exact paired_app ((mono_L mono_I).p X46.gh pf) (paired_one hs6)
  · rintro σ H4 ⟨B4, sv, xv, fvs, y5, y6, rfl, X4, b4, hsv, hxv, hfl, pf⟩
    rw [List.length_map] at pf
    obtain ⟨B5, X5, e5, sm5, ne5⟩ := X4.fix (fun z => nomatch z) zfl b4 hfl
    exact ⟨_, rfl, q _ B5 H4 X5 ⟨fl, fvs, rfl, e5, (mono_L mono_I).p sm5 pf⟩⟩
end
end PB

/-! the law's nearest step -/
namespace PB
open PySem PySem.Spec PyProof.Rows L2
theorem valV_at {κ : Type} [DecidableEq κ] : ∀ {kvs : List (κ × V)} {i : Nat} {k : κ} {v : V}, (kvs.map (·.1)).Nodup → kvs[i]? = some (k, v) → valV kvs k = some v
  | [], i, k, v, _, h => by simp at h
  | p :: r, 0, k, v, _, h => by
    simp only [List.getElem?_cons_zero, Option.some.injEq] at h
    subst h
    exact valV_pos rfl
  | p :: r, i + 1, k, v, n, h => by
    rw [List.map_cons, List.nodup_cons] at n
    have h' : r[i]? = some (k, v) := by simpa using h
    have hne : ¬ p.1 = k := fun z => n.1 (by rw [z]; exact List.mem_map.mpr ⟨(k, v), List.mem_of_getElem? h', rfl⟩)
    rw [valV_neg hne]
    exact valV_at n.2 h'
theorem canLay_ints : ∀ ns : List Int, PyData.canLayAll0 (ns.map PyData.int) = true := by
  intro ns
  induction ns with
  | nil => rfl
  | cons n ns ih => rw [List.map_cons, PyData.canLayAll0, ih]; rfl
theorem shaped_ints (ns : List Int) : SeqAt.shaped (.list (ns.map PyData.int)) = true := by
  unfold SeqAt.shaped
  rw [PyData.canLay0, canLay_ints]
  have h : ∀ l : List Int, PyData.depthAll (l.map PyData.int) = 0 := by
    intro l
    induction l with
    | nil => rfl
    | cons n l ih => rw [List.map_cons, PyData.depthAll, ih]; rfl
  rw [PyData.depth, h]
  rfl
theorem eqv_empty (ns : List Int) : PyData.eqv (.list (ns.map PyData.int)) (.list []) = ns.isEmpty := by
  cases ns with
  | nil => rfl
  | cons n ns => rw [List.map_cons, PyData.eqv, PyData.eqvAll]; rfl
theorem dp_ints {K : PySem.W.Frag} {H : Hp} : ∀ ns : List Int, DpAll K H (ns.map V.int) (ns.map PyData.int)
  | [] => .nil
  | n :: ns => .cons (.int n) (dp_ints ns)
def farT (E : List (En (List Sd))) : Tab := E.map fun e => (e.1, .int ((e.2.length : Int) + 1))
theorem farT_keys (E : List (En (List Sd))) : (farT E).map (·.1) = E.map (·.1) := by
  unfold farT
  rw [List.map_map]
  rfl
theorem filter_one (g : Int → Int) (m : Int) : (Option.toList (some m)).filter (fun m => decide (g m ≠ 0)) = if g m ≠ 0 then [m] else [] := by
  show [m].filter _ = _
  by_cases h : g m = 0
  · simp [h]
  · simp [h]
theorem st_join {c : Bool} {t u : TS} {D : Ends} {σ : L2.St} {H : Hp} (S : L2.St → Hp → Prop) (h1 : c = true → ∀ D' : Ends, (∀ σ' H', S σ' H' → D'.nx σ' H') → t D' σ H) (h2 : c = false → ∀ D' : Ends, (∀ σ' H', S σ' H' → D'.nx σ' H') → u D' σ H)
    (k : ∀ σ' H', S σ' H' → D.nx σ' H') : if c = true then t D σ H else u D σ H := by
  cases c with
  | true => exact iteT (h1 rfl D k)
  | false => exact iteF (h2 rfl D k)
def TellsN (r : Option (List Int)) (H : Hp) (Q : VK) : Prop := match r with
  | none => ∀ H', Same H H' → Q .non H'
  | some c => ∀ H', Same H H' → Q (.int (c.length : Int)) H'
section
variable {P : Program} {w : World} {K : PySem.W.Frag} {mg : PySem.Str → Option Value} {base : Heap} {C W R : Addr}
def spNearest (P : Program) (w : World) : Sp := fun vs H Q _ => ∃ B d o kvs sv row signs lo hi, vs = [.ref d, sv] ∧ Same B H ∧ ND P w H d o kvs ∧ Paired (NetE row lo hi B) kvs ((rowE row lo hi 61).take 61) ∧ FewR row lo hi 60 ∧ IsL IsI B sv signs ∧ signs.length = row.length ∧ row.length ≤ 6 ∧ SgnOk signs ∧ BandOk (lo, hi) ∧
  TellsN (firstHit (msN lo hi) (gainN row signs) (rowE row lo hi 61)) H Q
abbrev N_law_nearest : List PySem.Str := ["_law_net_here", "_law_signs", "_law_far", "_law_found", "_law_stands", "_law_goal", "_law_rises"]
theorem sc_law_nearest : FnScope N_law_nearest ["_law_net_here", "_law_signs"] (defScope st_law_nearest) := ⟨rfl, rfl, rfl, by decide +kernel, rfl, by decide +kernel, by decide +kernel⟩
theorem b_law_nearest (T : Txt K mg C W R) (g_law_gap : Fn P w K mg base 1 "_law_gap" ["_law_signs", "_law_sums"] spGap) : Body P w K mg base N_law_nearest "_law_nearest" st_law_nearest 1 (spNearest P w) := by
  intro f cdv A outer s H vs Q E hr h
  obtain ⟨B, d, o, kvs, sv, row, signs, lo, hi, rfl, sB, nd, pk, few, hsv, lsg, l1, sok, bok, q⟩ := h
  have mlen := bok.len
  have hms := msN_srt lo hi
  have h60 : (rowE row lo hi 61).length ≤ 60 := few_len _ _ _ few 61
  rw [List.take_of_length_le (by omega)] at pk
  have klen : kvs.length = (rowE row lo hi 61).length := Paired.length pk
  have hkeys : kvs.map (·.1) = (rowE row lo hi 61).map (·.1) := NetE.keys pk
  have root := (binv (stepN row) (msN lo hi) (begR row) hms 61).root
  refine ⟨_, (pss_cons (ps_par (i := 2) (j := 3) rfl sc_law_nearest.nd rfl rfl (by decide) rfl rfl (pa_cons (pe_oneN hr.units (pe_ix ix_list (pe_callTy (call_listN rfl) (by rfl) T.blist (by decide +kernel) (pa_cons (pv 0) pa_nil)) pe_int (fun _ _ => rfl)) pe_int) (pa_cons (pe_lst pa_nil) pa_nil)) (by rfl))
      (pss_cons (ps_for PassesOwn.never rfl (pi_N (pv 0)) (pg_name (i := 4) sc_law_nearest.nd rfl (Or.inl rfl))
      (pss_one (ps_for PassesOwn.never rfl (pi_list (pe_ixN hr.units (pv 0) (pv 4) (fun _ _ => rfl))) (pg_tup rfl (pgs_cons (pg_name (i := 5) sc_law_nearest.nd rfl (Or.inl rfl)) (pgs_cons (pg_name (i := 6) sc_law_nearest.nd rfl (Or.inl rfl)) pgs_nil)))
      (pss_cons (ps_if (pt_cmpR (op_ninN hr.units) (pv 5) (pv 2) (by rfl)) (pss_one (ps_asg (pe_op op_add (pe_ixN hr.units (pv 2) (pv 4) (fun _ _ => rfl)) pe_int) (pg_sub (pv 2) (pv 5) (set_N hr.units)))) pss_nil)
      (pss_one (ps_if (pt_cmpR op_ne (pe_callF g_law_gap hr (pa_cons (pv 1) (pa_cons (pv 6) pa_nil))) pe_int (nomark _)) (pss_one (ps_expr (pe_bm PySem.F.plainAttrs_list PySem.F.slot_list_append PySem.F.type_list_append mt_append (pv 3) (pa_cons (pe_ixN hr.units (pv 2) (pv 4) (fun _ _ => rfl)) pa_nil)))) pss_nil))))))
      (pss_one (ps_ret (pe_ifExp (pt_cmpR (op_eqD hr.units) (pv 3) (pe_lst pa_nil) (nomark _)) pe_non (pe_callB (cr_min rfl) (by rfl) T.bmin (by decide +kernel) (pa_cons (pv 3) pa_nil))))))), ?_⟩
  -- far, found = {list(net)[0]: 1}, []
  intro p o1 np
  have X1 := ext_loc (o := .ext fun h => h.get? p = some o1) sB np
  refine ⟨_, rfl, d, o, kvs, rfl, nd.same X1.sm, fun l vs nl pvs => ?_⟩
  have X2 := ext_loc (o := .lst vs) X1.in_ nl
  have hroot : (kvs.map (·.1))[0]? = some (begR row) := by rw [hkeys, List.getElem?_map, show (rowE row lo hi 61)[0]? = some (begR row, []) from root]; rfl
  obtain ⟨v0, hv0, pv0⟩ := paired_get pvs hroot
  have s12 := X2.sm
  have zp : H p = none := np
  have bp : B p = none := sB.free np
  have pv0' : IsSds (upd (upd H p (.ext fun h => h.get? p = some o1)) l (.lst vs)) v0 (begR row) := pv0.keep fun b xs e => s12 _ _ e
  refine ⟨l, vs, 0, v0, rfl, rfl, SqL.of upd_same, atI_nat (j := 0) hv0, s12 _ _ upd_same, begR row, pv0', fun o2 H3 eH3 nd3 => ⟨Nat.zero_le _, fun f nf => ⟨_, _, rfl, ?_⟩⟩⟩
  have X3 : Ext none B H B H3 := by rw [eH3]; exact (X1.trans X2).mut (.inr zp) bp _
  clear eH3
  have X4 := X3.trans (ext_loc (o := .lst []) X3.in_ nf)
  have zf : H f = none := X3.sm.free nf
  have bf : B f = none := sB.free zf
  have nd4 : ND P w _ p o2 [(begR row, .int 1)] := nd3.same (same_new (o := .lst []) nf)
  refine ⟨_, rfl, d, o, kvs, rfl, nd.same X4.sm, for_it walk_N (fun i σ H' => ∃ of y4 y5 y6, σ = [some (.ref d), some sv, some (.ref p), some (.ref f), y4, y5, y6] ∧ Ext none B H B H' ∧ ND P w H' p of (farT (rowE row lo hi i)) ∧
      H' f = some (.lst ((foundN (msN lo hi) (gainN row signs) ((rowE row lo hi 61).take i)).map V.int)))
    ⟨o2, none, none, none, rfl, X4, nd4, upd_same⟩ (fun i σ H' _ ⟨_, _, _, _, _, X, _⟩ => nd.same X.sm) ?_ ?_⟩
  · rintro i x σ H5 H6 hi' ⟨of, y4, y5, y6, rfl, X5, nf5, hf5⟩ ⟨rfl, k, v, hkv, hxk⟩
    obtain ⟨e, he, e1, hbeh⟩ := paired_getL pk hkv
    have e1' : k = e.1 := e1
    subst e1'
    have hil := (List.getElem?_eq_some_iff.mp he).1
    have hin : i < (rowE row lo hi i).length := by
      refine Classical.byContradiction fun z => ?_
      have hle : (rowE row lo hi i).length ≤ i := by omega
      have h1 := bfs_same (stepN row) (msN lo hi) (begR row) (n := i) (k := 61) hle (by omega)
      have h2 : (rowE row lo hi 61).length = (rowE row lo hi i).length := congrArg List.length h1
      omega
    obtain ⟨new61, hpre61⟩ := bfs_prefix (stepN row) (msN lo hi) (begR row) i (61 - i)
    rw [show i + (61 - i) = 61 by omega] at hpre61
    have hei : (rowE row lo hi i)[i]? = some e := by
      have h1 : (rowE row lo hi 61)[i]? = (rowE row lo hi i ++ new61)[i]? := congrArg (fun l => l[i]?) hpre61
      rw [List.getElem?_append_left hin] at h1
      rw [← h1]
      exact he
    have hE1 : rowE row lo hi (i + 1) = (msN lo hi).foldl (add1 (stepN row) e.1 e.2) (rowE row lo hi i) := by
      show turn (stepN row) (msN lo hi) (rowE row lo hi i) i = _
      unfold turn
      rw [hei]
    have elen : e.1.length = row.length := by
      rw [(binv _ _ _ hms i).run_ e (List.mem_of_getElem? hei)]
      exact run_len row _ _ (begR_len row)
    have hpre : ∀ l : List Int, ∃ new, l.foldl (add1 (stepN row) e.1 e.2) (rowE row lo hi i) = rowE row lo hi i ++ new := fun l => foldl_add_prefix _ _ _ l _
    obtain ⟨bl, bvs, rfl, hbl, pb⟩ := hbeh
    have lbv : bvs.length = (msN lo hi).length := by have := Paired.length pb; rw [this, behN, List.length_map]
    have nd5 := nd.same X5.sm
    refine ⟨_, rfl, _, rfl, d, o, kvs, e.1, _, rfl, nd5, hxk, valV_at nd.nd hkv, bl, rfl, ⟨_, SqL.to X5.in_ hbl⟩, for_list (K := K) (a := bl) (xs := bvs) (fun k σ H' => ∃ of y5 y6, σ = [some (.ref d), some sv, some (.ref p), some (.ref f), some x, y5, y6] ∧ Ext none B H B H' ∧ Same H H' ∧ IsSds H' x e.1 ∧
        ND P w H' p of (farT (((msN lo hi).take k).foldl (add1 (stepN row) e.1 e.2) (rowE row lo hi i))) ∧
        H' f = some (.lst ((foundN (msN lo hi) (gainN row signs) ((rowE row lo hi 61).take i) ++ (((msN lo hi).take k).filter fun m => decide (gainN row signs e.1 m ≠ 0)).map fun _ => (e.2.length : Int) + 1).map V.int)))
      ⟨of, _, _, rfl, X5, X5.sm, hxk, nf5, by simpa using hf5⟩ (fun k σ H' _ ⟨_, _, _, _, X, _⟩ => SqL.to X.in_ hbl) ?_ ?_⟩
    · rintro j z σ H7 hj ⟨of7, y5, y6, rfl, X7, s7, hx7, nf7, hf7⟩
      obtain ⟨yy, hyy, pyy⟩ := paired_getL pb hj
      obtain ⟨m, hm, rfl⟩ := map_get hyy
      obtain ⟨pa, v1', v2', rfl, hpa, hgo, hri⟩ := pyy
      refine ⟨pa, _, rfl, SqT.to X7.in_ hpa, rfl, _, _, rfl, _, _, rfl, rfl, ?_⟩
      have hgo7 := mono_Sds.up X7.in_ hgo
      have hT := tab_has (farT_keys (((msN lo hi).take j).foldl (add1 (stepN row) e.1 e.2) (rowE row lo hi i))) (stepN row e.1 m)
      obtain ⟨new, hnew⟩ := hpre ((msN lo hi).take j)
      have hek : (((msN lo hi).take j).foldl (add1 (stepN row) e.1 e.2) (rowE row lo hi i))[i]? = some e := by rw [hnew, List.getElem?_append_left hin]; exact hei
      have hfe : (farT (((msN lo hi).take j).foldl (add1 (stepN row) e.1 e.2) (rowE row lo hi i)))[i]? = some (e.1, .int ((e.2.length : Int) + 1)) := by
        unfold farT
        rw [List.getElem?_map, hek]
        rfl
      have hve := valV_at nf7.nd hfe
      have eE : (if has (((msN lo hi).take j).foldl (add1 (stepN row) e.1 e.2) (rowE row lo hi i)) (stepN row e.1 m) = true then (((msN lo hi).take j).foldl (add1 (stepN row) e.1 e.2) (rowE row lo hi i)) else (((msN lo hi).take j).foldl (add1 (stepN row) e.1 e.2) (rowE row lo hi i)) ++ [(stepN row e.1 m, e.2 ++ [m])]) =
          ((msN lo hi).take (j + 1)).foldl (add1 (stepN row) e.1 e.2) (rowE row lo hi i) := by
        rw [List.take_add_one, hm, List.foldl_append]
        rfl
      have flen := fold_len (stepN row) e.1 e.2 ((msN lo hi).take j) (rowE row lo hi i)
      have tlen : ((msN lo hi).take j).length ≤ 7 := by rw [List.length_take]; omega
      have rlen := row_len (row := row) (lo := lo) (hi := hi) mlen i
      have ffl : (farT (((msN lo hi).take j).foldl (add1 (stepN row) e.1 e.2) (rowE row lo hi i))).length = (((msN lo hi).take j).foldl (add1 (stepN row) e.1 e.2) (rowE row lo hi i)).length := by unfold farT; rw [List.length_map]
      have ftl : ∀ l, (((msN lo hi).take (l)).filter fun m => decide (gainN row signs e.1 m ≠ 0)).length ≤ 7 := fun l => Nat.le_trans (List.length_filter_le _ _) (by rw [List.length_take]; omega)
      have fl1 : ∀ E' : List (En (List Sd)), (foundN (msN lo hi) (gainN row signs) E').length ≤ 7 * E'.length := by
        intro E'
        induction E' with
        | nil => exact Nat.le_refl _
        | cons a t ih =>
          show (found1 (msN lo hi) (gainN row signs) a ++ foundN (msN lo hi) (gainN row signs) t).length ≤ _
          rw [List.length_append, List.length_cons]
          have : (found1 (msN lo hi) (gainN row signs) a).length ≤ 7 := by
            unfold found1
            rw [List.length_map]
            exact Nat.le_trans (List.length_filter_le _ _) mlen
          omega
      have ft61 : ((rowE row lo hi 61).take i).length ≤ 60 := by rw [List.length_take]; omega
      refine ⟨_, rfl, _, rfl, p, of7, _, _, rfl, nf7, hgo7, _, rfl, ?_⟩
      refine st_join (fun σ' H8 => ∃ o8, σ' = [some (.ref d), some sv, some (.ref p), some (.ref f), some x, some v1', some v2'] ∧ Ext none B H B H8 ∧ IsSds H8 x e.1 ∧ ND P w H8 p o8 (farT (((msN lo hi).take (j + 1)).foldl (add1 (stepN row) e.1 e.2) (rowE row lo hi i))) ∧
          H8 f = some (.lst ((foundN (msN lo hi) (gainN row signs) ((rowE row lo hi 61).take i) ++ (((msN lo hi).take j).filter fun m => decide (gainN row signs e.1 m ≠ 0)).map fun _ => (e.2.length : Int) + 1).map V.int)))
        (fun hc D' kD => ?_) (fun hc D' kD => ?_) ?_
      · rw [if_pos rfl, hT, Bool.not_eq_true'] at hc
        rw [hc, if_neg Bool.false_ne_true] at eE
        rw [hc] at hT
        refine ⟨_, rfl, _, rfl, p, of7, _, e.1, _, rfl, nf7, hx7, hve, _, 1, rfl, rfl, _, rfl, _, rfl, p, of7, _, stepN row e.1 m, rfl, nf7, hgo7, by rw [ffl, sizeLine_eq]; omega, fun o8 H8 eH8 nd8 => ?_⟩
        have hput : putK (farT (((msN lo hi).take j).foldl (add1 (stepN row) e.1 e.2) (rowE row lo hi i))) (stepN row e.1 m) (.int ((e.2.length : Int) + 1 + 1)) = farT (((msN lo hi).take (j + 1)).foldl (add1 (stepN row) e.1 e.2) (rowE row lo hi i)) := by
          rw [← eE]
          unfold putK
          rw [valV_any, hT, if_neg Bool.false_ne_true]
          unfold farT
          rw [List.map_append]
          simp
        rw [hput] at nd8
        have hf8 : H8 f = H7 f := by
          rw [eH8, upd_ne]
          exact ne_of hf7 nf7.at_ (fun z => nomatch z)
        refine kD _ _ ⟨o8, rfl, by rw [eH8]; exact X7.mut (.inr zp) bp _, hx7.keep fun b xs e => ?_, nd8, by rw [hf8]; exact hf7⟩
        rw [eH8, upd_ne (ne_of e nf7.at_ (fun z => nomatch z))]
        exact e
      · rw [if_pos rfl, hT] at hc
        have hb : has (((msN lo hi).take j).foldl (add1 (stepN row) e.1 e.2) (rowE row lo hi i)) (stepN row e.1 m) = true := by
          cases hb : has (((msN lo hi).take j).foldl (add1 (stepN row) e.1 e.2) (rowE row lo hi i)) (stepN row e.1 m) with
          | true => rfl
          | false => rw [hb] at hc; cases hc
        rw [hb, if_pos rfl] at eE
        rw [eE] at nf7
        exact kD _ _ ⟨of7, rfl, X7, hx7, nf7, hf7⟩
      rintro σ8 H8 ⟨o8, rfl, X8, hx8, nd8, hf8⟩
      -- if gap(signs, rises) != 0
      have lri : signs.length = (riseN row e.1 m).length := by rw [riseN_len elen]; exact lsg
      refine ⟨_, rfl, _, rfl, B, sv, v2', signs, riseN row e.1 m, rfl, X8.in_, hsv, hri, lri, by omega, sok, fun H9 s9 => ⟨rfl, _, rfl, ?_⟩⟩
      have X9 := X8.trans (ext_same (j := none) X8.in_ s9)
      have hx9 : IsSds H9 x e.1 := mono_Sds.up s9 hx8
      have nd9 := nd8.same s9
      have hf9 := s9 _ _ hf8
      have efil : ((msN lo hi).take (j + 1)).filter (fun m => decide (gainN row signs e.1 m ≠ 0)) = ((msN lo hi).take j).filter (fun m => decide (gainN row signs e.1 m ≠ 0)) ++ (if gainN row signs e.1 m ≠ 0 then [m] else []) := by
        rw [List.take_add_one, hm, List.filter_append]
        exact congrArg (fun l => _ ++ l) (filter_one _ _)
      refine iteIN (fun hne => ?_) fun heq => ?_
      · have hne' : gainN row signs e.1 m ≠ 0 := hne
        have hek1 : (((msN lo hi).take (j + 1)).foldl (add1 (stepN row) e.1 e.2) (rowE row lo hi i))[i]? = some e := by
          obtain ⟨new, hnew⟩ := hpre ((msN lo hi).take (j + 1))
          rw [hnew, List.getElem?_append_left hin]
          exact hei
        have hfe1 : (farT (((msN lo hi).take (j + 1)).foldl (add1 (stepN row) e.1 e.2) (rowE row lo hi i)))[i]? = some (e.1, .int ((e.2.length : Int) + 1)) := by
          unfold farT
          rw [List.getElem?_map, hek1]
          rfl
        have hve1 := valV_at nd9.nd hfe1
        have hfl := fl1 ((rowE row lo hi 61).take i)
        have hft := ftl j
        refine ⟨_, rfl, .inl ⟨rfl, _, SqL.of hf9⟩, _, rfl, _, rfl, p, o8, _, e.1, _, rfl, nd9, hx9, hve1, f, _, _, rfl, rfl, hf9, by rw [List.length_map, List.length_append, List.length_map, sizeLine_eq]; omega, ?_⟩
        have nfp : f ≠ p := ne_of hf9 nd9.at_ (fun z => nomatch z)
        have k9 : ∀ (b : Addr) (o : HO) (l : List V), H9 b = some o → b ≠ f → (upd H9 f (.lst l)) b = some o := fun b o l e n => by rw [upd_ne n]; exact e
        refine ⟨o8, _, _, rfl, X9.mut (.inr zf) bf _, (X9.mut (.inr zf) bf _).sm, hx9.keep fun b xs e => k9 _ _ _ e (ne_of e hf9 (fun z => nomatch z)), nd9.keep (fun b xs e => k9 _ _ _ e (ne_of e hf9 (fun z => nomatch z))) (by rw [nd9.at_]; exact k9 _ _ _ nd9.at_ (Ne.symm nfp)), ?_⟩
        rw [upd_same, efil, if_pos hne']
        simp
      · have heq' : gainN row signs e.1 m = 0 := heq
        refine ⟨o8, _, _, rfl, X9, X9.sm, hx9, nd9, ?_⟩
        rw [efil, if_neg (by simpa using heq'), List.append_nil]
        exact hf9
    · rintro σ H7 ⟨of7, y5, y6, rfl, X7, s7, hx7, nf7, hf7⟩
      rw [lbv, List.take_of_length_le (Nat.le_refl _)] at nf7 hf7
      rw [← hE1] at nf7
      refine ⟨of7, _, _, _, rfl, X7, nf7, ?_⟩
      rw [hf7, List.take_add_one, he]
      show _ = some (HO.lst ((foundN (msN lo hi) (gainN row signs) ((rowE row lo hi 61).take i ++ [e])).map V.int))
      unfold foundN
      rw [List.flatMap_append]
      simp [found1]
  · rintro σ H5 ⟨of, y4, y5, y6, rfl, X5, nf5, hf5⟩
    rw [klen, List.take_of_length_le (Nat.le_refl _)] at hf5
    obtain ⟨L, hL⟩ : ∃ L, foundN (msN lo hi) (gainN row signs) (rowE row lo hi 61) = L := ⟨_, rfl⟩
    rw [hL] at hf5
    have hs5 : SqL K H5 f (L.map V.int) := SqL.of hf5
    refine ⟨_, rfl, Nat.zero_le _, fun g ng => ⟨_, .list [], .lst ((same_new ng).seq hs5) (dp_ints _), .lst (SqL.of upd_same) .nil, shaped_ints _, shaped_ints [], ?_⟩⟩
    have s6 := X5.sm.trans (same_new (o := .lst []) ng)
    rw [eqv_empty]
    have B61 := binv (stepN row) (msN lo hi) (begR row) hms 61
    have h0 := found_nil (ms := msN lo hi) (gain := gainN row signs) (E := rowE row lo hi 61)
    have hF' := fun c h => found_hit (stepN row) (msN lo hi) (begR row) (gainN row signs) B61 (c := c) h
    rw [hL] at h0
    generalize hR : firstHit (msN lo hi) (gainN row signs) (rowE row lo hi 61) = r at q h0 hF'
    refine ⟨_, rfl, iteE (fun hemp => ?_) fun hemp => ?_⟩
    · have e0 := h0.mp (List.isEmpty_iff.mp hemp)
      subst e0
      exact q _ s6
    · cases r with
      | none =>
        rw [h0.mpr rfl] at hemp
        cases hemp
      | some c =>
        obtain ⟨hin, hle⟩ := hF' c rfl
        refine ⟨_, rfl, f, _, rfl, (same_new ng).seq hs5, ?_, fun m hm hall => ?_⟩
        · rw [hL] at hin
          exact List.length_pos_of_mem hin
        have e1 := hall _ (by rw [← hL]; exact hin)
        have e2 := hle m (by rw [hL]; exact hm)
        have e : m = (c.length : Int) := by omega
        rw [e]
        exact q _ s6
end
end PB

/-! the law's least course -/
namespace PB
open PySem PySem.Spec PyProof.Rows L2
theorem paths_last {row : List Tm} {c : List Int} {B : Hp} {v : V} (h : IsL (IsL IsI) B v (pathsN row c c.length)) (hc : c ≠ []) : ∃ a vs x, v = .ref a ∧ B a = some (.lst (vs ++ [x])) ∧ IsL IsI B x (sumsN row (begR row) (zerosN row) c) := by
  obtain ⟨a, vs, rfl, ha, pv⟩ := h
  obtain ⟨n, hn⟩ : ∃ n, c.length = n + 1 := ⟨c.length - 1, by have := List.length_pos_iff.mpr hc; omega⟩
  rw [hn, pathsN, List.range_succ, List.map_append] at pv
  have hg : (((List.range n).map fun k => sumsN row (begR row) (zerosN row) (c.take (k + 1))) ++ ([n].map fun k => sumsN row (begR row) (zerosN row) (c.take (k + 1))))[n]? = some (sumsN row (begR row) (zerosN row) (c.take (n + 1))) := by
    rw [List.getElem?_append_right (by simp)]
    simp
  obtain ⟨x, hx, px⟩ := paired_get pv hg
  have lv : vs.length = n + 1 := by have := Paired.length pv; simpa using this
  have e : vs = vs.take n ++ [x] := by
    have h1 : vs = vs.take (n + 1) := (List.take_of_length_le (by omega)).symm
    rw [List.take_add_one, hx] at h1
    exact h1
  refine ⟨a, vs.take n, x, rfl, by rw [← e]; exact ha, ?_⟩
  rw [List.take_of_length_le (by omega)] at px
  exact px
section
variable {P : Program} {w : World} {K : PySem.W.Frag} {mg : PySem.Str → Option Value} {base : Heap} {C W R : Addr}
def spLeast : Sp := fun vs H Q _ => ∃ B rv sv bv row signs lo hi c, vs = [rv, sv, bv, .int (c.length : Int)] ∧ Same B H ∧ IsR B rv row ∧ row.length ≤ 6 ∧ RowOk row ∧ IsL IsI B sv signs ∧ signs.length = row.length ∧ SgnOk signs ∧ IsBand B bv (lo, hi) ∧ BandOk (lo, hi) ∧
  1 ≤ c.length ∧ c.length ≤ 4 ∧ PartsR row signs lo hi (some c) ∧ ∀ v B' H', Ext none B H B' H' → IsC B' v c → Q v H'
abbrev N_law_least : List PySem.Str := ["_law_row", "_law_signs", "_law_limits_here", "_law_longest", "_law_many", "_law_course"]
theorem sc_law_least : FnScope N_law_least ["_law_row", "_law_signs", "_law_limits_here", "_law_longest"] (defScope st_law_least) := ⟨rfl, rfl, rfl, by decide +kernel, rfl, by decide +kernel, by decide +kernel⟩
theorem b_law_least (T : Txt K mg C W R) (g_law_ways : Fn P w K mg base 1 "_law_ways" ["_law_limits_here", "_law_many"] spWays) (g_law_paths : Fn P w K mg base 3 "_law_paths" ["_law_row", "_law_course"] spPaths) (g_law_gap : Fn P w K mg base 1 "_law_gap" ["_law_signs", "_law_sums"] spGap) :
    Body P w K mg base N_law_least "_law_least" st_law_least 3 spLeast := by
  intro f cdv A outer s H vs Q E hr h
  obtain ⟨B, rv, sv, bv, row, signs, lo, hi, c, rfl, sB, hrow, l1, rok, hsv, lsg, sok, hband, bok, c1, c4, hparts, q⟩ := h
  have hms := msN_srt lo hi
  refine ⟨_, (pss_cons (ps_for PassesOwn.never rfl (pi_range2 (by rfl) T.brange (pa_cons pe_int (pa_cons (pe_op op_add (pv 3) pe_int) pa_nil))) (pg_name (i := 4) sc_law_least.nd rfl (Or.inl rfl))
      (pss_one (ps_for PassesOwn.never rfl (pi_list (pe_callF g_law_ways hr (pa_cons (pv 2) (pa_cons (pv 4) pa_nil)))) (pg_name (i := 5) sc_law_least.nd rfl (Or.inl rfl))
      (pss_one (ps_if (pt_cmpR op_ne (pe_callF g_law_gap hr (pa_cons (pv 1) (pa_cons (pe_ix ix_list (pe_callF g_law_paths hr (pa_cons (pv 0) (pa_cons (pv 5) pa_nil))) (pe_un un_neg pe_int) (fun _ _ => rfl)) pa_nil))) pe_int (nomark _)) (pss_one (ps_ret (pv 5))) pss_nil)))))
      (pss_one (ps_ret pe_non))), ?_⟩
  refine ⟨_, rfl, _, 1, rfl, rfl, 1, (c.length : Int) + 1, rfl, ⟨by decide, by decide, by omega, by omega⟩, ?_⟩
  rw [show ((c.length : Int) + 1 - 1).toNat = c.length by omega]
  refine for_range (lo := 1) (n := c.length) (fun i σ H' => ∃ (B' : Hp) (y4 y5 : Option V), σ = [some rv, some sv, some bv, some (.int (c.length : Int)), y4, y5] ∧ Ext none B H B' H' ∧ i < c.length) ⟨B, none, none, rfl, .refl sB, by omega⟩ ?_ ?_
  · rintro i σ H1 hi' ⟨B1, y4, y5, rfl, X1, hic⟩
    refine atS [some rv, some sv, some bv, some (.int (c.length : Int)), some (.int ((i + 1 : Nat) : Int)), y5] ?_ (by simp; omega)
    refine ⟨_, rfl, _, rfl, B1, bv, lo, hi, i + 1, rfl, X1.in_, mono_Band.up X1.gh hband, bok, by omega, fun v B2 H2 X2 hv => ?_⟩
    obtain ⟨wa, wvs, rfl, hwa, pw⟩ := hv
    have lw : wvs.length = (waysN (msN lo hi) (i + 1)).length := Paired.length pw
    have X12 := X1.trans X2
    refine ⟨wa, rfl, ⟨_, SqL.to X2.in_ hwa⟩, for_list (K := K) (a := wa) (xs := wvs) (fun j σ H' => ∃ (B' : Hp) (y5 : Option V), σ = [some rv, some sv, some bv, some (.int (c.length : Int)), some (.int ((i + 1 : Nat) : Int)), y5] ∧ Ext none B H B' H' ∧ Same B2 B' ∧
        ∀ d ∈ (waysN (msN lo hi) (i + 1)).take j, tot (stepN row) (gainN row signs) (begR row) d = 0)
      ⟨B2, y5, rfl, X12, .refl _, fun d hd => by simp at hd⟩ (fun j σ H' _ ⟨B', _, _, X, s, _⟩ => SqL.to X.in_ (s _ _ hwa)) ?_ ?_⟩
    · rintro j x σ H3 hj ⟨B3, y5, rfl, X3, s3, hz⟩
      obtain ⟨d, hd, pd⟩ := paired_getL pw hj
      have pd3 := mono_C.up s3 pd
      have ld : d.length = i + 1 := ((ways_mem (msN lo hi)).mp (List.mem_of_getElem? hd)).1
      have dne : d ≠ [] := fun z => by rw [z] at ld; cases ld
      have hsv3 := (mono_L mono_I).up X3.gh hsv
      refine ⟨_, rfl, _, rfl, _, rfl, B3, rv, x, row, d, rfl, X3.in_, mono_R.up X3.gh hrow, l1, rok, pd3, by omega, fun v B4 H4 X4 hv => ?_⟩
      obtain ⟨pa, pvs, px, rfl, hpa, hpx⟩ := paths_last hv dne
      refine ⟨_, rfl, pa, _, -1, px, rfl, rfl, SqL.to X4.in_ hpa, atI_last _ _, ?_⟩
      have lzr : (zerosN row).length = row.length := List.length_replicate ..
      have lsum : signs.length = (sumsN row (begR row) (zerosN row) d).length := by rw [sumsN_len d _ _ (begR_len row) lzr]; exact lsg
      have eg : gapN signs (sumsN row (begR row) (zerosN row) d) = tot (stepN row) (gainN row signs) (begR row) d := gap_tot row signs d
      refine ⟨B4, sv, px, signs, _, rfl, X4.in_, (mono_L mono_I).up X4.gh hsv3, hpx, lsum, by omega, sok, fun H5 s5 => ?_⟩
      rw [eg]
      generalize hT : tot (stepN row) (gainN row signs) (begR row) d = tt
      have X5 := (X3.trans X4).trans (ext_same (j := none) X4.in_ s5)
      refine ⟨rfl, _, rfl, iteIN (fun hne => ?_) fun heq => ?_⟩
      · have hlen : i + 1 = c.length := by
          refine Classical.byContradiction fun z => ?_
          have := ways_short hparts (k := i + 1) (by omega) (List.mem_of_getElem? hd)
          exact hne (hT.symm.trans this)
        rw [hlen] at hd hz
        have e : d = c := ways_first hms hparts hd (by rw [hT]; exact hne) fun j' e' hj' he' => hz e' (List.mem_of_getElem? (i := j') (by rw [List.getElem?_take_of_lt hj']; exact he'))
        subst e
        exact ⟨_, rfl, q x B4 H5 X5 (mono_C.up X4.gh pd3)⟩
      · refine ⟨B4, _, rfl, X5, s3.trans X4.gh, fun y hy => ?_⟩
        rw [List.take_add_one, hd] at hy
        rcases List.mem_append.mp hy with h | h
        · exact hz y h
        · have : y = d := by simpa using h
          rw [this, hT]
          exact heq
    · rintro σ H3 ⟨B3, y5, rfl, X3, s3, hz⟩
      rw [lw, List.take_of_length_le (Nat.le_refl _)] at hz
      refine ⟨B3, _, _, rfl, X3, ?_⟩
      refine Classical.byContradiction fun z => ?_
      have e : i + 1 = c.length := by omega
      rw [e] at hz
      exact ways_some hparts hz
  · rintro σ H1 ⟨B1, y4, y5, rfl, X1, hic⟩
    omega
end
end PB

/-! the law -/
namespace PB
open PySem PySem.Spec PyProof.Rows L2
/-! ### calls by keywords alone, and calls that know that no repr is under way -/
def kbG {α : Type} : List α → List α → List α
  | [], [b, t, o] => [o, t, b]
  | _, _ => []
structure AtK (K : PySem.W.Frag) (mg : PySem.Str → Option Value) : Prop where
  ex : ∃ f fd, FunD K "bundle_parting" "bundle_parting" (defArgs st_bundle_parting) (defBody st_bundle_parting) (defScope st_bundle_parting) [] [] f fd ∧ mg "bundle_parting" = some (.ref f) ∧ L2.Binds K fd ["ones", "others", "band"] [] ∧ KBinds K fd ["ones", "others", "band"] ["band", "others", "ones"] kbG kbG
structure FnK (P : Program) (w : World) (K : PySem.W.Frag) (mg : PySem.Str → Option Value) (base : Heap) (k : Nat) (x : PySem.Str) (ps ks : List PySem.Str) (sp : Sp) : Prop where
  ex : ∃ f fd, FnOk P w K mg base CX0 k f fd ps sp ∧ mg x = some (.ref f) ∧ PySem.W.keepIn K (.ref f) = true ∧ KBinds K fd ps ks kbG kbG
structure FnG1 (P : Program) (w : World) (K : PySem.W.Frag) (mg : PySem.Str → Option Value) (base : Heap) (k : Nat) (x : PySem.Str) (ps : List PySem.Str) (sp : Sp) : Prop where
  ex : ∃ f fd, FnG P w K mg base k f fd ps sp ∧ mg x = some (.ref f) ∧ PySem.W.keepIn K (.ref f) = true ∧ L2.Binds K fd ps []
theorem kb_of {K : PySem.W.Frag} {f : Addr} {fd : FuncData} (F : FunD K "bundle_parting" "bundle_parting" (defArgs st_bundle_parting) (defBody st_bundle_parting) (defScope st_bundle_parting) [] [] f fd) :
    KBinds K fd ["ones", "others", "band"] ["band", "others", "ones"] kbG kbG := by
  obtain ⟨oc, od, dV, kV, doc, pm, an, cdv, ct, osl, rfl, lk, hcd, hD, hK⟩ := F.ex
  rcases hD with ⟨_, rfl⟩ | ⟨e, _⟩
  · refine ⟨fun s us ws X hl => ?_, fun {vs us zs ws} r rz => ?_⟩
    · match us, ws, hl with
      | [], [b, t, o], _ => exact .of_eq rfl
    · cases r with
      | nil =>
        cases rz with
        | nil => exact .nil
        | cons r1 t1 => cases t1 with
          | nil => exact .nil
          | cons r2 t2 => cases t2 with
            | nil => exact .nil
            | cons r3 t3 => cases t3 with
              | nil => exact .cons r3 (.cons r2 (.cons r1 .nil))
              | cons r4 t4 => exact .nil
      | cons r1 t1 => exact .nil
  · exact absurd rfl e
section
variable {X : Cx} {k k' : Nat} {ps ks : List PySem.Str} {sp : Sp} {x : PySem.Str} {p pos : Pos} {e : Expr} {es : List Expr} {kws : List Keyword} {t tk : TA}
theorem pe_callKF (F : FnK X.prog X.w X.K X.mg X.base k x ps ks sp) (hr : Room k' X.A) (hkw : PK X kws tk) (hk : k ≤ k' := by decide) (hg : Gl X x := by rfl) (hall : (backToKw pos (keywordEach kws X.env)).all (·.1.isSome) = true := by rfl) (hks : (backToKw pos (keywordEach kws X.env)).filterMap (·.1) = ks := by rfl)
    (hdb : (x == ("__debug__" : PySem.Str)) = false := by decide) (hpl : ((backTo pos (starEach [] X.env)).any (·.1) || (backToKw pos (keywordEach kws X.env)).any (·.1.isNone)) = false := by rfl) :
    PE X (.Call (.Name x p) [] kws pos) (tCallK sp kbG E0 tNil tk) := by
  obtain ⟨f, fd, G, g, kp, b⟩ := F.ex
  exact pe_callK0 G (hr.mono hk) hg g kp b pass0 hkw hall hks hdb hpl
theorem pe_callG1 (F : FnG1 X.prog X.w X.K X.mg X.base k x ps sp) (hgd : X.A.guards = some []) (hr : Room k' X.A) (ha : PA X (e :: es) t) (hk : k ≤ k' := by decide) (hg : Gl X x := by rfl) (hdb : (x == ("__debug__" : PySem.Str)) = false := by decide)
    (he : starEach (e :: es) X.env = (false, eval e X.env) :: starEach es X.env := by rfl) (hpl : (backTo pos (starEach es X.env)).any (·.1) = false := by rfl) : PE X (.Call (.Name x p) (e :: es) [] pos) (tCall sp [] E0 t) := by
  obtain ⟨f, fd, G, g, kp, b⟩ := F.ex
  exact pe_callG hgd G (hr.mono hk) hg g kp b ha hdb he hpl
end
/-- the body's walk where no repr is under way -/
def BodyG (P : Program) (w : World) (K : PySem.W.Frag) (mg : PySem.Str → Option Value) (base : Heap) (N : List PySem.Str) (qual : PySem.Str) (st : Stmt) (k : Nat) (sp : Sp) : Prop :=
  ∀ (f : Addr) (cdv : Value) (A : Around) (outer : List Env) (s : Shared) (H : Hp) (vs : List V) (Q : VK) (E : XK), (A.deeper (envOfC qual (defScope st) s.heap.objs.size f cdv)).guards = some [] → Room k (A.deeper (envOfC qual (defScope st) s.heap.objs.size f cdv)) → sp vs H Q E →
      ∃ t, PSs (cxOf CX0 P w K mg base N qual (defScope st) f cdv A outer s H E).nox (defBody st) t ∧ t { nx := fun _ H' => Q .non H', rt := Q } (start N vs) H
theorem At.fnG {P : Program} {w : World} {K : PySem.W.Frag} {mg : PySem.Str → Option Value} {base : Heap} {x : PySem.Str} {st : Stmt} {ps N : List PySem.Str} {k : Nat} {sp : Sp} (A : At K mg x st ps) (S : FnScope N ps (defScope st)) (len : ∀ vs H Q E, sp vs H Q E → vs.length = ps.length) (b : BodyG P w K mg base N x st k sp) : FnG1 P w K mg base (k + 1) x ps sp := by
  obtain ⟨f, fd, F, g, hb⟩ := A.ex
  exact ⟨f, fd, fnG_of F S len (b f), g, F.kp, hb⟩
/-! ### what is told -/
def TV (B : Hp) (v : V) : Option (List Int) → Prop
  | none => v = .non
  | some c => IsC B v c
theorem TV.up {B B' : Hp} {v : V} {r : Option (List Int)} (s : Same B B') (h : TV B v r) : TV B' v r := by
  cases r with
  | none => exact h
  | some c => exact mono_C.up s h
theorem told_join {r : Option (List Int)} {B H : Hp} {Q : VK} (sB : Same B H) (k : ∀ v B' H', Ext none B H B' H' → TV B' v r → Q v H') : Tells r H Q := by
  cases r with
  | none => exact fun H' s => k .non B H' (ext_same sB s) rfl
  | some c =>
    intro a H' n s e
    obtain ⟨B1, X, e1⟩ := ext_new sB n s e
    exact k (.ref a) B1 H' X ⟨a, _, rfl, e1, isI_of c⟩
def manyV : Option (List Int) → V
  | none => .non
  | some c => .int (c.length : Int)
theorem near_join {r : Option (List Int)} {H : Hp} {Q : VK} (k : ∀ H', Same H H' → Q (manyV r) H') : TellsN r H Q := by
  cases r with
  | none => exact k
  | some c => exact k
theorem TV.isO {K : PySem.W.Frag} {B H : Hp} {v : V} {r : Option (List Int)} (h : TV B v r) (s : Same B H) (hr : ∀ c, r = some c → (∀ n ∈ c, -9 ≤ n ∧ n ≤ 9) ∧ c.length ≤ 1000) : IsO K H v r := by
  cases r with
  | none => exact h
  | some c =>
    obtain ⟨a, vs, rfl, ha, p⟩ := h
    cases isI_map p
    exact ⟨a, rfl, SqT.to s ha, (hr c rfl).1, (hr c rfl).2⟩
theorem binv_small {S : Type} [DecidableEq S] {nxt : S → Int → S} {ms : List Int} {s0 : S} {n : Nat} {E : List (En S)} (B : BInv nxt ms s0 n E) : ∀ (i : Nat) e, E[i]? = some e → e.2.length ≤ i := by
  intro i
  induction i using Nat.strongRecOn with
  | _ i ih =>
    intro e he
    have hl := (List.getElem?_eq_some_iff.mp he).1
    by_cases h0 : i = 0
    · subst h0
      rw [B.root] at he
      cases he
      exact Nat.le_refl _
    · obtain ⟨i', ei, ej, m, q1, _, q3, q4, _, q6⟩ := B.frm i (by omega) hl
      rw [he] at q4
      cases q4
      have := ih i' q1 ei q3
      rw [q6]
      show (ei.2 ++ [m]).length ≤ i
      rw [List.length_append, List.length_singleton]
      omega
theorem first_small {S : Type} [DecidableEq S] {nxt : S → Int → S} {ms : List Int} {s0 : S} {n : Nat} {E : List (En S)} (B : BInv nxt ms s0 n E) {gain : S → Int → Int} {c : List Int} (hc : firstHit ms gain E = some c) : c.length ≤ E.length := by
  obtain ⟨l1, e, l2, hE, he, hl⟩ := List.findSome?_eq_some_iff.mp hc
  obtain ⟨m, as, bs, hm, has_, hg, rfl⟩ := hit1_some ms gain he
  obtain ⟨i, hi⟩ := List.mem_iff_getElem?.mp (show e ∈ E by rw [hE]; simp)
  have h1 := binv_small B i e hi
  have h2 := (List.getElem?_eq_some_iff.mp hi).1
  rw [List.length_append, List.length_singleton]
  omega
theorem told_def (r1 r2 : List Tm) (lo hi : Int) (n : Nat) : toldN r1 r2 lo hi n = firstHit (msN lo hi) (gainN (r1 ++ r2) (sgn r1.length r2.length)) (rowE (r1 ++ r2) lo hi n) := rfl
theorem few61 {row : List Tm} {lo hi : Int} (few : FewR row lo hi 60) : (rowE row lo hi 61).length ≤ 61 := Nat.le_succ_of_le (few_len _ _ _ few 61)
theorem len_small {S : Type} [DecidableEq S] {nxt : S → Int → S} {ms : List Int} {s0 : S} {n : Nat} {E : List (En S)} (B : BInv nxt ms s0 n E) {gain : S → Int → Int} {c : List Int} (hc : firstHit ms gain E = some c) (hE : E.length ≤ 61) : c.length ≤ 1000 := by
  have := first_small B hc
  omega
theorem mem_small {lo hi n : Int} (bok : BandOk (lo, hi)) (h : n ∈ msN lo hi) : -9 ≤ n ∧ n ≤ 9 := by
  obtain ⟨b1, b2, b3⟩ := bok
  simp only at b1 b2 b3
  have := msN_mem.mp h
  omega
theorem parts_mem {r1 r2 : List Tm} {lo hi : Int} {c : List Int} {r : Option (List Int)} (hp : PartsR (r1 ++ r2) (sgn r1.length r2.length) lo hi r) (e : r = some c) : ∀ n ∈ c, n ∈ msN lo hi := by
  subst e
  exact hp.1
theorem told_small {r1 r2 : List Tm} {lo hi : Int} {n : Nat} (bok : BandOk (lo, hi)) (h : (rowE (r1 ++ r2) lo hi n).length ≤ n) (hn : n ≤ 61) : ∀ c, toldN r1 r2 lo hi n = some c → (∀ n ∈ c, -9 ≤ n ∧ n ≤ 9) ∧ c.length ≤ 1000 := by
  intro c hc
  refine ⟨fun x hx => mem_small bok (parts_mem (told_parts h) hc x hx), ?_⟩
  rw [told_def] at hc
  exact len_small (binv (stepN (r1 ++ r2)) (msN lo hi) (begR (r1 ++ r2)) (msN_srt lo hi) n) hc (Nat.le_trans h hn)
theorem told_all {r1 r2 : List Tm} {lo hi : Int} {n : Nat} (bok : BandOk (lo, hi)) (h : (rowE (r1 ++ r2) lo hi n).length ≤ n) (h' : (rowE (r2 ++ r1) lo hi n).length ≤ n) (hn : n ≤ 61) :
    ∃ r, toldN r1 r2 lo hi n = r ∧ toldN r2 r1 lo hi n = r ∧ PartsR (r1 ++ r2) (sgn r1.length r2.length) lo hi r ∧ (∀ c, r = some c → (∀ n ∈ c, -9 ≤ n ∧ n ≤ 9) ∧ c.length ≤ 1000) ∧ firstHit (msN lo hi) (gainN (r1 ++ r2) (sgn r1.length r2.length)) (rowE (r1 ++ r2) lo hi n) = r :=
  ⟨toldN r1 r2 lo hi n, rfl, told_swap h h', told_parts h, told_small bok h hn, rfl⟩
section
variable {P : Program} {w : World} {K : PySem.W.Frag} {mg : PySem.Str → Option Value} {base : Heap} {C W R : Addr}
def spRight : Sp := fun vs H Q _ => ∃ (B : Hp) (a : Addr), vs = [.ref a] ∧ Same B H ∧ B a = none ∧ Jar H a ∧ ∀ B' H', Ext (some a) B H B' H' → Q (.bl true) H'
abbrev N_law_right : List PySem.Str := ["_law_jar_here", "_law_limits_here", "_law_left", "_law_right_here", "_law_row", "_law_signs", "_law_mine", "_law_yours", "_law_told", "_law_many"]
theorem sc_law_right : FnScope N_law_right ["_law_jar_here"] (defScope st_law_right) := ⟨rfl, rfl, rfl, by decide +kernel, rfl, by decide +kernel, by decide +kernel⟩
theorem b_law_right (T : Txt K mg C W R) (g_law_pair_of : Fn P w K mg base 2 "_law_pair_of" ["_law_jar_here"] (spDrawn IsBand BandOk)) (g_law_tame_sides : Fn P w K mg base 6 "_law_tame_sides" ["_law_jar_here", "_law_limits_here", "_law_size"] spTameSides)
    (g_law_clauses : Fn P w K mg base 7 "_law_clauses" ["_law_row"] (spClauses C)) (g_bundle_parting : Fn P w K mg base 10 "bundle_parting" ["ones", "others", "band"] (spParting C)) (k_bundle_parting : FnK P w K mg base 10 "bundle_parting" ["ones", "others", "band"] ["band", "others", "ones"] (spParting C))
    (g_law_net : Fn P w K mg base 3 "_law_net" ["_law_row", "_law_limits_here", "_law_size"] (spNet P w)) (g_law_nearest : Fn P w K mg base 2 "_law_nearest" ["_law_net_here", "_law_signs"] (spNearest P w)) (g_law_least : Fn P w K mg base 4 "_law_least" ["_law_row", "_law_signs", "_law_limits_here", "_law_longest"] spLeast)
    (g_law_is_course : Fn P w K mg base 2 "_law_is_course" ["_law_value", "_law_limits_here"] spIsCourse) (g_law_gap : Fn P w K mg base 1 "_law_gap" ["_law_signs", "_law_sums"] spGap) (g_law_paths : Fn P w K mg base 3 "_law_paths" ["_law_row", "_law_course"] spPaths) :
    BodyG P w K mg base N_law_right "_law_right" st_law_right 10 spRight := by
  intro f cdv A outer s H vs Q E hgd hr h
  obtain ⟨B, a, rfl, sB, nB, jr, q⟩ := h
  refine ⟨_, (pss_cons (ps_set (i := 1) sc_law_right.nd rfl (Or.inl rfl) (pe_callF g_law_pair_of hr (pa_cons (pv 0) pa_nil)))
      (pss_cons (ps_asg (pe_callF g_law_tame_sides hr (pa_cons (pv 0) (pa_cons (pv 1) (pa_cons pe_int pa_nil)))) (pg_tup rfl (pgs_cons (pg_name (i := 2) sc_law_right.nd rfl (Or.inl rfl)) (pgs_cons (pg_name (i := 3) sc_law_right.nd rfl (Or.inl rfl)) (pgs_cons (pg_name (i := 4) sc_law_right.nd rfl (Or.inl rfl)) (pgs_cons (pg_name (i := 5) sc_law_right.nd rfl (Or.inl rfl)) pgs_nil))))))
      (pss_cons (ps_par (i := 6) (j := 7) rfl sc_law_right.nd rfl rfl (by decide) rfl rfl (pa_cons (pe_callF g_law_clauses hr (pa_cons (pv 2) pa_nil)) (pa_cons (pe_callF g_law_clauses hr (pa_cons (pv 3) pa_nil)) pa_nil)) (by rfl))
      (pss_cons (ps_set (i := 8) sc_law_right.nd rfl (Or.inl rfl) (pe_callF g_bundle_parting hr (pa_cons (pv 6) (pa_cons (pv 7) (pa_cons (pv 1) pa_nil)))))
      (pss_cons (ps_if (pt_cmpR op_ne (pe_callB (call_reprO hgd hr) (by rfl) T.brepr (by decide +kernel) (pa_cons (pe_callKF k_bundle_parting hr (pk_cons (pv 1) (pk_cons (pv 6) (pk_cons (pv 7) pk_nil)))) pa_nil)) (pe_callB (call_reprO hgd hr) (by rfl) T.brepr (by decide +kernel) (pa_cons (pv 8) pa_nil)) (nomark _)) (pss_one (ps_ret pe_bl)) pss_nil)
      (pss_cons (ps_set (i := 9) sc_law_right.nd rfl (Or.inl rfl) (pe_callF g_law_nearest hr (pa_cons (pe_callF g_law_net hr (pa_cons (pv 4) (pa_cons (pv 1) (pa_cons pe_int pa_nil)))) (pa_cons (pv 5) pa_nil))))
      (pss_cons (ps_if (pt_cmpR op_isN (pv 9) pe_non (nomark _)) (pss_one (ps_ret (pe_cmpR op_isN (pv 8) pe_non (nomark _)))) pss_nil)
      (pss_cons (ps_if (pt_cmpR op_lt (pv 9) pe_int (nomark _)) (pss_one (ps_ret (pe_cmpR op_eq (pe_callB (call_reprO hgd hr) (by rfl) T.brepr (by decide +kernel) (pa_cons (pv 8) pa_nil)) (pe_callB (call_reprO hgd hr) (by rfl) T.brepr (by decide +kernel) (pa_cons (pe_callF g_law_least hr (pa_cons (pv 4) (pa_cons (pv 5) (pa_cons (pv 1) (pa_cons (pv 9) pa_nil))))) pa_nil)) (nomark _)))) pss_nil)
      (pss_cons (ps_if (PW.pt (pw_or (pt_not (pt_val (pe_callF g_law_is_course hr (pa_cons (pv 8) (pa_cons (pv 1) pa_nil))))) (pw_or1 (pt_cmpR op_ne (pe_callB call_len_seq (by rfl) T.blen PySem.boot_len (pa_cons (pv 8) pa_nil)) (pv 9) (nomark _))))) (pss_one (ps_ret pe_bl)) pss_nil)
      (pss_one (ps_ret (pe_cmpR op_ne (pe_callF g_law_gap hr (pa_cons (pv 5) (pa_cons (pe_ix ix_list (pe_callF g_law_paths hr (pa_cons (pv 4) (pa_cons (pv 8) pa_nil))) (pe_un un_neg pe_int) (fun _ _ => rfl)) pa_nil))) pe_int (nomark _))))))))))))), ?_⟩
  refine ⟨_, rfl, B, a, rfl, sB, nB, jr, fun bv b B1 H1 bok hb j1 X1 => ?_⟩
  obtain ⟨lo, hi⟩ := b
  refine ⟨_, rfl, _, rfl, B1, a, bv, lo, hi, rfl, X1.in_, X1.stay jr nB, j1, hb, bok, fun v r1 r2 B2 H2 s1 s2 few hq4 j2 X2 => ?_⟩
  obtain ⟨p, x1, x2, x3, x4, rfl, hp, hx1, hx2, hx3, hx4⟩ := hq4
  have X02 := X1.trans X2
  have hb2 := mono_Band.up X2.gh hb
  refine ⟨p, _, rfl, SqT.to X2.in_ hp, rfl, _, _, rfl, _, _, rfl, _, _, rfl, _, _, rfl, rfl, ?_⟩
  refine atS [some (.ref a), some bv, some x1, some x2, some x3, some x4, none, none, none, none] ?_
  have l1 := s1.2.1
  have l2 := s2.2.1
  have l12 : (r1 ++ r2).length ≤ 6 := by rw [List.length_append]; omega
  have ok12 : RowOk (r1 ++ r2) := fun t ht => by
    rcases List.mem_append.mp ht with h | h
    · exact s1.2.2 t h
    · exact s2.2.2 t h
  have lsg : (sgn r1.length r2.length).length = (r1 ++ r2).length := by simp [sgn]
  -- mine, yours
  refine ⟨_, rfl, B2, x1, r1, rfl, X2.in_, hx1, by omega, s1.2.2, fun mv B3 H3 X3 hmv => ?_⟩
  refine ⟨_, rfl, B3, x2, r2, rfl, X3.in_, mono_R.up X3.gh hx2, by omega, s2.2.2, fun yv B4 H4 X4 hyv => ⟨_, _, rfl, ?_⟩⟩
  refine atS [some (.ref a), some bv, some x1, some x2, some x3, some x4, some mv, some yv, none, none] ?_
  have hmv4 := mono_Cls.up X4.gh hmv
  have pre : BunPre C B4 H4 mv yv bv r1 r2 lo hi := ⟨X4.in_, hmv4, hyv, mono_Band.up (X3.gh.trans X4.gh) hb2, bok, ⟨s1.1, s1.2.1⟩, ⟨s2.1, s2.2.1⟩, s1.2.2, s2.2.2, few⟩
  have fews := few_swap few
  obtain ⟨r, hr, hsw, hparts, small, hdef⟩ := told_all (n := 61) bok (few61 few) (few61 fews) (Nat.le_refl 61)
  -- told
  refine ⟨_, rfl, _, rfl, _, rfl, B4, mv, yv, bv, r1, r2, lo, hi, rfl, pre, ?_⟩
  rw [hr]
  refine told_join X4.in_ fun tv B5 H5 X5 htv => ?_
  refine atS [some (.ref a), some bv, some x1, some x2, some x3, some x4, some mv, some yv, some tv, none] ?_
  have pre5 := pre.later X5
  have preS : BunPre C B5 H5 yv mv bv r2 r1 lo hi := ⟨pre5.sB, pre5.two, pre5.one, pre5.bd, bok, pre5.l2, pre5.l1, pre5.ok2, pre5.ok1, fews⟩
  -- the same by name, in the opposite order
  refine ⟨_, rfl, _, rfl, _, rfl, B5, yv, mv, bv, r2, r1, lo, hi, rfl, preS, ?_⟩
  rw [hsw]
  refine told_join X5.in_ fun tv6 B6 H6 X6 htv6 => ?_
  have htv6' := htv.up X6.gh
  have s26 : Same B2 B6 := X3.gh.trans (X4.gh.trans (X5.gh.trans X6.gh))
  refine ⟨tv6, r, rfl, htv6.isO X6.in_ small, _, rfl, tv, r, rfl, htv6'.isO X6.in_ small, rfl, _, rfl, iteNS rfl ?_⟩
  -- many
  have X26 := X3.trans (X4.trans (X5.trans X6))
  have X06 := X02.also X26
  refine ⟨_, rfl, _, rfl, B6, x3, bv, r1 ++ r2, lo, hi, rfl, X6.in_, mono_R.up s26 hx3, l12, ok12, mono_Band.up s26 hb2, bok, fun d o kvs B7 H7 X7 _ _ nd pk => ?_⟩
  have s27 := s26.trans X7.gh
  refine ⟨_, rfl, B7, d, o, kvs, x4, r1 ++ r2, sgn r1.length r2.length, lo, hi, rfl, X7.in_, nd, pk, few, (mono_L mono_I).up s27 hx4, lsg, l12, sgn_ok _ _, bok, ?_⟩
  rw [hdef]
  refine near_join fun H8 s8 => ?_
  refine atS [some (.ref a), some bv, some x1, some x2, some x3, some x4, some mv, some yv, some tv, some (manyV r)] ?_
  have X08 := (X06.also X7).also (ext_same (j := none) X7.in_ s8)
  have sB8 : Same B7 H8 := X7.in_.trans s8
  have htv8 := htv6'.up X7.gh
  have fin : ∀ H', Same H8 H' → Q (.bl true) H' := fun H' s' => q B7 H' (X08.also (ext_same (j := none) sB8 s'))
  cases r with
  | none =>
    cases htv8
    exact ⟨_, rfl, rfl, _, rfl, iteT ⟨_, rfl, rfl, fin _ (.refl _)⟩⟩
  | some c =>
    have hs := small c rfl
    have hc0 : c ≠ [] := fun z => by subst z; exact hparts.2.1 rfl
    have hc1 : 1 ≤ c.length := List.length_pos_iff.mpr hc0
    have hin : ∀ x ∈ c, lo ≤ x ∧ x ≤ hi := fun x hx => msN_mem.mp (hparts.1 x hx)
    refine ⟨_, rfl, rfl, _, rfl, iteF ?_⟩
    refine ⟨_, rfl, (c.length : Int), 5, rfl, rfl, _, rfl, iteP (fun h5 => ?_) fun h5 => ?_⟩
    · -- repr(told) == repr(least(..))
      refine ⟨_, rfl, tv, some c, rfl, htv8.isO sB8 small, _, rfl, _, rfl, _, rfl, _, rfl, B7, x3, x4, bv, r1 ++ r2, sgn r1.length r2.length, lo, hi, c, rfl, sB8, mono_R.up s27 hx3, l12, ok12, (mono_L mono_I).up s27 hx4, lsg, sgn_ok _ _, mono_Band.up s27 hb2, bok, hc1, by omega, hparts, fun v B9 H9 X9 hv => ?_⟩
      refine ⟨v, some c, rfl, (show TV B9 v (some c) from hv).isO X9.in_ small, rfl, ?_⟩
      rw [decide_eq_true rfl]
      exact fin _ X9.sm
    · have h8 := htv8
      obtain ⟨ta, tvs, rfl, hta, ptv⟩ := h8
      have ltv : tvs.length = c.length := Paired.length ptv
      refine ⟨_, rfl, _, rfl, B7, .ref ta, bv, c, lo, hi, rfl, sB8, htv8, hs.2, hin, mono_Band.up s27 hb2, fun H9 s9 => ⟨true, rfl, iteF ?_⟩⟩
      have sB9 := sB8.trans s9
      refine ⟨_, rfl, ta, tvs, rfl, .inr (SqT.to sB9 hta), _, rfl, rfl, _, rfl, ?_⟩
      rw [ltv]
      refine iteNS rfl ?_
      -- the sums behind it
      refine ⟨_, rfl, _, rfl, _, rfl, B7, x3, .ref ta, r1 ++ r2, c, rfl, sB9, mono_R.up s27 hx3, l12, ok12, htv8, hs.2, fun v B10 H10 X10 hv => ?_⟩
      obtain ⟨pa, pvs, px, rfl, hpa, hpx⟩ := paths_last hv hc0
      refine ⟨_, rfl, pa, _, -1, px, rfl, rfl, SqL.to X10.in_ hpa, atI_last _ _, ?_⟩
      have lzr : (zerosN (r1 ++ r2)).length = (r1 ++ r2).length := List.length_replicate ..
      have lsum : (sgn r1.length r2.length).length = (sumsN (r1 ++ r2) (begR (r1 ++ r2)) (zerosN (r1 ++ r2)) c).length := by rw [sumsN_len c _ _ (begR_len _) lzr]; exact lsg
      have eg : gapN (sgn r1.length r2.length) (sumsN (r1 ++ r2) (begR (r1 ++ r2)) (zerosN (r1 ++ r2)) c) = tot (stepN (r1 ++ r2)) (gainN (r1 ++ r2) (sgn r1.length r2.length)) (begR (r1 ++ r2)) c := gap_tot _ _ c
      refine ⟨B10, x4, px, sgn r1.length r2.length, _, rfl, X10.in_, (mono_L mono_I).up (s27.trans X10.gh) hx4, hpx, lsum, by omega, sgn_ok _ _, fun H11 s11 => ?_⟩
      rw [eg]
      have hne := hparts.2.1
      generalize tot (stepN (r1 ++ r2)) (gainN (r1 ++ r2) (sgn r1.length r2.length)) (begR (r1 ++ r2)) c = tt at hne ⊢
      refine ⟨rfl, ?_⟩
      rw [decide_eq_false (fun z => hne (V.int.inj z))]
      exact fin _ (s9.trans (X10.sm.trans s11))
end
end PB

/-! the whole -/
namespace PB
open PySem PySem.Spec PyProof.Rows L2
section
variable {P : Program} {w : World} {K : PySem.W.Frag} {mg : PySem.Str → Option Value} {base : Heap} {C W R : Addr}
def spLaw (K : PySem.W.Frag) : Sp := fun vs H Q _ => ∃ (a : Addr) (ns : List Int), vs = [.ref a] ∧ SqL K H a (ns.map V.int) ∧ ns.length ≤ 63 ∧ ∀ H', Q (.bl true) H'
abbrev N_law : List PySem.Str := ["_law_cells", "_law_turn"]
theorem sc_law : FnScope N_law ["_law_cells"] (defScope st_law) := ⟨rfl, rfl, rfl, by decide +kernel, rfl, by decide +kernel, by decide +kernel⟩
theorem b_law (T : Txt K mg C W R) (g_law_jar : Fn P w K mg base 1 "_law_jar" ["_law_cells", "_law_turn"] (spJar K)) (g_law_right : FnG1 P w K mg base 11 "_law_right" ["_law_jar_here"] spRight) :
    BodyG P w K mg base N_law "law" st_law 11 (spLaw K) := by
  intro f cdv A outer s H vs Q E hgd hr h
  obtain ⟨a, ns, rfl, hs, hl, q⟩ := h
  refine ⟨_, (pss_one (ps_ret (pe_callB (cr_all rfl) (by rfl) T.ball (by decide +kernel) (pa_cons (pe_lc (own := [("_law_turn", 1)]) (g := gName 1) rfl sc_law.nd (pi_range1 (by rfl) T.brange (pa_cons (pe_callB (call_max2 rfl) (by rfl) T.bmax (by decide +kernel) (pa_cons pe_int (pa_cons (pe_callB (call_min2 rfl) (by rfl) T.bmin (by decide +kernel) (pa_cons (pe_callB call_len_seq (by rfl) T.blen PySem.boot_len (pa_cons (pv 0) pa_nil)) (pa_cons pe_int pa_nil))) pa_nil))) pa_nil)) (blkOk_by (own := [("_law_turn", 1)]) (N := N_law) (sc := defScope st_law) (by decide +kernel)) (fun _ _ _ _ _ => (pg_name (i := 1) sc_law.nd rfl (Or.inl rfl))) (fun _ _ _ _ _ => pts_nil) (fun _ _ _ _ _ => (pe_callG1 g_law_right hgd hr (pa_cons (pe_callF g_law_jar hr (pa_cons (pv 0) (pa_cons (pv 1) pa_nil))) pa_nil)))) pa_nil)))), ?_⟩
  refine ⟨_, rfl, a, _, rfl, .inl hs, _, 4, rfl, 2, _, rfl, ?_⟩
  obtain ⟨m, hm, hm4⟩ : ∃ m : Int, (if (if (4 : Int) < ((ns.map V.int).length : Int) then 4 else ((ns.map V.int).length : Int)) > 2 then (if (4 : Int) < ((ns.map V.int).length : Int) then 4 else ((ns.map V.int).length : Int)) else 2) = m ∧ 0 ≤ m ∧ m ≤ 4 := ⟨_, rfl, by split <;> split <;> omega, by split <;> split <;> omega⟩
  refine ⟨m, ?_, by omega, by omega, fun D nD => ?_⟩
  · rw [← hm]
  refine lc_new (B := H) walk_R (List.replicate m.toNat true) IsB mono_B (.refl H) nD (List.length_replicate ..) (by rw [sizeLine_eq]; omega) (fun _ _ => trivial) ?_ ?_
  · rintro i x z B1 H1 H2 Qn Qs hz X ⟨rfl, rfl⟩ hq
    have hz' := List.mem_of_getElem? hz
    have ez : z = true := List.eq_of_mem_replicate hz'
    subst ez
    have hi : i < m.toNat := by have := (List.getElem?_eq_some_iff.mp hz).1; rwa [List.length_replicate] at this
    refine ⟨rfl, yesT ⟨_, rfl, _, rfl, a, ns, i, by simp, X.sm.seq hs, hl, by omega, fun p H3 np s3 jr => ?_⟩⟩
    have sB3 : Same B1 H3 := X.in_.trans s3
    refine ⟨B1, p, rfl, sB3, X.in_.free np, jr, fun B4 H4 Y => ?_⟩
    refine hq _ B1 H4 (ext_same X.in_ fun b o e => ?_) rfl
    exact Y.hp b o (fun z => by cases z; rw [np] at e; cases e) (s3 b o e)
  · rintro B1 H1 X1 ⟨D', bs, e, hD, pbs⟩
    cases e
    cases paired_eq (f := V.bl) pbs
    refine ⟨D, _, rfl, SqL.to X1.in_ hD, ?_⟩
    have e : (List.replicate m.toNat true).all id = true := by simp
    rw [e]
    exact q _
end
end PB

/-! the chain, the facts, the end -/
namespace PB
open PySem PySem.Spec PyProof.Rows L2
structure Ats (K : PySem.W.Frag) (mg : PySem.Str → Option Value) (C W R : Addr) : Prop where
  is_integer : At K mg "is_integer" st_is_integer ["value"]
  is_between : At K mg "is_between" st_is_between ["value", "least", "most"]
  is_band : At K mg "is_band" st_is_band ["value"]
  check_band : At K mg "check_band" st_check_band ["band"]
  moves_of : At K mg "moves_of" st_moves_of ["band"]
  bounds_of : At K mg "bounds_of" st_bounds_of ["parts", "index"]
  is_part : At K mg "is_part" st_is_part ["parts", "index"]
  Clause_init : AtI K mg C "Clause" "Clause.__init__" st_Clause_init [.non, .non, .int 0, .int 0] ["self", "every", "first", "rate", "floor", "ceiling", "keep", "plus"]
  Clause_every : AtP K C "every" "Clause.every" st_Clause_every
  Clause_rate : AtP K C "rate" "Clause.rate" st_Clause_rate
  Clause_floor : AtP K C "floor" "Clause.floor" st_Clause_floor
  Clause_ceiling : AtP K C "ceiling" "Clause.ceiling" st_Clause_ceiling
  Clause_keep : AtP K C "keep" "Clause.keep" st_Clause_keep
  Clause_plus : AtP K C "plus" "Clause.plus" st_Clause_plus
  Clause_begun : AtP K C "begun" "Clause.begun" st_Clause_begun
  raise_of : At K mg "raise_of" st_raise_of ["clause", "wanted"]
  behind : At K mg "behind" st_behind ["clause", "standing", "move"]
  Row_init : AtI K mg R "Row" "Row.__init__" st_Row_init [] ["self", "row", "signs"]
  Row_after : AtM K R "after" "Row.after" st_Row_after ["self", "node", "move"]
  Web_place_of : AtM K W "place_of" "Web.place_of" st_Web_place_of ["self", "node", "here", "move"]
  Web_course_to : AtM K W "course_to" "Web.course_to" st_Web_course_to ["self", "place"]
  Web_init : AtI K mg W "Web" "Web.__init__" st_Web_init [] ["self", "start", "moves", "rules"]
  check_some : At K mg "check_some" st_check_some ["clauses", "most"]
  begun_row : At K mg "begun_row" st_begun_row ["clauses"]
  web_of_bundles : At K mg "web_of_bundles" st_web_of_bundles ["ones", "others", "band"]
  checked_bundles : At K mg "checked_bundles" st_checked_bundles ["ones", "others", "band"]
  bundle_parting : At K mg "bundle_parting" st_bundle_parting ["ones", "others", "band"]
  law_jar : At K mg "_law_jar" st_law_jar ["_law_cells", "_law_turn"]
  law_draw : At K mg "_law_draw" st_law_draw ["_law_jar_here", "_law_many"]
  law_wide : At K mg "_law_wide" st_law_wide ["_law_jar_here"]
  law_terms : At K mg "_law_terms" st_law_terms ["_law_jar_here"]
  law_near : At K mg "_law_near" st_law_near ["_law_jar_here", "_law_terms_here"]
  law_pair_of : At K mg "_law_pair_of" st_law_pair_of ["_law_jar_here"]
  law_on : At K mg "_law_on" st_law_on ["_law_terms_here", "_law_stand", "_law_step"]
  law_year : At K mg "_law_year" st_law_year ["_law_row", "_law_stands", "_law_step"]
  law_begun : At K mg "_law_begun" st_law_begun ["_law_row"]
  law_clause : At K mg "_law_clause" st_law_clause ["_law_terms_here"]
  law_clauses : At K mg "_law_clauses" st_law_clauses ["_law_row"]
  law_gap : At K mg "_law_gap" st_law_gap ["_law_signs", "_law_sums"]
  law_is_int : At K mg "_law_is_int" st_law_is_int ["_law_value"]
  law_is_course : At K mg "_law_is_course" st_law_is_course ["_law_value", "_law_limits_here"]
  law_net : At K mg "_law_net" st_law_net ["_law_row", "_law_limits_here", "_law_size"]
  law_tame : At K mg "_law_tame" st_law_tame ["_law_row", "_law_limits_here", "_law_size"]
  law_sides : At K mg "_law_sides" st_law_sides ["_law_jar_here"]
  law_tame_sides : At K mg "_law_tame_sides" st_law_tame_sides ["_law_jar_here", "_law_limits_here", "_law_size"]
  law_ways : At K mg "_law_ways" st_law_ways ["_law_limits_here", "_law_many"]
  law_paths : At K mg "_law_paths" st_law_paths ["_law_row", "_law_course"]
  law_nearest : At K mg "_law_nearest" st_law_nearest ["_law_net_here", "_law_signs"]
  law_least : At K mg "_law_least" st_law_least ["_law_row", "_law_signs", "_law_limits_here", "_law_longest"]
  law_right : At K mg "_law_right" st_law_right ["_law_jar_here"]
section
variable {P : Program} {w : World} {K : PySem.W.Frag} {mg : PySem.Str → Option Value} {base : Heap} {C W R : Addr} {f : Addr} {fd : FuncData}
theorem law_walk (A : Ats K mg C W R) (T : Txt K mg C W R) (F : FunD K "law" "law" (defArgs st_law) (defBody st_law) (defScope st_law) [] [] f fd) : FnG P w K mg base 12 f fd ["_law_cells"] (spLaw K) := by
  have g_is_integer : Fn P w K mg base 1 "is_integer" ["value"] spIsInteger := A.is_integer.fn sc_is_integer (fun _ _ _ _ ⟨_, e, _⟩ => by rw [e]; rfl) (b_is_integer T)
  have g_is_between : Fn P w K mg base 2 "is_between" ["value", "least", "most"] spBetween := A.is_between.fn sc_is_between (fun _ _ _ _ ⟨_, _, _, e, _⟩ => by rw [e]; rfl) (b_is_between T g_is_integer)
  have g_is_band : Fn P w K mg base 3 "is_band" ["value"] spIsBand := A.is_band.fn sc_is_band (fun _ _ _ _ ⟨_, _, _, e, _⟩ => by rw [e]; rfl) (b_is_band T g_is_between)
  have g_check_band : Fn P w K mg base 4 "check_band" ["band"] spCheckBand := A.check_band.fn sc_check_band (fun _ _ _ _ ⟨_, _, _, e, _⟩ => by rw [e]; rfl) (b_check_band T g_is_band)
  have g_moves_of : Fn P w K mg base 1 "moves_of" ["band"] spMoves := A.moves_of.fn sc_moves_of (fun _ _ _ _ ⟨_, _, _, e, _⟩ => by rw [e]; rfl) (b_moves_of T)
  have g_bounds_of : Fn P w K mg base 1 "bounds_of" ["parts", "index"] spBounds := A.bounds_of.fn sc_bounds_of (fun _ _ _ _ ⟨_, _, _, e, _⟩ => by rw [e]; rfl) (b_bounds_of T)
  have g_is_part : Fn P w K mg base 3 "is_part" ["parts", "index"] spIsPart := A.is_part.fn sc_is_part (fun _ _ _ _ ⟨_, _, _, e, _⟩ => by rw [e]; rfl) (b_is_part T g_bounds_of g_is_between)
  have i_Clause : FnI P w K mg base 4 C "Clause" ["self", "every", "first", "rate", "floor", "ceiling", "keep", "plus"] (spCInit C) := A.Clause_init.fn sc_Clause_init (fun _ _ _ _ ⟨_, _, _, e, _⟩ => by rw [e]; rfl) (b_Clause_init T g_is_part)
  have p_every : FnP P w K mg base 1 C "every" (spProp C fun t => .int t.every) := A.Clause_every.fn sc_Clause_every (fun _ _ _ _ ⟨_, _, _, _, e, _⟩ => by rw [e]; rfl) (b_Clause_every T)
  have p_rate : FnP P w K mg base 1 C "rate" (spProp C fun t => .int t.rate) := A.Clause_rate.fn sc_Clause_rate (fun _ _ _ _ ⟨_, _, _, _, e, _⟩ => by rw [e]; rfl) (b_Clause_rate T)
  have p_floor : FnP P w K mg base 1 C "floor" (spProp C fun t => optV t.low) := A.Clause_floor.fn sc_Clause_floor (fun _ _ _ _ ⟨_, _, _, _, e, _⟩ => by rw [e]; rfl) (b_Clause_floor T)
  have p_ceiling : FnP P w K mg base 1 C "ceiling" (spProp C fun t => optV t.top) := A.Clause_ceiling.fn sc_Clause_ceiling (fun _ _ _ _ ⟨_, _, _, _, e, _⟩ => by rw [e]; rfl) (b_Clause_ceiling T)
  have p_keep : FnP P w K mg base 1 C "keep" (spProp C fun t => .int t.keep) := A.Clause_keep.fn sc_Clause_keep (fun _ _ _ _ ⟨_, _, _, _, e, _⟩ => by rw [e]; rfl) (b_Clause_keep T)
  have p_plus : FnP P w K mg base 1 C "plus" (spProp C fun t => .int t.plus) := A.Clause_plus.fn sc_Clause_plus (fun _ _ _ _ ⟨_, _, _, _, e, _⟩ => by rw [e]; rfl) (b_Clause_plus T)
  have p_begun : FnP P w K mg base 1 C "begun" (spBegun C) := A.Clause_begun.fn sc_Clause_begun (fun _ _ _ _ ⟨_, _, _, _, e, _⟩ => by rw [e]; rfl) (b_Clause_begun T)
  have p : Props P w K mg base C := ⟨p_every, p_rate, p_floor, p_ceiling, p_keep, p_plus, p_begun⟩
  have g_raise_of : Fn P w K mg base 3 "raise_of" ["clause", "wanted"] (spRaise C) := A.raise_of.fn sc_raise_of (fun _ _ _ _ ⟨_, _, _, _, _, e, _⟩ => by rw [e]; rfl) (b_raise_of T p)
  have g_behind : Fn P w K mg base 4 "behind" ["clause", "standing", "move"] (spBehind C) := A.behind.fn sc_behind (fun _ _ _ _ ⟨_, _, _, _, _, _, e, _⟩ => by rw [e]; rfl) (b_behind T p g_raise_of)
  have i_Row : FnI P w K mg base 1 R "Row" ["self", "row", "signs"] (spRInit R) := A.Row_init.fn sc_Row_init (fun _ _ _ _ ⟨_, _, _, _, e, _⟩ => by rw [e]; rfl) (b_Row_init T)
  have m_after : FnM P w K mg base 5 R "after" ["self", "node", "move"] (spAfter C R) := A.Row_after.fn sc_Row_after (fun _ _ _ _ ⟨_, _, _, _, _, _, _, e, _⟩ => by rw [e]; rfl) (b_Row_after T g_behind)
  have m_place_of : FnM P w K mg base 1 W "place_of" ["self", "node", "here", "move"] (spPlace P w W) := A.Web_place_of.fn sc_Web_place_of (fun _ _ _ _ ⟨_, _, _, _, _, _, _, _, _, _, _, _, _, e, _⟩ => by rw [e]; rfl) (b_Web_place_of T)
  have m_course_to : FnM P w K mg base 1 W "course_to" ["self", "place"] (spCourse W) := A.Web_course_to.fn sc_Web_course_to (fun _ _ _ _ ⟨_, _, _, _, _, _, e, _⟩ => by rw [e]; rfl) (b_Web_course_to T)
  have i_Web : FnI P w K mg base 6 W "Web" ["self", "start", "moves", "rules"] (spWInit C W R) := A.Web_init.fn sc_Web_init (fun _ _ _ _ ⟨_, _, _, _, _, _, _, _, _, _, _, e, _⟩ => by rw [e]; rfl) (b_Web_init T m_after m_place_of)
  have g_check_some : Fn P w K mg base 1 "check_some" ["clauses", "most"] (spSome C) := A.check_some.fn sc_check_some (fun _ _ _ _ ⟨_, _, _, e, _⟩ => by rw [e]; rfl) (b_check_some T)
  have g_begun_row : Fn P w K mg base 3 "begun_row" ["clauses"] (spBegunRow C) := A.begun_row.fn sc_begun_row (fun _ _ _ _ ⟨_, _, _, e, _⟩ => by rw [e]; rfl) (b_begun_row T p)
  have g_web_of_bundles : Fn P w K mg base 8 "web_of_bundles" ["ones", "others", "band"] (spWeb C W) := A.web_of_bundles.fn sc_web_of_bundles (fun _ _ _ _ ⟨_, _, _, _, _, _, _, _, e, _⟩ => by rw [e]; rfl) (b_web_of_bundles T g_begun_row g_moves_of i_Row i_Web)
  have g_checked_bundles : Fn P w K mg base 9 "checked_bundles" ["ones", "others", "band"] (spWeb C W) := A.checked_bundles.fn sc_checked_bundles (fun _ _ _ _ ⟨_, _, _, _, _, _, _, _, e, _⟩ => by rw [e]; rfl) (b_checked_bundles T g_check_some g_check_band g_web_of_bundles)
  have g_bundle_parting : Fn P w K mg base 10 "bundle_parting" ["ones", "others", "band"] (spParting C) := A.bundle_parting.fn sc_bundle_parting (fun _ _ _ _ ⟨_, _, _, _, _, _, _, _, e, _⟩ => by rw [e]; rfl) (b_bundle_parting T g_checked_bundles m_course_to)
  have k_bundle_parting : FnK P w K mg base 10 "bundle_parting" ["ones", "others", "band"] ["band", "others", "ones"] (spParting C) := by
    obtain ⟨f1, fd1, F1, g1, _⟩ := A.bundle_parting.ex
    exact ⟨f1, fd1, body_ok F1 sc_bundle_parting (fun _ _ _ _ ⟨_, _, _, _, _, _, _, _, e, _⟩ => by rw [e]; rfl) (b_bundle_parting T g_checked_bundles m_course_to), g1, F1.kp, kb_of F1⟩
  have g_law_jar : Fn P w K mg base 1 "_law_jar" ["_law_cells", "_law_turn"] (spJar K) := A.law_jar.fn sc_law_jar (fun _ _ _ _ ⟨_, _, _, e, _⟩ => by rw [e]; rfl) (b_law_jar T)
  have g_law_draw : Fn P w K mg base 1 "_law_draw" ["_law_jar_here", "_law_many"] spDraw := A.law_draw.fn sc_law_draw (fun _ _ _ _ ⟨_, _, _, e, _⟩ => by rw [e]; rfl) (b_law_draw T)
  have g_law_wide : Fn P w K mg base 2 "_law_wide" ["_law_jar_here"] (spDrawn IsTm Tm.Ok) := A.law_wide.fn sc_law_wide (fun _ _ _ _ ⟨_, _, e, _⟩ => by rw [e]; rfl) (b_law_wide T g_law_draw)
  have g_law_terms : Fn P w K mg base 3 "_law_terms" ["_law_jar_here"] (spDrawn IsTm Tm.Ok) := A.law_terms.fn sc_law_terms (fun _ _ _ _ ⟨_, _, e, _⟩ => by rw [e]; rfl) (b_law_terms T g_law_draw g_law_wide)
  have g_law_near : Fn P w K mg base 4 "_law_near" ["_law_jar_here", "_law_terms_here"] spNear := A.law_near.fn sc_law_near (fun _ _ _ _ ⟨_, _, _, _, e, _⟩ => by rw [e]; rfl) (b_law_near T g_law_draw g_law_terms)
  have g_law_pair_of : Fn P w K mg base 2 "_law_pair_of" ["_law_jar_here"] (spDrawn IsBand BandOk) := A.law_pair_of.fn sc_law_pair_of (fun _ _ _ _ ⟨_, _, e, _⟩ => by rw [e]; rfl) (b_law_pair_of T g_law_draw)
  have g_law_on : Fn P w K mg base 1 "_law_on" ["_law_terms_here", "_law_stand", "_law_step"] spOn := A.law_on.fn sc_law_on (fun _ _ _ _ ⟨_, _, _, _, _, _, e, _⟩ => by rw [e]; rfl) (b_law_on T)
  have g_law_year : Fn P w K mg base 2 "_law_year" ["_law_row", "_law_stands", "_law_step"] spYear := A.law_year.fn sc_law_year (fun _ _ _ _ ⟨_, _, _, _, _, _, e, _⟩ => by rw [e]; rfl) (b_law_year T g_law_on)
  have g_law_begun : Fn P w K mg base 1 "_law_begun" ["_law_row"] spBegun9 := A.law_begun.fn sc_law_begun (fun _ _ _ _ ⟨_, _, _, e, _⟩ => by rw [e]; rfl) (b_law_begun T)
  have g_law_clause : Fn P w K mg base 6 "_law_clause" ["_law_terms_here"] (spClause C) := A.law_clause.fn sc_law_clause (fun _ _ _ _ ⟨_, _, _, e, _⟩ => by rw [e]; rfl) (b_law_clause T i_Clause)
  have g_law_clauses : Fn P w K mg base 7 "_law_clauses" ["_law_row"] (spClauses C) := A.law_clauses.fn sc_law_clauses (fun _ _ _ _ ⟨_, _, _, e, _⟩ => by rw [e]; rfl) (b_law_clauses T g_law_clause)
  have g_law_gap : Fn P w K mg base 1 "_law_gap" ["_law_signs", "_law_sums"] spGap := A.law_gap.fn sc_law_gap (fun _ _ _ _ ⟨_, _, _, _, _, e, _⟩ => by rw [e]; rfl) (b_law_gap T)
  have g_law_is_int : Fn P w K mg base 1 "_law_is_int" ["_law_value"] spIsInteger := A.law_is_int.fn sc_law_is_int (fun _ _ _ _ ⟨_, e, _⟩ => by rw [e]; rfl) (b_law_is_int T)
  have g_law_is_course : Fn P w K mg base 2 "_law_is_course" ["_law_value", "_law_limits_here"] spIsCourse := A.law_is_course.fn sc_law_is_course (fun _ _ _ _ ⟨_, _, _, _, _, _, e, _⟩ => by rw [e]; rfl) (b_law_is_course T g_law_is_int)
  have g_law_net : Fn P w K mg base 3 "_law_net" ["_law_row", "_law_limits_here", "_law_size"] (spNet P w) := A.law_net.fn sc_law_net (fun _ _ _ _ ⟨_, _, _, _, _, _, e, _⟩ => by rw [e]; rfl) (b_law_net T g_law_begun g_law_year)
  have g_law_tame : Fn P w K mg base 4 "_law_tame" ["_law_row", "_law_limits_here", "_law_size"] spTame := A.law_tame.fn sc_law_tame (fun _ _ _ _ ⟨_, _, _, _, _, _, e, _⟩ => by rw [e]; rfl) (b_law_tame T g_law_net)
  have g_law_sides : Fn P w K mg base 5 "_law_sides" ["_law_jar_here"] spSides := A.law_sides.fn sc_law_sides (fun _ _ _ _ ⟨_, _, e, _⟩ => by rw [e]; rfl) (b_law_sides T g_law_draw g_law_terms g_law_near)
  have g_law_tame_sides : Fn P w K mg base 6 "_law_tame_sides" ["_law_jar_here", "_law_limits_here", "_law_size"] spTameSides := A.law_tame_sides.fn sc_law_tame_sides (fun _ _ _ _ ⟨_, _, _, _, _, e, _⟩ => by rw [e]; rfl) (b_law_tame_sides T g_law_sides g_law_tame)
  have g_law_ways : Fn P w K mg base 1 "_law_ways" ["_law_limits_here", "_law_many"] spWays := A.law_ways.fn sc_law_ways (fun _ _ _ _ ⟨_, _, _, _, _, e, _⟩ => by rw [e]; rfl) (b_law_ways T)
  have g_law_paths : Fn P w K mg base 3 "_law_paths" ["_law_row", "_law_course"] spPaths := A.law_paths.fn sc_law_paths (fun _ _ _ _ ⟨_, _, _, _, _, e, _⟩ => by rw [e]; rfl) (b_law_paths T g_law_begun g_law_year)
  have g_law_nearest : Fn P w K mg base 2 "_law_nearest" ["_law_net_here", "_law_signs"] (spNearest P w) := A.law_nearest.fn sc_law_nearest (fun _ _ _ _ ⟨_, _, _, _, _, _, _, _, _, e, _⟩ => by rw [e]; rfl) (b_law_nearest T g_law_gap)
  have g_law_least : Fn P w K mg base 4 "_law_least" ["_law_row", "_law_signs", "_law_limits_here", "_law_longest"] spLeast := A.law_least.fn sc_law_least (fun _ _ _ _ ⟨_, _, _, _, _, _, _, _, _, e, _⟩ => by rw [e]; rfl) (b_law_least T g_law_ways g_law_paths g_law_gap)
  have g_law_right : FnG1 P w K mg base 11 "_law_right" ["_law_jar_here"] spRight := A.law_right.fnG sc_law_right (fun _ _ _ _ ⟨_, _, e, _⟩ => by rw [e]; rfl) (b_law_right T g_law_pair_of g_law_tame_sides g_law_clauses g_bundle_parting k_bundle_parting g_law_net g_law_nearest g_law_least g_law_is_course g_law_gap g_law_paths)
  exact fnG_of F sc_law (fun _ _ _ _ ⟨_, _, e, _⟩ => by rw [e]; rfl) (b_law T g_law_jar g_law_right f)
end
theorem ats_of {K : PySem.W.Frag} {h : Heap} {mg : PySem.Str → Option Value} (c : SaysB K) (X : K.In h) (G : h.Ns mainGlobals mg) : Ats K mg (He.ga K "Clause") (He.ga K "Web") (He.ga K "Row") where
  is_integer := by
    obtain ⟨fd, F⟩ := c.def_ 0 (d := d_is_integer) rfl
    exact ⟨_, fd, F, He.glo_ok X G (c.fact 16 (f := .glo "is_integer") rfl), FunD.bindsN (ps := ["value"]) F fun _ _ _ _ _ _ us hl => match us, hl with | [_], _ => rfl⟩
  is_between := by
    obtain ⟨fd, F⟩ := c.def_ 1 (d := d_is_between) rfl
    exact ⟨_, fd, F, He.glo_ok X G (c.fact 17 (f := .glo "is_between") rfl), FunD.bindsN (ps := ["value", "least", "most"]) F fun _ _ _ _ _ _ us hl => match us, hl with | [_, _, _], _ => rfl⟩
  is_band := by
    obtain ⟨fd, F⟩ := c.def_ 2 (d := d_is_band) rfl
    exact ⟨_, fd, F, He.glo_ok X G (c.fact 18 (f := .glo "is_band") rfl), FunD.bindsN (ps := ["value"]) F fun _ _ _ _ _ _ us hl => match us, hl with | [_], _ => rfl⟩
  check_band := by
    obtain ⟨fd, F⟩ := c.def_ 3 (d := d_check_band) rfl
    exact ⟨_, fd, F, He.glo_ok X G (c.fact 19 (f := .glo "check_band") rfl), FunD.bindsN (ps := ["band"]) F fun _ _ _ _ _ _ us hl => match us, hl with | [_], _ => rfl⟩
  moves_of := by
    obtain ⟨fd, F⟩ := c.def_ 4 (d := d_moves_of) rfl
    exact ⟨_, fd, F, He.glo_ok X G (c.fact 20 (f := .glo "moves_of") rfl), FunD.bindsN (ps := ["band"]) F fun _ _ _ _ _ _ us hl => match us, hl with | [_], _ => rfl⟩
  bounds_of := by
    obtain ⟨fd, F⟩ := c.def_ 5 (d := d_bounds_of) rfl
    exact ⟨_, fd, F, He.glo_ok X G (c.fact 21 (f := .glo "bounds_of") rfl), FunD.bindsN (ps := ["parts", "index"]) F fun _ _ _ _ _ _ us hl => match us, hl with | [_, _], _ => rfl⟩
  is_part := by
    obtain ⟨fd, F⟩ := c.def_ 6 (d := d_is_part) rfl
    exact ⟨_, fd, F, He.glo_ok X G (c.fact 22 (f := .glo "is_part") rfl), FunD.bindsN (ps := ["parts", "index"]) F fun _ _ _ _ _ _ us hl => match us, hl with | [_, _], _ => rfl⟩
  Clause_init := by
    obtain ⟨fd, F⟩ := c.def_ 7 (d := d_Clause_init) rfl
    obtain ⟨ds, vd, bd⟩ := FunD.binds1 (ps := ["self", "every", "first", "rate", "floor", "ceiling", "keep", "plus"]) F 8 4 (by intro z; cases z) rfl fun _ _ _ _ _ _ _ us its hl hl2 => match us, its, hl, hl2 with | [_, _, _, _, _, _, _, _], [_, _, _, _], _, _ => ⟨_, rfl, rfl⟩
    cases vd
    exact ⟨_, fd, F, He.mkr_ok (c.fact 56 (f := .mkr "Clause") rfl), He.glo_ok X G (c.fact 54 (f := .glo "Clause") rfl), bd⟩
  Clause_every := by
    obtain ⟨fd, F⟩ := c.def_ 8 (d := d_Clause_every) rfl
    exact ⟨_, _, fd, F, c.prop 0 rfl, FunD.bindsN (ps := ["self"]) F fun _ _ _ _ _ _ us hl => match us, hl with | [_], _ => rfl⟩
  Clause_rate := by
    obtain ⟨fd, F⟩ := c.def_ 9 (d := d_Clause_rate) rfl
    exact ⟨_, _, fd, F, c.prop 1 rfl, FunD.bindsN (ps := ["self"]) F fun _ _ _ _ _ _ us hl => match us, hl with | [_], _ => rfl⟩
  Clause_floor := by
    obtain ⟨fd, F⟩ := c.def_ 10 (d := d_Clause_floor) rfl
    exact ⟨_, _, fd, F, c.prop 2 rfl, FunD.bindsN (ps := ["self"]) F fun _ _ _ _ _ _ us hl => match us, hl with | [_], _ => rfl⟩
  Clause_ceiling := by
    obtain ⟨fd, F⟩ := c.def_ 11 (d := d_Clause_ceiling) rfl
    exact ⟨_, _, fd, F, c.prop 3 rfl, FunD.bindsN (ps := ["self"]) F fun _ _ _ _ _ _ us hl => match us, hl with | [_], _ => rfl⟩
  Clause_keep := by
    obtain ⟨fd, F⟩ := c.def_ 12 (d := d_Clause_keep) rfl
    exact ⟨_, _, fd, F, c.prop 4 rfl, FunD.bindsN (ps := ["self"]) F fun _ _ _ _ _ _ us hl => match us, hl with | [_], _ => rfl⟩
  Clause_plus := by
    obtain ⟨fd, F⟩ := c.def_ 13 (d := d_Clause_plus) rfl
    exact ⟨_, _, fd, F, c.prop 5 rfl, FunD.bindsN (ps := ["self"]) F fun _ _ _ _ _ _ us hl => match us, hl with | [_], _ => rfl⟩
  Clause_begun := by
    obtain ⟨fd, F⟩ := c.def_ 14 (d := d_Clause_begun) rfl
    exact ⟨_, _, fd, F, c.prop 6 rfl, FunD.bindsN (ps := ["self"]) F fun _ _ _ _ _ _ us hl => match us, hl with | [_], _ => rfl⟩
  raise_of := by
    obtain ⟨fd, F⟩ := c.def_ 15 (d := d_raise_of) rfl
    exact ⟨_, fd, F, He.glo_ok X G (c.fact 23 (f := .glo "raise_of") rfl), FunD.bindsN (ps := ["clause", "wanted"]) F fun _ _ _ _ _ _ us hl => match us, hl with | [_, _], _ => rfl⟩
  behind := by
    obtain ⟨fd, F⟩ := c.def_ 16 (d := d_behind) rfl
    exact ⟨_, fd, F, He.glo_ok X G (c.fact 24 (f := .glo "behind") rfl), FunD.bindsN (ps := ["clause", "standing", "move"]) F fun _ _ _ _ _ _ us hl => match us, hl with | [_, _, _], _ => rfl⟩
  Row_init := by
    obtain ⟨fd, F⟩ := c.def_ 20 (d := d_Row_init) rfl
    exact ⟨_, fd, F, He.mkr_ok (c.fact 62 (f := .mkr "Row") rfl), He.glo_ok X G (c.fact 60 (f := .glo "Row") rfl), FunD.bindsN (ps := ["self", "row", "signs"]) F fun _ _ _ _ _ _ us hl => match us, hl with | [_, _, _], _ => rfl⟩
  Row_after := by
    obtain ⟨fd, F⟩ := c.def_ 21 (d := d_Row_after) rfl
    exact ⟨_, fd, F, He.meth_ok (c.fact 80 (f := .meth "Row" "after") rfl), FunD.bindsN (ps := ["self", "node", "move"]) F fun _ _ _ _ _ _ us hl => match us, hl with | [_, _, _], _ => rfl⟩
  Web_place_of := by
    obtain ⟨fd, F⟩ := c.def_ 18 (d := d_Web_place_of) rfl
    exact ⟨_, fd, F, He.meth_ok (c.fact 78 (f := .meth "Web" "place_of") rfl), FunD.bindsN (ps := ["self", "node", "here", "move"]) F fun _ _ _ _ _ _ us hl => match us, hl with | [_, _, _, _], _ => rfl⟩
  Web_course_to := by
    obtain ⟨fd, F⟩ := c.def_ 19 (d := d_Web_course_to) rfl
    exact ⟨_, fd, F, He.meth_ok (c.fact 79 (f := .meth "Web" "course_to") rfl), FunD.bindsN (ps := ["self", "place"]) F fun _ _ _ _ _ _ us hl => match us, hl with | [_, _], _ => rfl⟩
  Web_init := by
    obtain ⟨fd, F⟩ := c.def_ 17 (d := d_Web_init) rfl
    exact ⟨_, fd, F, He.mkr_ok (c.fact 59 (f := .mkr "Web") rfl), He.glo_ok X G (c.fact 57 (f := .glo "Web") rfl), FunD.bindsN (ps := ["self", "start", "moves", "rules"]) F fun _ _ _ _ _ _ us hl => match us, hl with | [_, _, _, _], _ => rfl⟩
  check_some := by
    obtain ⟨fd, F⟩ := c.def_ 22 (d := d_check_some) rfl
    exact ⟨_, fd, F, He.glo_ok X G (c.fact 25 (f := .glo "check_some") rfl), FunD.bindsN (ps := ["clauses", "most"]) F fun _ _ _ _ _ _ us hl => match us, hl with | [_, _], _ => rfl⟩
  begun_row := by
    obtain ⟨fd, F⟩ := c.def_ 23 (d := d_begun_row) rfl
    exact ⟨_, fd, F, He.glo_ok X G (c.fact 26 (f := .glo "begun_row") rfl), FunD.bindsN (ps := ["clauses"]) F fun _ _ _ _ _ _ us hl => match us, hl with | [_], _ => rfl⟩
  web_of_bundles := by
    obtain ⟨fd, F⟩ := c.def_ 24 (d := d_web_of_bundles) rfl
    exact ⟨_, fd, F, He.glo_ok X G (c.fact 27 (f := .glo "web_of_bundles") rfl), FunD.bindsN (ps := ["ones", "others", "band"]) F fun _ _ _ _ _ _ us hl => match us, hl with | [_, _, _], _ => rfl⟩
  checked_bundles := by
    obtain ⟨fd, F⟩ := c.def_ 25 (d := d_checked_bundles) rfl
    exact ⟨_, fd, F, He.glo_ok X G (c.fact 28 (f := .glo "checked_bundles") rfl), FunD.bindsN (ps := ["ones", "others", "band"]) F fun _ _ _ _ _ _ us hl => match us, hl with | [_, _, _], _ => rfl⟩
  bundle_parting := by
    obtain ⟨fd, F⟩ := c.def_ 26 (d := d_bundle_parting) rfl
    exact ⟨_, fd, F, He.glo_ok X G (c.fact 29 (f := .glo "bundle_parting") rfl), FunD.bindsN (ps := ["ones", "others", "band"]) F fun _ _ _ _ _ _ us hl => match us, hl with | [_, _, _], _ => rfl⟩
  law_jar := by
    obtain ⟨fd, F⟩ := c.def_ 27 (d := d_law_jar) rfl
    exact ⟨_, fd, F, He.glo_ok X G (c.fact 30 (f := .glo "_law_jar") rfl), FunD.bindsN (ps := ["_law_cells", "_law_turn"]) F fun _ _ _ _ _ _ us hl => match us, hl with | [_, _], _ => rfl⟩
  law_draw := by
    obtain ⟨fd, F⟩ := c.def_ 28 (d := d_law_draw) rfl
    exact ⟨_, fd, F, He.glo_ok X G (c.fact 31 (f := .glo "_law_draw") rfl), FunD.bindsN (ps := ["_law_jar_here", "_law_many"]) F fun _ _ _ _ _ _ us hl => match us, hl with | [_, _], _ => rfl⟩
  law_wide := by
    obtain ⟨fd, F⟩ := c.def_ 29 (d := d_law_wide) rfl
    exact ⟨_, fd, F, He.glo_ok X G (c.fact 32 (f := .glo "_law_wide") rfl), FunD.bindsN (ps := ["_law_jar_here"]) F fun _ _ _ _ _ _ us hl => match us, hl with | [_], _ => rfl⟩
  law_terms := by
    obtain ⟨fd, F⟩ := c.def_ 30 (d := d_law_terms) rfl
    exact ⟨_, fd, F, He.glo_ok X G (c.fact 33 (f := .glo "_law_terms") rfl), FunD.bindsN (ps := ["_law_jar_here"]) F fun _ _ _ _ _ _ us hl => match us, hl with | [_], _ => rfl⟩
  law_near := by
    obtain ⟨fd, F⟩ := c.def_ 31 (d := d_law_near) rfl
    exact ⟨_, fd, F, He.glo_ok X G (c.fact 34 (f := .glo "_law_near") rfl), FunD.bindsN (ps := ["_law_jar_here", "_law_terms_here"]) F fun _ _ _ _ _ _ us hl => match us, hl with | [_, _], _ => rfl⟩
  law_pair_of := by
    obtain ⟨fd, F⟩ := c.def_ 32 (d := d_law_pair_of) rfl
    exact ⟨_, fd, F, He.glo_ok X G (c.fact 35 (f := .glo "_law_pair_of") rfl), FunD.bindsN (ps := ["_law_jar_here"]) F fun _ _ _ _ _ _ us hl => match us, hl with | [_], _ => rfl⟩
  law_on := by
    obtain ⟨fd, F⟩ := c.def_ 33 (d := d_law_on) rfl
    exact ⟨_, fd, F, He.glo_ok X G (c.fact 36 (f := .glo "_law_on") rfl), FunD.bindsN (ps := ["_law_terms_here", "_law_stand", "_law_step"]) F fun _ _ _ _ _ _ us hl => match us, hl with | [_, _, _], _ => rfl⟩
  law_year := by
    obtain ⟨fd, F⟩ := c.def_ 34 (d := d_law_year) rfl
    exact ⟨_, fd, F, He.glo_ok X G (c.fact 37 (f := .glo "_law_year") rfl), FunD.bindsN (ps := ["_law_row", "_law_stands", "_law_step"]) F fun _ _ _ _ _ _ us hl => match us, hl with | [_, _, _], _ => rfl⟩
  law_begun := by
    obtain ⟨fd, F⟩ := c.def_ 35 (d := d_law_begun) rfl
    exact ⟨_, fd, F, He.glo_ok X G (c.fact 38 (f := .glo "_law_begun") rfl), FunD.bindsN (ps := ["_law_row"]) F fun _ _ _ _ _ _ us hl => match us, hl with | [_], _ => rfl⟩
  law_clause := by
    obtain ⟨fd, F⟩ := c.def_ 38 (d := d_law_clause) rfl
    exact ⟨_, fd, F, He.glo_ok X G (c.fact 41 (f := .glo "_law_clause") rfl), FunD.bindsN (ps := ["_law_terms_here"]) F fun _ _ _ _ _ _ us hl => match us, hl with | [_], _ => rfl⟩
  law_clauses := by
    obtain ⟨fd, F⟩ := c.def_ 39 (d := d_law_clauses) rfl
    exact ⟨_, fd, F, He.glo_ok X G (c.fact 42 (f := .glo "_law_clauses") rfl), FunD.bindsN (ps := ["_law_row"]) F fun _ _ _ _ _ _ us hl => match us, hl with | [_], _ => rfl⟩
  law_gap := by
    obtain ⟨fd, F⟩ := c.def_ 44 (d := d_law_gap) rfl
    exact ⟨_, fd, F, He.glo_ok X G (c.fact 47 (f := .glo "_law_gap") rfl), FunD.bindsN (ps := ["_law_signs", "_law_sums"]) F fun _ _ _ _ _ _ us hl => match us, hl with | [_, _], _ => rfl⟩
  law_is_int := by
    obtain ⟨fd, F⟩ := c.def_ 45 (d := d_law_is_int) rfl
    exact ⟨_, fd, F, He.glo_ok X G (c.fact 48 (f := .glo "_law_is_int") rfl), FunD.bindsN (ps := ["_law_value"]) F fun _ _ _ _ _ _ us hl => match us, hl with | [_], _ => rfl⟩
  law_is_course := by
    obtain ⟨fd, F⟩ := c.def_ 46 (d := d_law_is_course) rfl
    exact ⟨_, fd, F, He.glo_ok X G (c.fact 49 (f := .glo "_law_is_course") rfl), FunD.bindsN (ps := ["_law_value", "_law_limits_here"]) F fun _ _ _ _ _ _ us hl => match us, hl with | [_, _], _ => rfl⟩
  law_net := by
    obtain ⟨fd, F⟩ := c.def_ 36 (d := d_law_net) rfl
    exact ⟨_, fd, F, He.glo_ok X G (c.fact 39 (f := .glo "_law_net") rfl), FunD.bindsN (ps := ["_law_row", "_law_limits_here", "_law_size"]) F fun _ _ _ _ _ _ us hl => match us, hl with | [_, _, _], _ => rfl⟩
  law_tame := by
    obtain ⟨fd, F⟩ := c.def_ 37 (d := d_law_tame) rfl
    exact ⟨_, fd, F, He.glo_ok X G (c.fact 40 (f := .glo "_law_tame") rfl), FunD.bindsN (ps := ["_law_row", "_law_limits_here", "_law_size"]) F fun _ _ _ _ _ _ us hl => match us, hl with | [_, _, _], _ => rfl⟩
  law_sides := by
    obtain ⟨fd, F⟩ := c.def_ 42 (d := d_law_sides) rfl
    exact ⟨_, fd, F, He.glo_ok X G (c.fact 45 (f := .glo "_law_sides") rfl), FunD.bindsN (ps := ["_law_jar_here"]) F fun _ _ _ _ _ _ us hl => match us, hl with | [_], _ => rfl⟩
  law_tame_sides := by
    obtain ⟨fd, F⟩ := c.def_ 43 (d := d_law_tame_sides) rfl
    exact ⟨_, fd, F, He.glo_ok X G (c.fact 46 (f := .glo "_law_tame_sides") rfl), FunD.bindsN (ps := ["_law_jar_here", "_law_limits_here", "_law_size"]) F fun _ _ _ _ _ _ us hl => match us, hl with | [_, _, _], _ => rfl⟩
  law_ways := by
    obtain ⟨fd, F⟩ := c.def_ 40 (d := d_law_ways) rfl
    exact ⟨_, fd, F, He.glo_ok X G (c.fact 43 (f := .glo "_law_ways") rfl), FunD.bindsN (ps := ["_law_limits_here", "_law_many"]) F fun _ _ _ _ _ _ us hl => match us, hl with | [_, _], _ => rfl⟩
  law_paths := by
    obtain ⟨fd, F⟩ := c.def_ 41 (d := d_law_paths) rfl
    exact ⟨_, fd, F, He.glo_ok X G (c.fact 44 (f := .glo "_law_paths") rfl), FunD.bindsN (ps := ["_law_row", "_law_course"]) F fun _ _ _ _ _ _ us hl => match us, hl with | [_, _], _ => rfl⟩
  law_nearest := by
    obtain ⟨fd, F⟩ := c.def_ 47 (d := d_law_nearest) rfl
    exact ⟨_, fd, F, He.glo_ok X G (c.fact 50 (f := .glo "_law_nearest") rfl), FunD.bindsN (ps := ["_law_net_here", "_law_signs"]) F fun _ _ _ _ _ _ us hl => match us, hl with | [_, _], _ => rfl⟩
  law_least := by
    obtain ⟨fd, F⟩ := c.def_ 48 (d := d_law_least) rfl
    exact ⟨_, fd, F, He.glo_ok X G (c.fact 51 (f := .glo "_law_least") rfl), FunD.bindsN (ps := ["_law_row", "_law_signs", "_law_limits_here", "_law_longest"]) F fun _ _ _ _ _ _ us hl => match us, hl with | [_, _, _, _], _ => rfl⟩
  law_right := by
    obtain ⟨fd, F⟩ := c.def_ 49 (d := d_law_right) rfl
    exact ⟨_, fd, F, He.glo_ok X G (c.fact 52 (f := .glo "_law_right") rfl), FunD.bindsN (ps := ["_law_jar_here"]) F fun _ _ _ _ _ _ us hl => match us, hl with | [_], _ => rfl⟩
theorem txt_of {K : PySem.W.Frag} {h : Heap} {mg : PySem.Str → Option Value} (c : SaysB K) (X : K.In h) (G : h.Ns mainGlobals mg) : Txt K mg (He.ga K "Clause") (He.ga K "Web") (He.ga K "Row") where
  bisinstance := He.free_ok X G (c.fact 0 (f := .free "isinstance") rfl)
  bint := He.free_ok X G (c.fact 1 (f := .free "int") rfl)
  bbool := He.free_ok X G (c.fact 2 (f := .free "bool") rfl)
  btuple := He.free_ok X G (c.fact 3 (f := .free "tuple") rfl)
  blen := He.free_ok X G (c.fact 4 (f := .free "len") rfl)
  blist := He.free_ok X G (c.fact 5 (f := .free "list") rfl)
  brange := He.free_ok X G (c.fact 6 (f := .free "range") rfl)
  bmin := He.free_ok X G (c.fact 7 (f := .free "min") rfl)
  bmax := He.free_ok X G (c.fact 8 (f := .free "max") rfl)
  benumerate := He.free_ok X G (c.fact 9 (f := .free "enumerate") rfl)
  bzip := He.free_ok X G (c.fact 10 (f := .free "zip") rfl)
  bsum := He.free_ok X G (c.fact 11 (f := .free "sum") rfl)
  babs := He.free_ok X G (c.fact 12 (f := .free "abs") rfl)
  ball := He.free_ok X G (c.fact 13 (f := .free "all") rfl)
  brepr := He.free_ok X G (c.fact 14 (f := .free "repr") rfl)
  bdivmod := He.free_ok X G (c.fact 15 (f := .free "divmod") rfl)
  mgC := He.glo_ok X G (c.fact 54 (f := .glo "Clause") rfl)
  iEVERY := He.int_ok X G (c.fact 63 (f := .int "MOST_EVERY" 3) rfl)
  iRATE := He.int_ok X G (c.fact 64 (f := .int "MOST_RATE" 5) rfl)
  iBOUND := He.int_ok X G (c.fact 65 (f := .int "MOST_BOUND" 20) rfl)
  iKEEP := He.int_ok X G (c.fact 66 (f := .int "MOST_KEEP" 6) rfl)
  iPLUS := He.int_ok X G (c.fact 67 (f := .int "MOST_PLUS" 9) rfl)
  iBAND := He.int_ok X G (c.fact 68 (f := .int "MOST_BAND" 3) rfl)
  iSTANDINGS := He.int_ok X G (c.fact 69 (f := .int "MOST_STANDINGS" 600) rfl)
  iBUNDLE := He.int_ok X G (c.fact 70 (f := .int "MOST_BUNDLE" 3) rfl)
  clC := He.cls_ok (c.fact 55 (f := .cls "Clause") rfl)
  clW := He.cls_ok (c.fact 58 (f := .cls "Web") rfl)
  clR := He.cls_ok (c.fact 61 (f := .cls "Row") rfl)
  nParts := He.noat_ok (c.fact 71 (f := .noat "Clause" "parts") rfl)
  nNodes := He.noat_ok (c.fact 72 (f := .noat "Web" "nodes") rfl)
  nPlaces := He.noat_ok (c.fact 73 (f := .noat "Web" "places") rfl)
  nSteps := He.noat_ok (c.fact 74 (f := .noat "Web" "steps") rfl)
  nOrigins := He.noat_ok (c.fact 75 (f := .noat "Web" "origins") rfl)
  nRow := He.noat_ok (c.fact 76 (f := .noat "Row" "row") rfl)
  nSigns := He.noat_ok (c.fact 77 (f := .noat "Row" "signs") rfl)
  oneC := c.isi.one
  tyC := fun H a dx fs e => .base (.ins e (He.cls_ok (c.fact 55 (f := .cls "Clause") rfl)) c.isi.ha c.isi.hn c.isi.ht c.isi.hm)
theorem facts {K : PySem.W.Frag} {h : Heap} {mg : PySem.Str → Option Value} {f : Addr} (X : K.In h) (G : h.Ns mainGlobals mg) (hfa : mg ("law" : PySem.Str) = some (.ref f)) (c : SaysB K) :
    ∃ fd : FuncData, (∀ (s : Shared) (v : Value), BindsTo s fd ⟨[v], []⟩ [("_law_cells", v)]) ∧ ∀ (P : Program) (w : World) (base : Heap), K.In base → base.Ns mainGlobals mg → FnG P w K mg base 12 f fd ["_law_cells"] (spLaw K) := by
  obtain ⟨fd, F⟩ := c.def_ 50 (d := d_law) rfl
  have e := hfa.symm.trans (He.glo_ok X G (c.fact 53 (f := .glo "law") rfl))
  cases e
  have b := FunD.bindsA (ps := ["_law_cells"]) F fun _ _ _ _ _ _ us hl => match us, hl with | [_], _ => rfl
  exact ⟨fd, fun s v => b s [v] rfl, fun P w base _ _ => law_walk (ats_of c X G) (txt_of c X G) F⟩
end PB

open PySem PySem.W PySem.Calls PyProof.Rows
set_option maxHeartbeats 0 in
theorem PySem.Challenge.cw_pointrents_k71_whole_bundle_partings_holds : PySem.Challenge.rw_pointrents_k71_whole_bundle_partings.Holds := by
  w_on; o_law
  refine HandSHeadRun.head_any (r := PB.R) (q := view PB.R.prog [66]) (H := PB.hookB) (ob := PB.obT) (M := 20000) (loose := PB.looseN) (d := HandSHeadRun.topDef PB.R.prog 66) (kwd := []) PB.obT_eq
    (by kernel_rfl) (fun s => by kernel_rfl) PB.head_run (by kernel_rfl) (by kernel_rfl) (by kernel_rfl) (by rfl) (by first | assumption | decide +kernel) (by decide +kernel) ⟨rfl, rfl, rfl, rfl, rfl, by decide +kernel⟩ ?hw ?hc
  case hw => w_witness2
  case hc =>
    refine PB.walkG (l := PySem.Challenge.rw_pointrents_k71_whole_bundle_partings) (n := 63) (k := 12) (x := "_law_cells") rfl (by decide) (by kernel_rfl) ⟨rfl, by decide, by decide⟩ ?F
    intro w mg fa h Y G hmg0
    obtain ⟨K, KX, c⟩ := Y
    have hmg : mg ("law" : PySem.Str) = some (.ref fa) := by
      have e : (HandSHeadRun.topDef PB.R.prog 66).name = ("law" : PySem.Str) := by kernel_rfl
      rw [← e]
      exact hmg0
    obtain ⟨fd, hb, hF⟩ := PB.facts KX G hmg c
    exact ⟨K, fd, PB.spLaw K, KX, hb, fun H a ns hl _ hS => ⟨a, ns, rfl, hS, hl, fun _ => rfl⟩, fun base hK hN => hF _ w base hK hN⟩

