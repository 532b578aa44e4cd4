import PyProof.Rows.All
import Wide.All
import OpenK.AllK
import Wide.FinOn
import HandS.ForMost
import PyProof.ReprLen
import KE.KExcSuper
import HandS.Exc
import HandS.ExcInit
import HandS.ExcField
import HandS.StrMore
import HandS.IsInst
import HandS.WordsExc
import KE.KxIndex
import HandS.More
import HandS.NoneIn
import HandS.Style
import PySem.Challenge.RW_fascicle_k00_tokens
set_option Elab.async false
set_option linter.all false
set_option maxRecDepth 100000
set_option maxHeartbeats 4000000
/-! The plain law: what the lexer's mirror says of the texts that the law builds. No program here. -/
namespace Fa
open PySem
/-! ### signs -/
def isLet (c : Nat) : Bool := (decide (97 ≤ c) && decide (c ≤ 122)) || (decide (65 ≤ c) && decide (c ≤ 90))
def isDig (c : Nat) : Bool := decide (48 ≤ c) && decide (c ≤ 57)
def inNm (c : Nat) : Bool := isLet c || isDig c || decide (c = 95)
/-- a text by its codes -/
def S (l : List Nat) : Str := ⟨l.toArray⟩
def codes (x : Str) : List Nat := x.cps.toList
theorem codes_S (l : List Nat) : codes (S l) = l := rfl
theorem S_codes (x : Str) : S (codes x) = x := by cases x; rfl
theorem len_S (l : List Nat) : (S l).length = l.length := rfl
theorem S_app (a b : List Nat) : S a ++ S b = S (a ++ b) := by
  show Str.mk (a.toArray ++ b.toArray) = Str.mk (a ++ b).toArray
  rw [List.append_toArray]
theorem S_inj {a b : List Nat} (h : S a = S b) : a = b := by
  have e := congrArg codes h
  exact e
def resv : List Str := ["and", "as", "ask", "catch", "else", "export", "false", "from", "fun", "if", "import", "let", "none", "not", "or", "repeat", "return", "tell", "throw", "true", "try"]
def sgns : List Str := ["==", "=", "<", "+", "-", "*", ".", ",", ";", "(", ")", "{", "}"]
def isRes (w : List Nat) : Bool := resv.any fun y => decide (y = S w)
/-! ### tokens -/
inductive Tk where
  | word (w : List Nat) | name (w : List Nat) | num (n : Nat) | str (w : List Nat) | sign (w : List Nat)
def Tk.kind : Tk → Str
  | .word _ => "word" | .name _ => "name" | .num _ => "number" | .str _ => "string" | .sign _ => "sign"
def Tk.val : Tk → L2.V
  | .word w => .str (S w) | .name w => .str (S w) | .num n => .int (n : Int) | .str w => .str (S w) | .sign w => .str (S w)
def Tk.dat : Tk → PyData
  | .word w => .str (S w) | .name w => .str (S w) | .num n => .int (n : Int) | .str w => .str (S w) | .sign w => .str (S w)
/-- the codes of the token as it is written -/
def Tk.raw : Tk → List Nat
  | .word w => w | .name w => w | .num n => TL.numL n | .str w => 34 :: (w ++ [34]) | .sign w => w
/-- the first sign that the text begins with -/
def sgnOf (r : List Nat) : Option Str := sgns.find? fun s => (codes s).isPrefixOf r
def nmRun (r : List Nat) : List Nat := r.takeWhile inNm
/-- what is read at the head of a text: a token and its length, or nothing -/
inductive Rd : List Nat → Option (Tk × Nat) → Prop
  | word {c : Nat} {r : List Nat} : isLet c = true → isRes (nmRun (c :: r)) = true → Rd (c :: r) (some (.word (nmRun (c :: r)), (nmRun (c :: r)).length))
  | name {c : Nat} {r : List Nat} : isLet c = true → isRes (nmRun (c :: r)) = false → (nmRun (c :: r)).length ≤ 20 → Rd (c :: r) (some (.name (nmRun (c :: r)), (nmRun (c :: r)).length))
  | long {c : Nat} {r : List Nat} : isLet c = true → isRes (nmRun (c :: r)) = false → 20 < (nmRun (c :: r)).length → Rd (c :: r) none
  | num {c : Nat} {r : List Nat} : isDig c = true → (nmRun (c :: r)).length ≤ 5 → (nmRun (c :: r)).all isDig = true → NumText.digitsVal (nmRun (c :: r)) ≤ 65535 → ¬ (c = 48 ∧ 1 < (nmRun (c :: r)).length) →
      Rd (c :: r) (some (.num (NumText.digitsVal (nmRun (c :: r))), (nmRun (c :: r)).length))
  | numx {c : Nat} {r : List Nat} : isDig c = true → (5 < (nmRun (c :: r)).length ∨ (nmRun (c :: r)).all isDig = false ∨ 65535 < NumText.digitsVal (nmRun (c :: r)) ∨ (c = 48 ∧ 1 < (nmRun (c :: r)).length)) → Rd (c :: r) none
  | str {r : List Nat} : nmRun r ≠ [] → (nmRun r).length ≤ 20 → r[(nmRun r).length]? = some 34 → Rd (34 :: r) (some (.str (nmRun r), (nmRun r).length + 2))
  | strx {r : List Nat} : (nmRun r = [] ∨ 20 < (nmRun r).length ∨ r[(nmRun r).length]? ≠ some 34) → Rd (34 :: r) none
  | sign {c : Nat} {r : List Nat} {s : Str} : isLet c = false → isDig c = false → c ≠ 34 → sgnOf (c :: r) = some s → Rd (c :: r) (some (.sign (codes s), s.length))
  | signx {c : Nat} {r : List Nat} : isLet c = false → isDig c = false → c ≠ 34 → sgnOf (c :: r) = none → Rd (c :: r) none
def isWs (c : Nat) : Bool := decide (c = 32) || decide (c = 9) || decide (c = 10)
def notNl (c : Nat) : Bool := decide (c ≠ 10)
/-- a text from the place k on: its tokens with their places, and the place at which it is refused -/
inductive Lx : List Nat → Nat → List (Tk × Nat) → Option Nat → Prop
  | nil {k : Nat} : Lx [] k [] none
  | ws {c k : Nat} {r : List Nat} {ts : List (Tk × Nat)} {e : Option Nat} : isWs c = true → Lx r (k + 1) ts e → Lx (c :: r) k ts e
  | com {k : Nat} {r : List Nat} {ts : List (Tk × Nat)} {e : Option Nat} : Lx ((35 :: r).drop ((35 :: r).takeWhile notNl).length) (k + ((35 :: r).takeWhile notNl).length) ts e → Lx (35 :: r) k ts e
  | tok {c k n : Nat} {r : List Nat} {t : Tk} {ts : List (Tk × Nat)} {e : Option Nat} : isWs c = false → c ≠ 35 → Rd (c :: r) (some (t, n)) → Lx ((c :: r).drop n) (k + n) ts e → Lx (c :: r) k ((t, k) :: ts) e
  | bad {c k : Nat} {r : List Nat} : isWs c = false → c ≠ 35 → Rd (c :: r) none → Lx (c :: r) k [] (some k)
/-! ### the law's own texts -/
def letters : List Nat := codes "abcdefghijklmnopqrstuvwxyzABCDEFGHIJKLMNOPQRSTUVWXYZ"
def more : List Nat := letters ++ codes "0123456789_"
def lwTail (n i : Nat) : List Nat := (List.range i).map fun k => more.getD (n / (3 + k) % 63) 0
def lw (n : Nat) : List Nat := letters.getD (n % 52) 0 :: lwTail (n / 52) (n / 52 % 20)
def lawTk (n : Nat) : Tk :=
  if n % 6 = 0 then .word (codes (resv.getD (n / 6 % 21) (S [])))
  else if n % 6 = 1 then (if isRes (lw (n / 6)) = true then .word (lw (n / 6)) else .name (lw (n / 6)))
  else if n % 6 = 2 then .num (n / 6 % 65536)
  else if n % 6 = 3 then .str (lw (n / 6))
  else .sign (codes (sgns.getD (n / 6 % 13) (S [])))
def spcs : List Str := [" ", "\n", "\t", "  ", " # == fun\n", "\n\n"]
def spc (n : Nat) : List Nat := codes (spcs.getD (n % 6) (S []))
def piece (n : Nat) : List Nat := (lawTk n).raw ++ spc (n / 7)
def text : List Nat → List Nat
  | [] => []
  | c :: cs => piece c ++ text cs
def dues : Nat → List Nat → List (Tk × Nat)
  | _, [] => []
  | k, c :: cs => (lawTk c, k) :: dues (k + (piece c).length) cs
def bads : List Str := ["@", "65536", "01", "7a", "\"", "\"a", "\"\"", S (List.replicate 21 97), "!", S (34 :: (List.replicate 21 98 ++ [34])), "\"a b\"", "$"]

/-! ### lemmas -/
theorem getD_mem {α : Type} {l : List α} {i : Nat} {d : α} (h : i < l.length) : l.getD i d ∈ l := by
  rw [List.getD_eq_getElem?_getD, List.getElem?_eq_getElem h]
  exact List.getElem_mem h
theorem letters_let : ∀ c ∈ letters, isLet c = true := by decide +kernel
theorem more_in : ∀ c ∈ more, inNm c = true := by decide +kernel
theorem letters_len : letters.length = 52 := by decide +kernel
theorem more_len : more.length = 63 := by decide +kernel
theorem let_in {c : Nat} (h : isLet c = true) : inNm c = true := by unfold inNm; rw [h]; rfl
theorem lwTail_len (n i : Nat) : (lwTail n i).length = i := by unfold lwTail; rw [List.length_map, List.length_range]
theorem lwTail_in (n i : Nat) : ∀ c ∈ lwTail n i, inNm c = true := by
  intro c hc
  obtain ⟨k, _, rfl⟩ := List.mem_map.mp hc
  refine more_in _ (getD_mem ?_)
  rw [more_len]
  exact Nat.mod_lt _ (by decide)
theorem lw_head (n : Nat) : isLet (letters.getD (n % 52) 0) = true := letters_let _ (getD_mem (by rw [letters_len]; exact Nat.mod_lt _ (by decide)))
theorem lw_in (n : Nat) : ∀ c ∈ lw n, inNm c = true := by
  intro c hc
  unfold lw at hc
  rcases List.mem_cons.mp hc with rfl | hc
  · exact let_in (lw_head n)
  · exact lwTail_in _ _ c hc
theorem lw_len (n : Nat) : (lw n).length ≤ 20 := by
  unfold lw
  rw [List.length_cons, lwTail_len]
  have := Nat.mod_lt (n / 52) (show 20 > 0 by decide)
  omega
theorem takeWhile_app {p : Nat → Bool} : ∀ {w r : List Nat}, (∀ c ∈ w, p c = true) → (∀ c r', r = c :: r' → p c = false) → (w ++ r).takeWhile p = w
  | [], [], _, _ => rfl
  | [], c :: r, _, h => by
    show (c :: r).takeWhile p = []
    rw [List.takeWhile_cons, if_neg (by rw [h c r rfl]; exact Bool.false_ne_true)]
  | a :: w, r, ha, h => by
    show (a :: (w ++ r)).takeWhile p = a :: w
    rw [List.takeWhile_cons, if_pos (ha a List.mem_cons_self), takeWhile_app (fun c hc => ha c (List.mem_cons_of_mem _ hc)) h]
/-- the rest begins with no sign of a name -/
def Free (r : List Nat) : Prop := ∀ c r', r = c :: r' → inNm c = false
theorem nmRun_app {w r : List Nat} (hw : ∀ c ∈ w, inNm c = true) (h : Free r) : nmRun (w ++ r) = w := takeWhile_app hw h
/-- a word that begins with a letter and holds signs of names alone, and what follows it -/
theorem rd_word {c : Nat} {w r : List Nat} (hc : isLet c = true) (hw : ∀ d ∈ c :: w, inNm d = true) (hr : Free r) :
    (isRes (c :: w) = true → Rd ((c :: w) ++ r) (some (.word (c :: w), (c :: w).length))) ∧ (isRes (c :: w) = false → (c :: w).length ≤ 20 → Rd ((c :: w) ++ r) (some (.name (c :: w), (c :: w).length))) := by
  have e : nmRun (c :: (w ++ r)) = c :: w := nmRun_app (w := c :: w) hw hr
  refine ⟨fun h => ?_, fun h hl => ?_⟩
  · have q := Rd.word (c := c) (r := w ++ r) hc (by rw [e]; exact h)
    rw [e] at q
    exact q
  · have q := Rd.name (c := c) (r := w ++ r) hc (by rw [e]; exact h) (by rw [e]; exact hl)
    rw [e] at q
    exact q
theorem rd_str {w r : List Nat} (hw : ∀ d ∈ w, inNm d = true) (h0 : w ≠ []) (hl : w.length ≤ 20) : Rd (34 :: (w ++ [34]) ++ r) (some (.str w, w.length + 2)) := by
  have e : nmRun (w ++ 34 :: r) = w := nmRun_app hw (fun c r' z => by
    have e := (List.cons.inj z).1
    rw [← e]
    decide)
  have q := Rd.str (r := w ++ 34 :: r) (by rw [e]; exact h0) (by rw [e]; exact hl) (by
    rw [e, List.getElem?_append_right (Nat.le_refl _), Nat.sub_self]
    rfl)
  rw [e] at q
  have e2 : 34 :: (w ++ [34]) ++ r = 34 :: (w ++ 34 :: r) := by simp
  rw [e2]
  exact q
theorem numL_head {n : Nat} : ∃ c r, TL.numL n = c :: r ∧ (c = 48 → r = []) := by
  induction n using Nat.strongRecOn with
  | _ n ih =>
    by_cases h : n < 10
    · exact ⟨48 + n, [], TL.numL_lt h, fun _ => rfl⟩
    · obtain ⟨c, r, e, hz⟩ := ih (n / 10) (by omega)
      rw [TL.numL_step (by omega), e]
      refine ⟨c, r ++ [48 + n % 10], rfl, fun hc => ?_⟩
      have hr := hz hc
      subst hr hc
      have hv := TL.numL_val (n / 10)
      rw [e] at hv
      have h0 : NumText.digitsVal [48] = 0 := by decide
      rw [h0] at hv
      omega
theorem rd_num {n : Nat} {r : List Nat} (hn : n < 65536) (hr : Free r) : Rd (TL.numL n ++ r) (some (.num n, (TL.numL n).length)) := by
  obtain ⟨c, d, e, hz⟩ := @numL_head n
  have hd := TL.numL_digits n
  have hin : ∀ x ∈ TL.numL n, inNm x = true := fun x hx => by
    have q := hd x hx
    unfold inNm isDig
    rw [decide_eq_true q.1, decide_eq_true q.2]
    simp
  have er : nmRun (TL.numL n ++ r) = TL.numL n := nmRun_app hin hr
  have hc : isDig c = true := by
    have q := hd c (by rw [e]; exact List.mem_cons_self)
    unfold isDig
    rw [decide_eq_true q.1, decide_eq_true q.2]
    rfl
  have hl : (TL.numL n).length ≤ 5 := TL.numL_len (by decide) (by omega)
  have hall : (TL.numL n).all isDig = true := by
    rw [List.all_eq_true]
    intro x hx
    have q := hd x hx
    unfold isDig
    rw [decide_eq_true q.1, decide_eq_true q.2]
    rfl
  have hv := TL.numL_val n
  rw [e] at er hl hall hv ⊢
  have er' : nmRun (c :: (d ++ r)) = c :: d := er
  have q := Rd.num (c := c) (r := d ++ r) hc (by rw [er']; exact hl) (by rw [er']; exact hall) (by rw [er', hv]; omega) (by
    rw [er']
    rintro ⟨h1, h2⟩
    rw [hz h1] at h2
    simp at h2)
  rw [er', hv] at q
  exact q
/-- what the law puts between tokens begins with a blank, a tab or a newline -/
theorem spc_head (n : Nat) : ∃ c r, spc n = c :: r ∧ isWs c = true := by
  have h : ∀ i, i < 6 → ∃ c r, codes (spcs.getD i (S [])) = c :: r ∧ isWs c = true := by
    intro i hi
    match i, hi with
    | 0, _ => exact ⟨32, [], by decide +kernel, by decide⟩
    | 1, _ => exact ⟨10, [], by decide +kernel, by decide⟩
    | 2, _ => exact ⟨9, [], by decide +kernel, by decide⟩
    | 3, _ => exact ⟨32, [32], by decide +kernel, by decide⟩
    | 4, _ => exact ⟨32, [35, 32, 61, 61, 32, 102, 117, 110, 10], by decide +kernel, by decide⟩
    | 5, _ => exact ⟨10, [10], by decide +kernel, by decide⟩
  exact h (n % 6) (Nat.mod_lt _ (by decide))
theorem ws_free {c : Nat} (h : isWs c = true) : inNm c = false ∧ c ≠ 61 := by
  unfold isWs at h
  simp only [Bool.or_eq_true, decide_eq_true_eq] at h
  rcases h with (h | h) | h <;> subst h <;> exact ⟨by decide, by decide⟩
theorem spc_free (n : Nat) (r : List Nat) : Free (spc n ++ r) := by
  obtain ⟨c, q, e, h⟩ := spc_head n
  intro d r' z
  rw [e] at z
  rw [← (List.cons.inj z).1]
  exact (ws_free h).1
theorem spc_lx (n : Nat) {r : List Nat} {k : Nat} {ts : List (Tk × Nat)} {e : Option Nat} (h : Lx r (k + (spc n).length) ts e) : Lx (spc n ++ r) k ts e := by
  have main : ∀ i, i < 6 → Lx r (k + (codes (spcs.getD i (S []))).length) ts e → Lx (codes (spcs.getD i (S [])) ++ r) k ts e := by
    intro i hi h
    match i, hi, h with
    | 0, _, h =>
      rw [show codes (spcs.getD 0 (S [])) = [32] by decide +kernel] at h ⊢
      exact .ws (by decide) h
    | 1, _, h =>
      rw [show codes (spcs.getD 1 (S [])) = [10] by decide +kernel] at h ⊢
      exact .ws (by decide) h
    | 2, _, h =>
      rw [show codes (spcs.getD 2 (S [])) = [9] by decide +kernel] at h ⊢
      exact .ws (by decide) h
    | 3, _, h =>
      rw [show codes (spcs.getD 3 (S [])) = [32, 32] by decide +kernel] at h ⊢
      exact .ws (by decide) (.ws (by decide) h)
    | 4, _, h =>
      rw [show codes (spcs.getD 4 (S [])) = [32, 35, 32, 61, 61, 32, 102, 117, 110, 10] by decide +kernel] at h ⊢
      refine .ws (by decide) (.com ?_)
      exact .ws (by decide) h
    | 5, _, h =>
      rw [show codes (spcs.getD 5 (S [])) = [10, 10] by decide +kernel] at h ⊢
      exact .ws (by decide) (.ws (by decide) h)
  exact main (n % 6) (Nat.mod_lt _ (by decide)) h
theorem rd_sign {i : Nat} (hi : i < 13) {c : Nat} {r : List Nat} (hc : c ≠ 61) : ∃ d w, codes (sgns.getD i (S [])) = d :: w ∧ isLet d = false ∧ isDig d = false ∧ d ≠ 34 ∧ isWs d = false ∧ d ≠ 35 ∧ sgnOf (d :: (w ++ c :: r)) = some (sgns.getD i (S [])) := by
  have hc' : (61 == c) = false := by simpa using fun z : 61 = c => hc z.symm
  have e1 : sgnOf (61 :: (c :: r)) = some (Str.ofString "=") := by
    unfold sgnOf sgns
    rw [List.find?_cons_of_neg (by show ¬ (codes (Str.ofString "==")).isPrefixOf (61 :: c :: r) = true; rw [show codes (Str.ofString "==") = [61, 61] by decide +kernel]; simp [List.isPrefixOf, hc'])]
    rw [List.find?_cons_of_pos (by show (codes (Str.ofString "=")).isPrefixOf (61 :: c :: r) = true; rw [show codes (Str.ofString "=") = [61] by decide +kernel]; simp [List.isPrefixOf])]
  have gen : ∀ (d : Nat) (q : List Nat), (sgns.all fun s => decide (codes s = [d]) || (match codes s with | [] => false | x :: _ => decide (x ≠ d))) = true → ∀ s, (sgns.filter fun s => decide (codes s = [d])) = [s] → sgnOf (d :: q) = some s := by
    intro d q h0 s hf
    have h : ∀ t ∈ sgns, codes t = [d] ∨ (∃ x y, codes t = x :: y ∧ x ≠ d) := by
      intro t ht
      have z := List.all_eq_true.mp h0 t ht
      rcases Bool.or_eq_true_iff.mp z with z | z
      · exact .inl (of_decide_eq_true z)
      · cases e : codes t with
        | nil => rw [e] at z; cases z
        | cons x y =>
          rw [e] at z
          exact .inr ⟨x, y, rfl, of_decide_eq_true z⟩
    unfold sgnOf
    have hp : ∀ t ∈ sgns, (codes t).isPrefixOf (d :: q) = decide (codes t = [d]) := by
      intro t ht
      rcases h t ht with e | ⟨x, y, e, hx⟩
      · rw [e]; simp [List.isPrefixOf]
      · rw [e]
        have h1 : (x == d) = false := by simpa using hx
        have h2 : decide (x :: y = [d]) = false := decide_eq_false fun z => hx (List.cons.inj z).1
        rw [h2]
        simp [List.isPrefixOf, h1]
    have fc : ∀ (l : List Str), (∀ t ∈ l, (codes t).isPrefixOf (d :: q) = decide (codes t = [d])) → l.find? (fun t => (codes t).isPrefixOf (d :: q)) = (l.filter fun t => decide (codes t = [d])).head? := by
      intro l
      induction l with
      | nil => intro _; rfl
      | cons t l ih =>
        intro hl
        have ht := hl t List.mem_cons_self
        have ih' := ih fun u hu => hl u (List.mem_cons_of_mem _ hu)
        by_cases hq : codes t = [d]
        · rw [List.find?_cons_of_pos (by rw [ht]; exact decide_eq_true hq), List.filter_cons_of_pos (by exact decide_eq_true hq)]
          rfl
        · rw [List.find?_cons_of_neg (by rw [ht, decide_eq_false hq]; exact Bool.false_ne_true), List.filter_cons_of_neg (by rw [decide_eq_false hq]; exact Bool.false_ne_true), ih']
    rw [fc sgns hp, hf]
    rfl
  match i, hi with
  | 0, _ =>
    refine ⟨61, [61], by decide +kernel, by decide, by decide, by decide, by decide, by decide, ?_⟩
    unfold sgnOf sgns
    rw [List.find?_cons_of_pos (by show (codes (Str.ofString "==")).isPrefixOf (61 :: 61 :: c :: r) = true; rw [show codes (Str.ofString "==") = [61, 61] by decide +kernel]; simp [List.isPrefixOf])]
    rfl
  | 1, _ => exact ⟨61, [], by decide +kernel, by decide, by decide, by decide, by decide, by decide, e1⟩
  | 2, _ => exact ⟨60, [], by decide +kernel, by decide, by decide, by decide, by decide, by decide, gen 60 (c :: r) (by decide +kernel) _ (by decide +kernel)⟩
  | 3, _ => exact ⟨43, [], by decide +kernel, by decide, by decide, by decide, by decide, by decide, gen 43 (c :: r) (by decide +kernel) _ (by decide +kernel)⟩
  | 4, _ => exact ⟨45, [], by decide +kernel, by decide, by decide, by decide, by decide, by decide, gen 45 (c :: r) (by decide +kernel) _ (by decide +kernel)⟩
  | 5, _ => exact ⟨42, [], by decide +kernel, by decide, by decide, by decide, by decide, by decide, gen 42 (c :: r) (by decide +kernel) _ (by decide +kernel)⟩
  | 6, _ => exact ⟨46, [], by decide +kernel, by decide, by decide, by decide, by decide, by decide, gen 46 (c :: r) (by decide +kernel) _ (by decide +kernel)⟩
  | 7, _ => exact ⟨44, [], by decide +kernel, by decide, by decide, by decide, by decide, by decide, gen 44 (c :: r) (by decide +kernel) _ (by decide +kernel)⟩
  | 8, _ => exact ⟨59, [], by decide +kernel, by decide, by decide, by decide, by decide, by decide, gen 59 (c :: r) (by decide +kernel) _ (by decide +kernel)⟩
  | 9, _ => exact ⟨40, [], by decide +kernel, by decide, by decide, by decide, by decide, by decide, gen 40 (c :: r) (by decide +kernel) _ (by decide +kernel)⟩
  | 10, _ => exact ⟨41, [], by decide +kernel, by decide, by decide, by decide, by decide, by decide, gen 41 (c :: r) (by decide +kernel) _ (by decide +kernel)⟩
  | 11, _ => exact ⟨123, [], by decide +kernel, by decide, by decide, by decide, by decide, by decide, gen 123 (c :: r) (by decide +kernel) _ (by decide +kernel)⟩
  | 12, _ => exact ⟨125, [], by decide +kernel, by decide, by decide, by decide, by decide, by decide, gen 125 (c :: r) (by decide +kernel) _ (by decide +kernel)⟩
theorem resv_fine : ∀ s ∈ resv, ∃ c w, codes s = c :: w ∧ isLet c = true ∧ (∀ d ∈ c :: w, inNm d = true) ∧ isRes (c :: w) = true ∧ (c :: w).length ≤ 20 := by
  have h : resv.all (fun s => match codes s with | [] => false | c :: w => isLet c && (c :: w).all inNm && isRes (c :: w) && decide ((c :: w).length ≤ 20)) = true := by decide +kernel
  intro s hs
  have q := List.all_eq_true.mp h s hs
  cases e : codes s with
  | nil => rw [e] at q; cases q
  | cons c w =>
    rw [e] at q
    simp only [Bool.and_eq_true, decide_eq_true_eq] at q
    exact ⟨c, w, rfl, q.1.1.1, fun d hd => List.all_eq_true.mp q.1.1.2 d hd, q.1.2, q.2⟩
theorem let_ws {c : Nat} (h : isLet c = true) : isWs c = false ∧ c ≠ 35 := by
  refine ⟨?_, fun z => by rw [z] at h; exact absurd h (by decide)⟩
  cases e : isWs c with
  | false => rfl
  | true =>
    have q := (ws_free e).1
    rw [let_in h] at q
    cases q
theorem dig_ws {c : Nat} (h : isDig c = true) : isWs c = false ∧ c ≠ 35 := by
  refine ⟨?_, fun z => by rw [z] at h; exact absurd h (by decide)⟩
  cases e : isWs c with
  | false => rfl
  | true =>
    have q := (ws_free e).1
    unfold inNm at q
    rw [h] at q
    simp at q
/-- a token of the law, behind it what the law puts there: it is read, and begins with no blank and no # -/
theorem law_rd (n m : Nat) (r : List Nat) : ∃ c q, (lawTk n).raw = c :: q ∧ isWs c = false ∧ c ≠ 35 ∧ Rd ((lawTk n).raw ++ (spc m ++ r)) (some (lawTk n, (lawTk n).raw.length)) := by
  have fr := spc_free m r
  have word : ∀ c w, isLet c = true → (∀ d ∈ c :: w, inNm d = true) → isRes (c :: w) = true → ∃ d q, (Tk.word (c :: w)).raw = d :: q ∧ isWs d = false ∧ d ≠ 35 ∧ Rd ((Tk.word (c :: w)).raw ++ (spc m ++ r)) (some (.word (c :: w), (Tk.word (c :: w)).raw.length)) := by
    intro c w hc hw hr
    exact ⟨c, w, rfl, (let_ws hc).1, (let_ws hc).2, (rd_word hc hw fr).1 hr⟩
  unfold lawTk
  by_cases h0 : n % 6 = 0
  · rw [if_pos h0]
    obtain ⟨c, w, e, hc, hw, hr, _⟩ := resv_fine (resv.getD (n / 6 % 21) (S [])) (getD_mem (Nat.mod_lt _ (by decide)))
    rw [e]
    exact word c w hc hw hr
  rw [if_neg h0]
  by_cases h1 : n % 6 = 1
  · rw [if_pos h1]
    by_cases hr : isRes (lw (n / 6)) = true
    · rw [if_pos hr]
      exact word _ _ (lw_head _) (lw_in _) hr
    · rw [if_neg hr]
      have hr' : isRes (lw (n / 6)) = false := by simpa using hr
      exact ⟨_, _, rfl, (let_ws (lw_head _)).1, (let_ws (lw_head _)).2, (rd_word (lw_head _) (lw_in _) fr).2 hr' (lw_len _)⟩
  rw [if_neg h1]
  by_cases h2 : n % 6 = 2
  · rw [if_pos h2]
    obtain ⟨c, d, e, _⟩ := @numL_head (n / 6 % 65536)
    have q := TL.numL_digits (n / 6 % 65536) c (by rw [e]; exact List.mem_cons_self)
    have hd : isDig c = true := by
      unfold isDig
      rw [decide_eq_true q.1, decide_eq_true q.2]
      rfl
    exact ⟨c, d, e, (dig_ws hd).1, (dig_ws hd).2, rd_num (Nat.mod_lt _ (by decide)) fr⟩
  rw [if_neg h2]
  by_cases h3 : n % 6 = 3
  · rw [if_pos h3]
    have q := rd_str (r := spc m ++ r) (lw_in (n / 6)) (List.cons_ne_nil _ _) (lw_len _)
    refine ⟨34, lw (n / 6) ++ [34], rfl, by decide, by decide, ?_⟩
    have el : (Tk.str (lw (n / 6))).raw.length = (lw (n / 6)).length + 2 := by
      show (34 :: (lw (n / 6) ++ [34])).length = _
      simp
    rw [el]
    exact q
  rw [if_neg h3]
  obtain ⟨c, q, e, hw⟩ := spc_head m
  obtain ⟨d, w, ed, a1, a2, a3, a4, a5, a6⟩ := rd_sign (i := n / 6 % 13) (Nat.mod_lt _ (by decide)) (c := c) (r := q ++ r) (ws_free hw).2
  refine ⟨d, w, ed, a4, a5, ?_⟩
  have z := Rd.sign (r := w ++ (c :: (q ++ r))) a1 a2 a3 a6
  show Rd (codes (sgns.getD (n / 6 % 13) (S [])) ++ (spc m ++ r)) (some (Tk.sign (codes (sgns.getD (n / 6 % 13) (S []))), (codes (sgns.getD (n / 6 % 13) (S []))).length))
  rw [e]
  rw [ed] at z ⊢
  have el : (sgns.getD (n / 6 % 13) (S [])).length = (d :: w).length := by
    rw [← ed]
    show (sgns.getD (n / 6 % 13) (S [])).cps.size = (sgns.getD (n / 6 % 13) (S [])).cps.toList.length
    simp
  rw [el] at z
  exact z
/-- THE PLAIN LAW: the text of some cells, then any text that is read from there on -/
theorem text_lx : ∀ (cs : List Nat) {k : Nat} {r : List Nat} {ts : List (Tk × Nat)} {e : Option Nat}, Lx r (k + (text cs).length) ts e → Lx (text cs ++ r) k (dues k cs ++ ts) e
  | [], k, r, ts, e, h => h
  | c :: cs, k, r, ts, e, h => by
    have el : k + (text (c :: cs)).length = k + (piece c).length + (text cs).length := by
      show k + (piece c ++ text cs).length = _
      rw [List.length_append]
      omega
    rw [el] at h
    have ih := text_lx cs (k := k + (piece c).length) h
    obtain ⟨d, q, ed, hw, hh, hr⟩ := law_rd c (c / 7) (text cs ++ r)
    have ep : k + (piece c).length = k + (lawTk c).raw.length + (spc (c / 7)).length := by
      show k + ((lawTk c).raw ++ spc (c / 7)).length = _
      rw [List.length_append]
      omega
    rw [ep] at ih
    have h2 := spc_lx (c / 7) ih
    have e2 : text (c :: cs) ++ r = (lawTk c).raw ++ (spc (c / 7) ++ (text cs ++ r)) := by
      show piece c ++ text cs ++ r = _
      unfold piece
      simp only [List.append_assoc]
    rw [e2]
    show Lx _ k ((lawTk c, k) :: (dues (k + (piece c).length) cs ++ ts)) e
    rw [ep]
    have e3 : (lawTk c).raw ++ (spc (c / 7) ++ (text cs ++ r)) = d :: (q ++ (spc (c / 7) ++ (text cs ++ r))) := by rw [ed]; rfl
    rw [e3] at hr ⊢
    refine .tok hw hh hr ?_
    rw [← e3, List.drop_left]
    exact h2
theorem text_whole (cs : List Nat) : Lx (text cs) 0 (dues 0 cs) none := by
  have h := text_lx cs (k := 0) (r := []) (ts := []) (e := none) .nil
  rw [List.append_nil, List.append_nil] at h
  exact h
theorem bad_rd (i : Nat) (hi : i < 12) : ∃ c r, codes (bads.getD i (S [])) ++ [32, 120] = c :: r ∧ isWs c = false ∧ c ≠ 35 ∧ Rd (c :: r) none := by
  match i, hi with
  | 0, _ => exact ⟨64, [32, 120], by decide +kernel, by decide, by decide, .signx (by decide) (by decide) (by decide) (by decide +kernel)⟩
  | 1, _ => exact ⟨54, [53, 53, 51, 54, 32, 120], by decide +kernel, by decide, by decide, .numx (by decide) (.inr (.inr (.inl (by decide +kernel))))⟩
  | 2, _ => exact ⟨48, [49, 32, 120], by decide +kernel, by decide, by decide, .numx (by decide) (.inr (.inr (.inr (by decide +kernel))))⟩
  | 3, _ => exact ⟨55, [97, 32, 120], by decide +kernel, by decide, by decide, .numx (by decide) (.inr (.inl (by decide +kernel)))⟩
  | 4, _ => exact ⟨34, [32, 120], by decide +kernel, by decide, by decide, .strx (.inl (by decide +kernel))⟩
  | 5, _ => exact ⟨34, [97, 32, 120], by decide +kernel, by decide, by decide, .strx (.inr (.inr (by decide +kernel)))⟩
  | 6, _ => exact ⟨34, [34, 32, 120], by decide +kernel, by decide, by decide, .strx (.inl (by decide +kernel))⟩
  | 7, _ => exact ⟨97, List.replicate 20 97 ++ [32, 120], by decide +kernel, by decide, by decide, .long (by decide) (by decide +kernel) (by decide +kernel)⟩
  | 8, _ => exact ⟨33, [32, 120], by decide +kernel, by decide, by decide, .signx (by decide) (by decide) (by decide) (by decide +kernel)⟩
  | 9, _ => exact ⟨34, List.replicate 21 98 ++ [34, 32, 120], by decide +kernel, by decide, by decide, .strx (.inr (.inl (by decide +kernel)))⟩
  | 10, _ => exact ⟨34, [97, 32, 98, 34, 32, 120], by decide +kernel, by decide, by decide, .strx (.inr (.inr (by decide +kernel)))⟩
  | 11, _ => exact ⟨36, [32, 120], by decide +kernel, by decide, by decide, .signx (by decide) (by decide) (by decide) (by decide +kernel)⟩
theorem text_bad (cs : List Nat) (i : Nat) (hi : i < 12) : Lx (text cs ++ (codes (bads.getD i (S [])) ++ [32, 120])) 0 (dues 0 cs) (some (text cs).length) := by
  obtain ⟨c, r, e, h1, h2, h3⟩ := bad_rd i hi
  rw [e]
  have h := text_lx cs (k := 0) (r := c :: r) (ts := []) (e := some (text cs).length) (by
    rw [Nat.zero_add]
    exact .bad h1 h2 h3)
  rw [List.append_nil] at h
  exact h
/-! ### lengths -/
theorem sgn_len (i : Nat) (hi : i < 13) : (codes (sgns.getD i (S []))).length ≤ 2 := by
  have h : sgns.all (fun s => decide ((codes s).length ≤ 2)) = true := by decide +kernel
  exact of_decide_eq_true (List.all_eq_true.mp h _ (getD_mem hi))
theorem raw_len (n : Nat) : (lawTk n).raw.length ≤ 22 := by
  unfold lawTk
  by_cases h0 : n % 6 = 0
  · rw [if_pos h0]
    obtain ⟨c, w, e, _, _, _, h⟩ := resv_fine (resv.getD (n / 6 % 21) (S [])) (getD_mem (Nat.mod_lt _ (by decide)))
    rw [e]
    exact Nat.le_trans h (by decide)
  rw [if_neg h0]
  by_cases h1 : n % 6 = 1
  · rw [if_pos h1]
    by_cases hr : isRes (lw (n / 6)) = true
    · rw [if_pos hr]
      exact Nat.le_trans (lw_len _) (by decide)
    · rw [if_neg hr]
      exact Nat.le_trans (lw_len _) (by decide)
  rw [if_neg h1]
  by_cases h2 : n % 6 = 2
  · rw [if_pos h2]
    exact Nat.le_trans (TL.numL_len (k := 5) (by decide) (by have := Nat.mod_lt (n / 6) (show 65536 > 0 by decide); omega)) (by decide)
  rw [if_neg h2]
  by_cases h3 : n % 6 = 3
  · rw [if_pos h3]
    show (34 :: (lw (n / 6) ++ [34])).length ≤ 22
    have := lw_len (n / 6)
    simp
    omega
  rw [if_neg h3]
  exact Nat.le_trans (sgn_len _ (Nat.mod_lt _ (by decide))) (by decide)
theorem spc_len (n : Nat) : (spc n).length ≤ 10 := by
  have h : spcs.all (fun s => decide ((codes s).length ≤ 10)) = true := by decide +kernel
  exact of_decide_eq_true (List.all_eq_true.mp h _ (getD_mem (Nat.mod_lt _ (by decide))))
theorem piece_len (n : Nat) : (piece n).length ≤ 32 := by
  unfold piece
  rw [List.length_append]
  have := raw_len n
  have := spc_len (n / 7)
  omega
theorem text_len : ∀ cs : List Nat, (text cs).length ≤ 32 * cs.length
  | [] => Nat.le_refl _
  | c :: cs => by
    show (piece c ++ text cs).length ≤ 32 * (cs.length + 1)
    rw [List.length_append]
    have := piece_len c
    have := text_len cs
    omega
theorem bad_len (i : Nat) (hi : i < 12) : (codes (bads.getD i (S []))).length ≤ 23 := by
  have h : bads.all (fun s => decide ((codes s).length ≤ 23)) = true := by decide +kernel
  exact of_decide_eq_true (List.all_eq_true.mp h _ (getD_mem hi))
/-! ### one more cell -/
theorem text_snoc : ∀ (cs : List Nat) (c : Nat), text (cs ++ [c]) = text cs ++ piece c
  | [], c => by
    show piece c ++ [] = piece c
    exact List.append_nil _
  | d :: cs, c => by
    show piece d ++ text (cs ++ [c]) = piece d ++ text cs ++ piece c
    rw [text_snoc cs c, List.append_assoc]
theorem dues_snoc : ∀ (cs : List Nat) (k c : Nat), dues k (cs ++ [c]) = dues k cs ++ [(lawTk c, k + (text cs).length)]
  | [], k, c => rfl
  | d :: cs, k, c => by
    show (lawTk d, k) :: dues (k + (piece d).length) (cs ++ [c]) = (lawTk d, k) :: (dues (k + (piece d).length) cs ++ [(lawTk c, k + (piece d ++ text cs).length)])
    rw [dues_snoc cs, List.length_append, Nat.add_assoc]
/-- is_name -/
def isNm (w : List Nat) : Bool := match w with
  | [] => false
  | c :: r => decide ((c :: r).length ≤ 20) && !isRes (c :: r) && isLet c && (c :: r).all inNm
def NmOk : Tk → Prop
  | .word w => isRes w = true
  | .name w => isNm w = true
  | _ => True
theorem law_nm (n : Nat) : NmOk (lawTk n) := by
  unfold lawTk
  by_cases h0 : n % 6 = 0
  · rw [if_pos h0]
    obtain ⟨c, w, e, _, _, h, _⟩ := resv_fine (resv.getD (n / 6 % 21) (S [])) (getD_mem (Nat.mod_lt _ (by decide)))
    rw [e]
    exact h
  rw [if_neg h0]
  by_cases h1 : n % 6 = 1
  · rw [if_pos h1]
    by_cases hr : isRes (lw (n / 6)) = true
    · rw [if_pos hr]
      exact hr
    · rw [if_neg hr]
      have hr' : isRes (lw (n / 6)) = false := by simpa using hr
      show isNm (lw (n / 6)) = true
      have hl := lw_len (n / 6)
      have hi : (lw (n / 6)).all inNm = true := List.all_eq_true.mpr (lw_in _)
      have hh := lw_head (n / 6)
      unfold lw at hr' hl hi ⊢
      show (decide (_ ≤ 20) && !isRes _ && isLet _ && List.all _ inNm) = true
      rw [decide_eq_true hl, hr', hh, hi]
      rfl
  rw [if_neg h1]
  by_cases h2 : n % 6 = 2
  · rw [if_pos h2]
    exact True.intro
  rw [if_neg h2]
  by_cases h3 : n % 6 = 3
  · rw [if_pos h3]
    exact True.intro
  rw [if_neg h3]
  exact True.intro
theorem dues_nm : ∀ (cs : List Nat) (k : Nat), ∀ p ∈ dues k cs, NmOk p.1
  | [], _, p, h => absurd h (by simp [dues])
  | c :: cs, k, p, h => by
    rcases List.mem_cons.mp h with rfl | h
    · exact law_nm c
    · exact dues_nm cs _ p h
theorem dues_len : ∀ (cs : List Nat) (k : Nat), (dues k cs).length = cs.length
  | [], _ => rfl
  | c :: cs, k => by
    show (dues _ cs).length + 1 = cs.length + 1
    rw [dues_len cs]
end Fa
set_option Elab.async false
set_option linter.all false
set_option maxRecDepth 100000
set_option maxHeartbeats 4000000
/-! What repr shows of the due list is short. No program here. -/
namespace Fa
open PySem
def tokD (p : Tk × Nat) : PyData := .tuple [.str p.1.kind, p.1.dat, .int ((p.2 : Nat) : Int)]
def listD (ts : List (Tk × Nat)) : PyData := .list (ts.map tokD)
structure Good (p : Tk × Nat) : Prop where
  short : (tokD p).leavesShort 13 = true
  light : (tokD p).weight ≤ 100
  shows : (tokD p).showable = true
  noDict : (tokD p).hasDict = false
  depth : (tokD p).depth ≤ 1
theorem log_le {k : Nat} (h : k < 2 ^ 20) : k.log2 < 20 := by
  by_cases z : k = 0
  · rw [z]; decide
  · exact (Nat.log2_lt z).mpr h
theorem abs_nat (k : Nat) : ((k : Nat) : Int).natAbs = k := rfl
theorem int_short {k : Nat} (h : k < 2 ^ 20) : PyData.leavesShort 13 (.int ((k : Nat) : Int)) = true := by
  simp only [PyData.leavesShort]
  exact decide_eq_true (PyData.shown_int_le (by rw [abs_nat]; omega))
theorem int_light {k : Nat} (h : k < 2 ^ 20) : PyData.weight (.int ((k : Nat) : Int)) ≤ 21 := by
  simp only [PyData.weight, abs_nat]
  have := log_le h
  split <;> omega
theorem int_shows {k : Nat} (h : k < 2 ^ 20) : PyData.showable (.int ((k : Nat) : Int)) = true := by
  simp only [PyData.showable, abs_nat]
  exact decide_eq_true (Nat.lt_trans (log_le h) (by decide))
theorem kind_fine (t : Tk) : t.kind.cps.toList.all (fun c => decide (c < 16 ^ 8)) = true ∧ t.kind.cps.size ≤ 6 := by
  have key : ∀ s ∈ (["word", "name", "number", "string", "sign"] : List Str), s.cps.toList.all (fun c => decide (c < 16 ^ 8)) = true ∧ s.cps.size ≤ 6 := by decide +kernel
  cases t with
  | word _ => exact key _ (.head _)
  | name _ => exact key _ (.tail _ (.head _))
  | num _ => exact key _ (.tail _ (.tail _ (.head _)))
  | str _ => exact key _ (.tail _ (.tail _ (.tail _ (.head _))))
  | sign _ => exact key _ (.tail _ (.tail _ (.tail _ (.tail _ (.head _)))))
/-- a token whose value is short and shows -/
theorem good_of {t : Tk} {k : Nat} (hk : k < 2 ^ 20) (h1 : t.dat.leavesShort 13 = true) (h2 : t.dat.weight ≤ 30) (h3 : t.dat.showable = true) (h4 : t.dat.hasDict = false) (h5 : t.dat.depth = 0) : Good (t, k) := by
  obtain ⟨k1, k2⟩ := kind_fine t
  have i1 := int_short hk
  have i2 := int_light hk
  have i3 := int_shows hk
  refine ⟨?_, ?_, ?_, ?_, ?_⟩
  · show PyData.leavesShort 13 (.tuple [_, _, _]) = true
    simp only [PyData.leavesShort, PyData.leavesShortAll] at i1 ⊢
    rw [h1]
    simp only [Bool.true_and, Bool.and_true, Bool.and_eq_true]
    exact ⟨k1, i1⟩
  · show PyData.weight (.tuple [.str t.kind, t.dat, .int ((k : Nat) : Int)]) ≤ 100
    have e : PyData.weight (.tuple [.str t.kind, t.dat, .int ((k : Nat) : Int)]) = t.kind.cps.size + 1 + (t.dat.weight + 1 + (PyData.weight (.int ((k : Nat) : Int)) + 1 + 0)) := by
      simp only [PyData.weight, PyData.weightAll]
    rw [e]
    omega
  · show PyData.showable (.tuple [_, _, _]) = true
    simp only [PyData.showable, PyData.showableAll] at i3 ⊢
    rw [h3]
    simp only [Bool.true_and, Bool.and_true]
    exact i3
  · show PyData.hasDict (.tuple [_, _, _]) = false
    simp only [PyData.hasDict, PyData.hasDictAll]
    rw [h4]
    rfl
  · show PyData.depth (.tuple [.str _, t.dat, .int _]) ≤ 1
    simp only [PyData.depth, PyData.depthAll]
    rw [h5]
    decide
theorem str_fine {w : List Nat} (h : ∀ c ∈ w, c < 256) (hl : w.length ≤ 22) : PyData.leavesShort 13 (.str (S w)) = true ∧ PyData.weight (.str (S w)) ≤ 30 ∧ PyData.showable (.str (S w)) = true ∧ PyData.hasDict (.str (S w)) = false ∧ PyData.depth (.str (S w)) = 0 := by
  refine ⟨?_, ?_, ?_, ?_, ?_⟩
  · simp only [PyData.leavesShort]
    refine List.all_eq_true.mpr fun c hc => decide_eq_true ?_
    exact Nat.lt_trans (h c hc) (by decide)
  · simp only [PyData.weight]
    show w.toArray.size ≤ 30
    rw [List.size_toArray]
    omega
  · simp only [PyData.showable]
  · simp only [PyData.hasDict]
  · simp only [PyData.depth]
theorem nm_small {c : Nat} (h : inNm c = true) : c < 256 := by
  unfold inNm isLet isDig at h
  simp only [Bool.or_eq_true, Bool.and_eq_true, decide_eq_true_eq] at h
  omega
theorem law_good (n : Nat) {k : Nat} (hk : k < 2 ^ 20) : Good (lawTk n, k) := by
  have word : ∀ w : List Nat, (∀ c ∈ w, c < 256) → w.length ≤ 22 → Good (.word w, k) ∧ Good (.name w, k) ∧ Good (.str w, k) ∧ Good (.sign w, k) := by
    intro w h hl
    obtain ⟨h1, h2, h3, h4, h5⟩ := str_fine h hl
    exact ⟨good_of hk h1 h2 h3 h4 h5, good_of hk h1 h2 h3 h4 h5, good_of hk h1 h2 h3 h4 h5, good_of hk h1 h2 h3 h4 h5⟩
  have lwf := word (lw (n / 6)) (fun c hc => nm_small (lw_in _ c hc)) (Nat.le_trans (lw_len _) (by decide))
  unfold lawTk
  by_cases h0 : n % 6 = 0
  · rw [if_pos h0]
    obtain ⟨c, w, e, _, hin, _, hl⟩ := resv_fine (resv.getD (n / 6 % 21) (S [])) (getD_mem (Nat.mod_lt _ (by decide)))
    rw [e]
    exact (word (c :: w) (fun d hd => nm_small (hin d hd)) (Nat.le_trans hl (by decide))).1
  rw [if_neg h0]
  by_cases h1 : n % 6 = 1
  · rw [if_pos h1]
    by_cases hr : isRes (lw (n / 6)) = true
    · rw [if_pos hr]
      exact lwf.1
    · rw [if_neg hr]
      exact lwf.2.1
  rw [if_neg h1]
  by_cases h2 : n % 6 = 2
  · rw [if_pos h2]
    have hm : n / 6 % 65536 < 2 ^ 20 := Nat.lt_of_lt_of_le (Nat.mod_lt _ (by decide)) (by decide)
    exact good_of hk (int_short hm) (Nat.le_trans (int_light hm) (by decide)) (int_shows hm) (by show PyData.hasDict (.int _) = false; simp only [PyData.hasDict]) (by show PyData.depth (.int _) = 0; simp only [PyData.depth])
  rw [if_neg h2]
  by_cases h3 : n % 6 = 3
  · rw [if_pos h3]
    exact lwf.2.2.1
  rw [if_neg h3]
  have hs : sgns.all (fun s => (codes s).all fun c => decide (c < 256)) = true := by decide +kernel
  have hm := List.all_eq_true.mp hs (sgns.getD (n / 6 % 13) (S [])) (getD_mem (Nat.mod_lt _ (by decide)))
  exact (word _ (fun c hc => of_decide_eq_true (List.all_eq_true.mp hm c hc)) (Nat.le_trans (sgn_len _ (Nat.mod_lt _ (by decide))) (by decide))).2.2.2
theorem dues_good : ∀ (cs : List Nat) (k : Nat), k + 32 * cs.length < 2 ^ 20 → ∀ p ∈ dues k cs, Good p
  | [], _, _, p, h => absurd h (by simp [dues])
  | c :: cs, k, hk, p, h => by
    rw [List.length_cons] at hk
    rcases List.mem_cons.mp h with rfl | h
    · exact law_good c (by omega)
    · have := piece_len c
      exact dues_good cs _ (by omega) p h
/-- the whole list: it shows, briefly, and holds no dict -/
theorem list_good (ts : List (Tk × Nat)) (h : ∀ p ∈ ts, Good p) (hl : ts.length ≤ 60) :
    (listD ts).showable = true ∧ (listD ts).hasDict = false ∧ (listD ts).depth ≤ 60 ∧ (listD ts).shown.length ≤ sizeLine := by
  have all : ∀ l : List (Tk × Nat), (∀ p ∈ l, Good p) → PyData.showableAll (l.map tokD) = true ∧ PyData.hasDictAll (l.map tokD) = false ∧ PyData.depthAll (l.map tokD) ≤ 1 ∧ PyData.leavesShortAll 13 (l.map tokD) = true ∧ PyData.weightAll (l.map tokD) ≤ 101 * l.length := by
    intro l
    induction l with
    | nil =>
      intro _
      refine ⟨?_, ?_, ?_, ?_, ?_⟩
      · simp only [List.map_nil, PyData.showableAll]
      · simp only [List.map_nil, PyData.hasDictAll]
      · simp only [List.map_nil, PyData.depthAll]; decide
      · simp only [List.map_nil, PyData.leavesShortAll]
      · simp only [List.map_nil, PyData.weightAll]; exact Nat.zero_le _
    | cons p l ih =>
      intro hp
      obtain ⟨a1, a2, a3, a4, a5⟩ := ih fun q hq => hp q (List.mem_cons_of_mem _ hq)
      have g := hp p List.mem_cons_self
      refine ⟨?_, ?_, ?_, ?_, ?_⟩
      · simp only [List.map_cons, PyData.showableAll]; rw [g.shows, a1]; rfl
      · simp only [List.map_cons, PyData.hasDictAll]; rw [g.noDict, a2]; rfl
      · simp only [List.map_cons, PyData.depthAll]; have := g.depth; omega
      · simp only [List.map_cons, PyData.leavesShortAll]; rw [g.short, a4]; rfl
      · simp only [List.map_cons, PyData.weightAll, List.length_cons]; have := g.light; omega
  obtain ⟨a1, a2, a3, a4, a5⟩ := all ts h
  have hw : (listD ts).weight ≤ 2 ^ 20 := by
    unfold listD
    simp only [PyData.weight]
    omega
  refine ⟨?_, ?_, ?_, PyData.shown_fits (B := 13) (by decide) (by decide) ?_ hw⟩
  · unfold listD; simp only [PyData.showable]; exact a1
  · unfold listD; simp only [PyData.hasDict]; exact a2
  · unfold listD; simp only [PyData.depth]; omega
  · unfold listD; simp only [PyData.leavesShort]; exact a4
theorem res_no {w : List Nat} (h : isRes w = true) : isNm w = false := by
  cases w with
  | nil => rfl
  | cons c r =>
    show (decide _ && !isRes (c :: r) && _ && _) = false
    rw [h]
    simp
end Fa
set_option Elab.async false
set_option linter.all false
set_option maxRecDepth 100000
set_option maxHeartbeats 4000000
/-! Malformed(module, at): its __init__ says super().__init__(str(module) + " " + str(at)), then stores two fields. Over the heap. -/
namespace Fa
open PySem PySem.W PySem.Calls PyProof.Rows PySem.HandSPX
def top (i : Nat) : Stmt := PySem.Challenge.pw_fascicle_k00_tokens.main.body.getD i (.Pass ⟨0, 0, 0, 0⟩)
abbrev sInit : Stmt := L2.inClass (top 2) 0
abbrev PR : Program := PySem.Challenge.pw_fascicle_k00_tokens
/-- what the written part says of Malformed, at C, and of its __init__, at fI -/
structure MalTxt (K : Frag) (mg : Str → Option Value) (C fI : Addr) : Prop where
  o : L2.OexC K C
  gC : mg "Malformed" = some (.ref C)
  iC : findIn K (.ref C) "__init__" = some (some (.ref fI))
  tI : typeIn K (.ref fI) = some (.type "function")
  nM : findIn K (.ref C) "module" = some none
  nA : findIn K (.ref C) "at" = some none
  xf : L2.XfC K C
  te : exmOne K (.ref C) (.ref C) = some true
  opq : nsIn K cStatics "thirdparty.any" = some none
  sup : ks_superIn K C C "__init__" = some (some (.builtin "ValueError.__init__"))
  isVE : subIn K (.ref C) (.type "ValueError") = some true
  own : mroIn K C (.ref C) = some true
  ms : mg "super" = none
  mt : mg "str" = none
  fn : ∃ (oc : Value) (od : Option Addr) (kV doc pm : Value) (an : Option Addr) (cda cc : Addr) (ct : Value) (osl : Array (Option Value)) (ccl : Value) (cdd : Option Addr) (vs : Array Value) (ccs : Array (Option Value)) (file : Str) (tf : Tok) (cl : Value) (cld : Option Addr) (csl : Array (Option Value)),
    K.lookup fI = some ⟨oc, od, .func (ksFn "__init__" "Malformed.__init__" (L2.defArgs sInit) (L2.defBody sInit) (L2.defScope sInit) .none kV doc pm an (.ref cda) ct cc), osl⟩ ∧ codeIn K (.ref cda) "Malformed.__init__" = true ∧
    K.lookup cda = some ⟨ccl, cdd, .fields vs, ccs⟩ ∧ vs[2]? = some (.str file tf) ∧ ((PR.main.file : Str) == file) = true ∧ K.lookup cc = some ⟨cl, cld, .cell (some (.ref C)), csl⟩
/-- what __init__ leaves of a fresh exception at x -/
structure MalEnd (h h' : Heap) (x C dx t1 : Addr) (vm va : Value) : Prop where
  keep : ∀ b o, b ≠ x → h.get? b = some o → h'.get? b = some o
  obj : h'.get? x = some { cls := .ref C, dict := some dx, data := .fields #[.ref t1, .none, .none, .none, .bool false, .none] }
  dbig : h.objs.size ≤ dx
  dne : dx ≠ x
  ns : h'.Ns1 dx (fun y => if y = "at" then some va else if y = "module" then some vm else none)
section
variable {w : World} {A : Around} {E : Value → Shared → Prop} {R : Result → Shared → Prop} {s : Shared} {K : Frag} {mg mb : Str → Option Value} {C fI : Addr}
theorem ldF {M : Model} {s : Shared} {env : Env} {m : Str → Option Value} {x : Str} {pos : Pos} {v : Value} {Q : Value → Shared → Prop} {A : Around} {E : Value → Shared → Prop} (hn : s.heap.Ns env.locals m) (hv : m x = some v) (h : Q v s)
    (hk : env.scope.kind = .function := by rfl) (hl : env.kindOf x = some .local := by rfl) (hd : (x == ("__debug__" : Str)) = false := by decide) : wpAny M A (eval (.Name x pos) env) Q E s :=
  wpAny_Name (wpAny_loadName_local hk hl hn hv h) hd
/-- the bound ValueError.__init__ at u called: x's arguments are laid anew -/
theorem super_called {u x t0 : Addr} {rest : List Value} {h : Heap} {g : Array GenState} {d : Drawn} {t : Nat} {os : OsState} {Q : Value → Shared → Prop} (T : MalTxt K mg C fI) (X : K.In h) (hx : h.get? x = some (excO C t0)) (hu : h.get? u = some (kxs_mw "ValueError.__init__" x))
    (hrest : rest.length ≤ sizeLine) (hq : ∀ h' t1, (∀ b o, b ≠ x → h.get? b = some o → h'.get? b = some o) → h'.get? x = some (excO C t1) → Q .none ⟨h', g, d, t, os⟩) :
    wpAny (model PR w) A (call (.ref u) rest) Q E ⟨h, g, d, t, os⟩ := by
  obtain ⟨nm, q, N, bs, bm, sn, sub, ab, col, dd, k0, k1, k2, k3, k5, hC, hbm⟩ := T.o.cls
  have FB := F.excBase_ValueError
  refine wpAny_call (codeAny_of_tree (show wpAny _ A.in1 (callAny (.ref u) ⟨rest, []⟩) _ _ _ from ?_))
  simp only [callAny]
  refine wpAny_bind (wpAny_load hu ?_)
  dsimp only [kxs_mw]
  refine KFB.if_so (by decide) ?_
  refine wpAny_bind (check_bound_init FB.toExcCallFacts (X _ _ hC) hx rfl (wpAny_bind (wpAny_pure (wpAny_pure ⟨plainId_quiet FB.init.plain _, codeAny_builtin FB.initEntry ?_⟩))))
  wp_walk
  refine hq _ h.objs.size (fun b o hb ho => ?_) ?_
  · exact (Heap.get?_update_other _ _ (Ne.symm hb)).trans (Heap.get?_push_of_some _ ho)
  · exact (Heap.get?_update_self _ (Heap.get?_push_of_some _ hx) rfl).trans rfl
theorem log_small {a : Int} (h0 : 0 ≤ a) (h1 : a < 10 ^ 10) : a.natAbs.log2 < 1920 := by
  by_cases z : a.natAbs = 0
  · rw [z]; decide
  · refine (Nat.log2_lt z).mpr (Nat.lt_of_lt_of_le (m := 2 ^ 40) ?_ (Nat.pow_le_pow_right (by decide) (by decide)))
    omega
theorem app_len (a b : Str) : (a ++ b).length = a.length + b.length := by
  show (a.cps ++ b.cps).size = a.cps.size + b.cps.size
  exact Array.size_append
theorem ns_but {h h' : Heap} {L x : Addr} {m : Str → Option Value} (hn : h.Ns L m) (k : ∀ b o, b ≠ x → h.get? b = some o → h'.get? b = some o) (ne : L ≠ x) : h'.Ns L m := by
  obtain ⟨o, es, ep, ho, r⟩ := hn
  exact ⟨o, es, ep, k _ _ ne ho, r⟩
theorem in_but {h h' : Heap} {x : Addr} (X : K.In h) (hx : K.lookup x = none) (k : ∀ b o, b ≠ x → h.get? b = some o → h'.get? b = some o) : K.In h' := by
  intro a o e
  refine k a o (fun z => ?_) (X a o e)
  rw [z, hx] at e
  cases e
theorem sc_nocell : ∀ y ∈ (L2.defScope sInit).names, y.2 ≠ .cell := by decide +kernel
theorem sc_loc : ∀ n ∈ (["self", "module", "at"] : List Str), (L2.defScope sInit).names.lookup n = some .local := by decide +kernel
theorem mal_init (T : MalTxt K mg C fI) {x t0 : Addr} {m : Str} {a : Int} {tm ta : Tok} (X : K.In s.heap) (G : s.heap.Ns mainGlobals mg) (B : s.heap.Ns builtinsNs mb) (hb : ∀ y : Str, y ≠ "__name__" → mb y = bootBuiltins y) (hlim : s.heap.NoLimit)
    (hnx : K.lookup x = none) (hx : s.heap.get? x = some (excO C t0)) (hroom : A.depth < recursionLimit) (hm : m.length ≤ 1000) (ha0 : 0 ≤ a) (ha1 : a < 10 ^ 10)
    (hq : ∀ h' tk dx t1, MalEnd s.heap h' x C dx t1 (.str m tm) (.int a ta) → R (.ok (.ret .none)) { s with heap := h', toks := tk }) :
    codeAny (model PR w) A (.call (.ref fI) ⟨[.ref x, .str m tm, .int a ta], []⟩) R s := by
  obtain ⟨oc, od, kV, doc, pm, an, cda, cc, ct, osl, ccl, cdd, vs, ccs, file, tf, cl, cld, csl, lk, hcd, lc, hvs, hfile, lcc⟩ := T.fn
  obtain ⟨nm, q, N, bs, bm, sn, sub, ab, col, dd, k0, k1, k2, k3, k5, hC, hbm⟩ := T.o.cls
  have hcl : clsIn K C = some { name := nm, bases := bs, mro := .ref C :: bm, ns := N, qualname := q, hasDict := true, slotNames := sn, subclasses := sub, abstract := ab, collection := col, hasDel := false } := by unfold clsIn; rw [hC] <;> rfl
  have hrefs : refsVE (.ref C :: bm) = true := hbm
  refine ks_codeAny_call_defAt (binds := [("self", .ref x), ("module", .str m tm), ("at", .int a ta)]) hroom (X _ _ lk) rfl hlim (codeRec_of X hcd) rfl (BindsTo.of_eq (by first | rfl | with_unfolding_all rfl)) sc_nocell (fun y hy => sc_loc y.1 (List.mem_map_of_mem (f := Prod.fst) hy)) (fun h₀ hns k₀ => ?_) rfl rfl rfl
  have X₀ : K.In h₀ := X.keeps k₀
  have hx₀ := k₀ _ _ hx
  have G₀ := G.keeps k₀
  have B₀ := B.keeps k₀
  -- super().__init__(str(module) + " " + str(at))
  show _root_.PySem.wpAt _ _ _ (execs (_ :: _) _) _ _ _
  refine ks_wpAt_execs_cons (ks_wpAt_Expr_any (ks_wpAt_MethodCall ?_))
  refine ks_wpAt_super_base (env := callEnv _ s.heap.objs.size fI) rfl rfl rfl rfl (X₀ _ _ lk) rfl rfl rfl (X₀ _ _ lc) rfl hvs hfile (by decide +kernel) ?_
  refine ks_loadName_global rfl rfl (loadGlobal_builtin (env := callEnv _ s.heap.objs.size fI) G₀ T.ms B₀ ((hb _ (by decide +kernel)).trans (by decide +kernel)) ⟨rfl, ?_⟩)
  refine wpAny_loadName_free rfl rfl rfl ⟨_, X₀ _ _ lcc, rfl⟩ ?_
  refine wpAny_loadName_local rfl rfl hns (v := .ref x) (by first | rfl | with_unfolding_all rfl) ?_
  refine ks_wpAny_isType_cls (X₀ _ _ hC) rfl ⟨rfl, ?_⟩
  refine ks_wpAny_call_super (X₀ _ _ hC) rfl hx₀ rfl (fun c z => by cases z) (looks_mroIn X₀ T.own) (fun h₁ e₁ k₁ => ?_)
  have X₁ : K.In h₁ := X₀.keeps k₁
  have G₁ := G₀.keeps k₁
  have B₁ := B₀.keeps k₁
  have hx₁ := k₁ _ _ hx₀
  have I₁ : InstAt h₁ x (excO C t0) C none := ⟨hx₁, rfl, rfl, trivial⟩
  have hf : alongIn K "__init__" (((.ref C :: bm).dropWhile (· != .ref C)).drop 1) = some (some (.builtin "ValueError.__init__")) := by
    have z := T.sup
    unfold ks_superIn at z
    rw [hcl] at z
    exact z
  refine kxs_getMethod kxs_ValueError e₁ (looks_opaque X₁ T.opq) (l₀ := .ref C :: bm) (fun A Q E s k q => wpAny_bind ((looks_clsIn X₁ hcl) A _ E s k (wpAny_pure q))) rfl X₁ hf (I₁.type.andThen (looks_subIn X₁ T.isVE)) (ks_ne X₁ I₁ hcl) (by decide) ?_
  have k₂ : ∀ b o, h₁.get? b = some o → (h₁.push (kxs_mw "ValueError.__init__" x)).get? b = some o := fun b o z => Heap.get?_push_of_some _ z
  have hu₂ : (h₁.push (kxs_mw "ValueError.__init__" x)).get? h₁.objs.size = some (kxs_mw "ValueError.__init__" x) := Heap.get?_push_at rfl rfl
  have G₂ := G₁.keeps k₂
  have B₂ := B₁.keeps k₂
  have ns₂ := (hns.keeps k₁).keeps k₂
  have hstr : mb "str" = some (.type "str") := (hb _ (by decide +kernel)).trans (by decide +kernel)
  refine kxs_callWith (i := "ValueError.__init__") (x := x) rfl (evalArgs_plain (x := eval _ _) (rest := []) (spliced_cons ?_))
  refine wpAny_BinOp (wpAny_BinOp (Call_ (wpAny_Name (ks_loadName_global rfl rfl (loadGlobal_builtin G₂ T.mt B₂ hstr (PyProof.Rows.callWith_type1 (spliced_cons (ldF ns₂ (v := .str m tm) (by first | rfl | with_unfolding_all rfl) (spliced_nil (PySem.P.str_of_str ?_))))))))))
  have e1 : (Str.ofString " ").length = 1 := by decide +kernel
  have e2 : (Str.ofString (toString a)).length ≤ 10 := PyProof.Rows.toString_length_le ha0 (by decide) ha1
  have hsz : (1100 : Nat) ≤ sizeLine := by rw [sizeLine_eq]; decide
  refine Calls.Constant_str (PyProof.Rows.add_str (fun t1 tk1 => ?_) (by rw [e1]; omega))
  refine Call_ (wpAny_Name (ks_loadName_global rfl rfl (loadGlobal_builtin G₂ T.mt B₂ hstr (PyProof.Rows.callWith_type1 (spliced_cons (ldF ns₂ (v := .int a ta) (by first | rfl | with_unfolding_all rfl) (spliced_nil (PySem.P.str_of_int (log_small ha0 ha1) ?_))))))))
  refine PyProof.Rows.add_str (fun t2 tk2 => ?_) (by rw [app_len, e1]; omega)
  refine spliced_nil ⟨hu₂, ?_⟩
  have X₂ : K.In (h₁.push (kxs_mw "ValueError.__init__" x)) := X₁.keeps k₂
  refine super_called T X₂ (k₂ _ _ hx₁) hu₂ (by show 1 ≤ sizeLine; omega) (fun h₃ t3 k₃ hx₃ => ?_)
  have xL : s.heap.objs.size ≠ x := Nat.ne_of_gt (Heap.lt_size hx)
  have ns₃ := ns_but ns₂ k₃ xL
  have X₃ : K.In h₃ := in_but X₂ hnx k₃
  have z₃ : s.heap.objs.size < h₃.objs.size := ns₃.lt
  -- self.module = module
  refine wpAt_of_wpAny (wpAny_execs_cons (plainObj_wpAny_Assign_Attribute ?_))
  refine ldF ns₃ (v := .str m tm) (by first | rfl | with_unfolding_all rfl) (ldF ns₃ (v := .ref x) (by first | rfl | with_unfolding_all rfl) ?_)
  refine set_plain X₃ (ox := excO C t3) (od := none) ⟨hx₃, rfl, rfl, trivial⟩ T.o.sa ?_
  refine exc_osa X₃ hx₃ hcl hrefs rfl T.nM (fun h₄ tk₄ dx k₄ dn dne hx₄ hn₄ => ?_)
  have ns₄ := ns_but ns₃ k₄ xL
  have X₄ : K.In h₄ := in_but X₃ hnx k₄
  have hw : Within (fun y : Str => if y = "module" then some (Value.str m tm) else none) ["module"] := Within.cons _ _ Within.nil
  obtain ⟨oD, _, _, hoD, _, _⟩ := hn₄.count hw
  -- self.at = at
  refine wpAny_execs_cons (plainObj_wpAny_Assign_Attribute ?_)
  refine ldF ns₄ (v := .int a ta) (by first | rfl | with_unfolding_all rfl) (ldF ns₄ (v := .ref x) (by first | rfl | with_unfolding_all rfl) ?_)
  refine set_plain X₄ (od := some oD) ⟨hx₄, rfl, rfl, hoD⟩ T.o.sa ?_
  refine PySem.OEX.osa_old X₄ hx₄ hn₄ hw (by decide) hcl hrefs rfl T.nA (fun h₅ tk₅ k₅ hn₅ => ?_)
  have old : ∀ b, b < s.heap.objs.size → b ≠ dx := fun b hb => Nat.ne_of_lt (Nat.lt_of_lt_of_le (Nat.lt_trans hb z₃) dn)
  refine wpAny_execs_nil (hq h₅ tk₅ dx t3 ⟨fun b o hb ho => ?_, k₅ _ _ (Ne.symm dne) hx₄, Nat.le_of_lt (Nat.lt_of_lt_of_le z₃ dn), dne, hn₅⟩)
  exact k₅ b o (old b (Heap.lt_size ho)) (k₄ b o hb (k₃ b o hb (k₂ b o (k₁ b o (k₀ b o ho)))))
/-- a made Malformed at e, its fields in the dict at d -/
structure MadeMal (h h' : Heap) (e C d : Addr) (vm va : Value) : Prop where
  keep : ∀ b o, h.get? b = some o → h'.get? b = some o
  new : h.objs.size ≤ e
  obj : ∃ t1, h'.get? e = some { cls := .ref C, dict := some d, data := .fields #[.ref t1, .none, .none, .none, .bool false, .none] }
  dbig : h.objs.size ≤ d
  dne : d ≠ e
  ns : h'.Ns1 d (fun y => if y = "at" then some va else if y = "module" then some vm else none)
theorem mal_made (T : MalTxt K mg C fI) {m : Str} {a : Int} {tm ta : Tok} (X : K.In s.heap) (G : s.heap.Ns mainGlobals mg) (B : s.heap.Ns builtinsNs mb) (hb : ∀ y : Str, y ≠ "__name__" → mb y = bootBuiltins y) (hlim : s.heap.NoLimit)
    (hroom : A.depth + 1 < recursionLimit) (hm : m.length ≤ 1000) (ha0 : 0 ≤ a) (ha1 : a < 10 ^ 10)
    (hq : ∀ h' tk e d, MadeMal s.heap h' e C d (.str m tm) (.int a ta) → R (.ok (.ret (.ref e))) { s with heap := h', toks := tk }) :
    codeAny (model PR w) A (.call (.ref C) ⟨[.str m tm, .int a ta], []⟩) R s := by
  obtain ⟨nm, q, N, bs, bm, sn, sub, ab, col, dd, k0, k1, k2, k3, k5, hC, hbm⟩ := T.o.cls
  obtain ⟨hp, g, dr, tk, os⟩ := s
  have two : ([.str m tm, .int a ta] : List Value).length ≤ sizeLine := by rw [sizeLine_eq]; exact (by decide : 2 ≤ 16777216)
  have kk : ∀ b o, hp.get? b = some o → ((hp.push (kdv_tup [.str m tm, .int a ta])).push (excO C hp.objs.size)).get? b = some o := fun b o z => Heap.get?_push_of_some _ (Heap.get?_push_of_some _ z)
  have fresh : K.lookup (hp.objs.size + 1) = none := by
    cases z : K.lookup (hp.objs.size + 1) with
    | none => rfl
    | some o => exact absurd (Nat.lt_of_succ_lt (Heap.lt_size (X _ _ z))) (Nat.lt_irrefl _)
  have there : ((hp.push (kdv_tup [.str m tm, .int a ta])).push (excO C hp.objs.size)).get? (hp.objs.size + 1) = some (excO C hp.objs.size) := by heap_get
  refine call_own F.excBase_ValueError (fun Y => refsVE_contains Y bm hbm) (X _ _ hC) (looks_findIn X T.iC) (fun self => bind_fn X self T.tI) two ?_
  refine mal_init (s := ⟨(hp.push (kdv_tup [.str m tm, .int a ta])).push (excO C hp.objs.size), g, dr, tk, os⟩) T (X.keeps kk) (G.keeps kk) (B.keeps kk) hb (hlim.keeps kk) fresh there (by show A.depth + 1 < recursionLimit; exact hroom) hm ha0 ha1 fun h' tk' dx t1 D => ?_
  have up : hp.objs.size + 1 + 1 ≤ dx := by simpa only [Heap.size_push] using D.dbig
  refine ⟨rfl, hq h' tk' (hp.objs.size + 1) dx ⟨fun b o z => D.keep b o (Nat.ne_of_lt (Nat.lt_succ_of_lt (Heap.lt_size z))) (kk b o z), Nat.le_succ _, ⟨t1, D.obj⟩, ?_, D.dne, D.ns⟩⟩
  show hp.objs.size ≤ dx
  omega
end
end Fa
namespace L2
open PySem PySem.Spec PyProof.Rows
/-- the fields that Malformed(m, a) has -/
def malF (m : Str) (a : Int) : List (Str × V) := [("at", .int a), ("module", .str m)]
section
variable {X : Cx} {C fI : Addr}
/-- Malformed(m, a) -/
def tMkMal (C : Addr) (ta : TA) : St → Hp → XK → Prop := fun σ H Q => ta σ H fun vs H1 => ∃ (m : Str) (a : Int), vs = [.str m, .int a] ∧ m.length ≤ 1000 ∧ 0 ≤ a ∧ a < 10 ^ 10 ∧ ∀ d, H1 d = none → Q (.ref C) (some d) (upd H1 d (.xd (malF m a)))
theorem pmk_mal {e : Expr} {es : List Expr} {ta : TA} {p pos : Pos} {k : Nat} (hP : X.prog = Fa.PR) (T : Fa.MalTxt X.K X.mg C fI) (hr : Room k X.A) (ha : PA X (e :: es) ta) (hg : Gl X "Malformed" := by rfl)
    (he : starEach (e :: es) X.env = (false, eval e X.env) :: starEach es X.env := by rfl) (hpl : (backTo pos (starEach es X.env)).any (·.1) = false := by rfl) :
    PMk X (.Call (.Name "Malformed" p) (e :: es) [] pos) (tMkMal C ta) := by
  intro pins s σ H Q I h
  refine wpAny_Call_Name_kw (ld_glob I hg T.gC ?_)
  refine PySem.W.callWith_K (h₀ := X.base) I.ok.mod.kin T.o.kC (thn (ha.run pos pins s σ H _ I h) fun us s1 ⟨vs, H1, I1, r1, m, a, ev, hm, h0, h1, q1⟩ => ⟨I1.kIn, ?_⟩) he hpl
  subst ev
  obtain ⟨u1, u2, rfl, rm, ra⟩ : ∃ u1 u2, us = [u1, u2] ∧ RelV (.str m) u1 ∧ RelV (.int a) u2 := by
    cases r1 with
    | cons x y =>
      cases y with
      | cons x' y' =>
        cases y'
        exact ⟨_, _, rfl, x, x'⟩
  obtain ⟨tm, rfl⟩ := rm
  obtain ⟨tA, rfl⟩ := ra
  obtain ⟨mb, hB, hbb⟩ := I1.mod.blt
  have hG := I1.mod.glob.keeps I1.bk
  have hBk := hB.keeps I1.bk
  have hlim := I1.nolimit
  have hk := I1.kIn
  obtain ⟨hp, g, dr, tk, os⟩ := s1
  rw [hP]
  refine wpAny_call (Fa.mal_made T hk hG hBk hbb hlim (by have := hr.dp; omega) hm h0 h1 fun h' tk' e d M => ?_)
  show MkP X pins σ Q (.ref e) ⟨h', g, dr, tk', os⟩
  obtain ⟨t1, hoe⟩ := M.obj
  obtain ⟨G', g1, g2⟩ := restrict h' fun b => decide (b ≠ e)
  have gk : ∀ b, b ≠ e → G'.get? b = h'.get? b := fun b hb => g1 b (decide_eq_true hb)
  have ge : G'.get? e = none := g2 e (by simp)
  have lt : ∀ b o, hp.get? b = some o → b ≠ e := fun b o z => Nat.ne_of_lt (Nat.lt_of_lt_of_le (Heap.lt_size z) M.new)
  have old : ∀ b o, hp.get? b = some o → G'.get? b = some o := fun b o z => (gk b (lt b o z)).trans (M.keep b o z)
  have rel : ∀ f, RelO ((malF m a).lookup f) (if f = "at" then some (Value.int a tA) else if f = "module" then some (Value.str m tm) else none) :=
    relO_put (f := "at") (y := .int a) ⟨tA, rfl⟩ (relO_put (f := "module") (y := .str m) (fs := []) (mA := fun _ => none) ⟨tm, rfl⟩ fun _ => True.intro)
  have ob : ObjOk X.prog X.w (upd H1 d (.xd (malF m a))) G' d (.xd (malF m a)) := ⟨_, M.ns.at (fun o z => (gk d M.dne).trans z), rel⟩
  have J : Inv X pins σ (upd H1 d (.xd (malF m a))) ⟨G', g, dr, tk', os⟩ := I1.laid (t' := tk') old M.dbig ob
  refine ⟨e, _, _, ⟨G', g, dr, tk', os⟩, _, .ref C, some d, rfl, J, fun b o z => ?_, ge, hoe, ⟨rfl, rfl⟩, rfl, rfl, ?_, rfl, I1.bare, raises_own T.o.exC T.o.tyC, q1 d (I1.hok.fresh M.dbig)⟩
  · have hb : b ≠ e := fun y => by
      have z' : G'.get? b = some o := z
      rw [y, ge] at z'
      cases z'
    exact (gk b hb).symm.trans z
  · rw [upd_ne (Ne.symm M.dne)]
    exact I1.hok.fresh M.new
/-- raise Malformed(m, a) -/
def tRaiseMal (C : Addr) (W : WX) (ta : TA) : TS := fun _ σ H => tMkMal C ta σ H fun cls d H' => W cls d σ H'
theorem ps_raiseMal {e : Expr} {es : List Expr} {ta : TA} {W : WX} {p pos pos2 : Pos} {k : Nat} (hc : X.calm = true) (hP : X.prog = Fa.PR) (T : Fa.MalTxt X.K X.mg C fI) (hr : Room k X.A) (tk : Takes X W) (ha : PA X (e :: es) ta) (hg : Gl X "Malformed" := by rfl)
    (he : starEach (e :: es) X.env = (false, eval e X.env) :: starEach es X.env := by rfl) (hpl : (backTo pos (starEach es X.env)).any (·.1) = false := by rfl) :
    PS X (.Raise (some (.Call (.Name "Malformed" p) (e :: es) [] pos)) none pos2) (tRaiseMal C W ta) := ps_raise hc tk (pmk_mal hP T hr ha hg he hpl)
end
end L2
set_option Elab.async false
set_option linter.all false
set_option maxRecDepth 100000
set_option maxHeartbeats 4000000
/-! The lexer's small defs: signs, runs. -/
namespace Fa
open PySem PySem.Spec PyProof.Rows L2
/-! ### signs -/
theorem lt1 (a b : Nat) : ([a] < [b]) ↔ a < b := by
  constructor
  · intro h
    cases h with
    | rel h => exact h
    | cons h => cases h
  · intro h
    exact List.Lex.rel h
theorem le_txt (x : Nat) (z : Str) (c : Nat) (hz : z.cps.toList = [x]) : (!decide ((⟨#[c]⟩ : Str).cps.toList < z.cps.toList)) = decide (x ≤ c) := by
  rw [hz]
  have h : ((⟨#[c]⟩ : Str).cps.toList < [x]) ↔ c < x := lt1 c x
  by_cases q : c < x
  · rw [decide_eq_true (h.mpr q), decide_eq_false (show ¬ x ≤ c by omega)] <;> rfl
  · rw [decide_eq_false (fun z => q (h.mp z)), decide_eq_true (show x ≤ c by omega)] <;> rfl
theorem ge_txt (x : Nat) (z : Str) (c : Nat) (hz : z.cps.toList = [x]) : (!decide (z.cps.toList < (⟨#[c]⟩ : Str).cps.toList)) = decide (c ≤ x) := by
  rw [hz]
  have h : ([x] < (⟨#[c]⟩ : Str).cps.toList) ↔ x < c := lt1 x c
  by_cases q : x < c
  · rw [decide_eq_true (h.mpr q), decide_eq_false (show ¬ c ≤ x by omega)] <;> rfl
  · rw [decide_eq_false (fun z => q (h.mp z)), decide_eq_true (show c ≤ x by omega)] <;> rfl
theorem eq_txt (x : Nat) (z : Str) (c : Nat) (hz : z.cps.toList = [x]) : decide (V.str ⟨#[c]⟩ = V.str z) = decide (c = x) := by
  have e : z = (⟨#[x]⟩ : Str) := by
    have q : z = S z.cps.toList := (S_codes z).symm
    rw [hz] at q
    exact q
  rw [e]
  by_cases q : c = x
  · subst q
    rw [decide_eq_true rfl, decide_eq_true rfl]
  · rw [decide_eq_false (fun y => q ?_), decide_eq_false q]
    have y1 := V.str.inj y
    have y2 := congrArg (fun s : Str => s.cps.toList) y1
    exact (List.cons.inj y2).1
theorem ifT {c : Bool} {A B : Prop} (hc : c = true) (h : A) : if c = true then A else B := (if_pos hc).mpr h
theorem ifF {c : Bool} {A B : Prop} (hc : c = false) (h : B) : if c = true then A else B := by
  subst hc
  exact iteF h
abbrev rLeS : R2 := fun x y H Q => ∃ i j, x = .str i ∧ y = .str j ∧ Q (.bl (!decide (j.cps.toList < i.cps.toList))) H
/-- 'a' <= char <= 'b' -/
theorem chain_read {σ : L2.St} {H : Hp} {Q : VK} {c : Nat} (i : Nat) {x y : Str} (a b : Nat) (hs : σ[i]? = some (some (.str ⟨#[c]⟩))) (hx : x.cps.toList = [a]) (hy : y.cps.toList = [b]) (q : Q (.bl (decide (a ≤ c) && decide (c ≤ b))) H) :
    tChain rLeS rLeS (tC (.str x)) (tVar i) (tC (.str y)) σ H Q := by
  refine ⟨_, hs, x, _, rfl, rfl, _, rfl, ?_⟩
  rw [le_txt a x c hx]
  cases e : decide (a ≤ c) with
  | false =>
    rw [e] at q
    exact iteF q
  | true =>
    rw [e] at q
    refine iteT ⟨_, y, rfl, rfl, ?_⟩
    rw [ge_txt b y c hy]
    exact q
section
variable {w : World} {K : PySem.W.Frag} {mg : Str → Option Value} {base : Heap}
/-- a def of the program's top -/
abbrev FN (K : PySem.W.Frag) (x : Str) (i : Nat) (f : Addr) (fd : FuncData) : Prop := Fun K x x (top i) f fd
/-! ### is_letter, is_digit, in_name -/
theorem scLet : FnScope ["char"] ["char"] (defScope (top 9)) := ⟨rfl, rfl, rfl, by decide +kernel, rfl, by decide +kernel, by decide +kernel⟩
def spLet : Sp := fun vs H Q _ => ∃ c : Nat, vs = [.str ⟨#[c]⟩] ∧ Q (.bl (isLet c)) H
theorem ok_let {f : Addr} {fd : FuncData} (F : FN K "is_letter" 9 f fd) : FnOk PR w K mg base CX0 1 f fd ["char"] spLet := by
  refine F.ok scLet (fun vs H Q E h => ?_) (fun cdv A outer s H vs Q E hr h => ?_)
  · obtain ⟨c, rfl, _⟩ := h
    rfl
  · obtain ⟨c, rfl, q⟩ := h
    refine ⟨_, pss_one (ps_ret (pe_or (pe_chain op_le_str op_le_str pe_str (pv 0) pe_str) (pe_one (pe_chain op_le_str op_le_str pe_str (pv 0) pe_str)))), ?_⟩
    dsimp only [tRet, tOrV]
    refine chain_read (c := c) 0 97 122 rfl (by decide +kernel) (by decide +kernel) ?_
    refine ⟨_, rfl, ?_⟩
    unfold isLet at q
    cases e : decide (97 ≤ c) && decide (c ≤ 122) with
    | true =>
      rw [e] at q
      exact iteT q
    | false =>
      rw [e] at q
      exact iteF (chain_read 0 65 90 rfl (by decide +kernel) (by decide +kernel) q)
theorem scDig : FnScope ["char"] ["char"] (defScope (top 10)) := ⟨rfl, rfl, rfl, by decide +kernel, rfl, by decide +kernel, by decide +kernel⟩
def spDig : Sp := fun vs H Q _ => ∃ c : Nat, vs = [.str ⟨#[c]⟩] ∧ Q (.bl (isDig c)) H
theorem ok_dig {f : Addr} {fd : FuncData} (F : FN K "is_digit" 10 f fd) : FnOk PR w K mg base CX0 1 f fd ["char"] spDig := by
  refine F.ok scDig (fun vs H Q E h => ?_) (fun cdv A outer s H vs Q E hr h => ?_)
  · obtain ⟨c, rfl, _⟩ := h
    rfl
  · obtain ⟨c, rfl, q⟩ := h
    refine ⟨_, pss_one (ps_ret (pe_chain op_le_str op_le_str pe_str (pv 0) pe_str)), ?_⟩
    exact chain_read 0 48 57 rfl (by decide +kernel) (by decide +kernel) q
theorem scIn : FnScope ["char"] ["char"] (defScope (top 11)) := ⟨rfl, rfl, rfl, by decide +kernel, rfl, by decide +kernel, by decide +kernel⟩
def spIn : Sp := fun vs H Q _ => ∃ c : Nat, vs = [.str ⟨#[c]⟩] ∧ Q (.bl (inNm c)) H
/-- how the program's small defs stand: addresses, names -/
structure Small (K : PySem.W.Frag) (mg : Str → Option Value) (fL fD fI : Addr) (dL dD dI : FuncData) : Prop where
  L : FN K "is_letter" 9 fL dL
  D : FN K "is_digit" 10 fD dD
  I : FN K "in_name" 11 fI dI
  gL : mg "is_letter" = some (.ref fL)
  gD : mg "is_digit" = some (.ref fD)
  gI : mg "in_name" = some (.ref fI)
  len : mg "len" = none
theorem one_bind {x : Str} {i : Nat} {f : Addr} {fd : FuncData} {p : Str} (F : FN K x i f fd) (h : ∀ (kV doc pm : Value) (an : Option Addr) (cdv ct : Value) (u : Value), bindArgs (PySem.W.fnOf x x (defArgs (top i)) (defBody (top i)) (defScope (top i)) .none kV doc pm an cdv ct) ⟨[u], []⟩ = pure ([p].zip [u])) : Binds K fd [p] [] :=
  F.binds fun _ _ _ _ _ _ us hl => match us, hl with | [_], _ => h _ _ _ _ _ _ _
theorem ok_in {fL fD fI : Addr} {dL dD dI : FuncData} (T : Small K mg fL fD fI dL dD dI) : FnOk PR w K mg base CX0 2 fI dI ["char"] spIn := by
  refine T.I.ok scIn (fun vs H Q E h => ?_) (fun cdv A outer s H vs Q E hr h => ?_)
  · obtain ⟨c, rfl, _⟩ := h
    rfl
  · obtain ⟨c, rfl, q⟩ := h
    refine ⟨_, pss_one (ps_ret (pe_or (pe_call (ok_let T.L) hr (by rfl) T.gL T.L.kp (one_bind T.L fun _ _ _ _ _ _ _ => rfl) .nil pass0 (pa_cons (pv 0) pa_nil))
      (pe_or (pe_call (ok_dig T.D) hr (by rfl) T.gD T.D.kp (one_bind T.D fun _ _ _ _ _ _ _ => rfl) .nil pass0 (pa_cons (pv 0) pa_nil)) (pe_one (pe_cmpR op_eq (pv 0) pe_str (nomark _)))))), ?_⟩
    unfold inNm at q
    refine ⟨_, rfl, c, rfl, _, rfl, ?_⟩
    cases e : isLet c with
    | true =>
      rw [e] at q
      exact iteT q
    | false =>
      rw [e] at q
      refine iteF ⟨_, rfl, c, rfl, _, rfl, ?_⟩
      cases e2 : isDig c with
      | true =>
        rw [e2] at q
        exact iteT q
      | false =>
        rw [e2] at q
        refine iteF ⟨_, rfl, rfl, ?_⟩
        rw [eq_txt 95 _ c (by decide +kernel)]
        exact q
/-! ### run_end, comment_end -/
theorem run_step {r : List Nat} {c : Nat} (p : Nat → Bool) (h : p c = true) : ((c :: r).takeWhile p).length = 1 + (r.takeWhile p).length := by
  rw [List.takeWhile_cons, if_pos h, List.length_cons, Nat.add_comm]
theorem run_stop {r : List Nat} {c : Nat} (p : Nat → Bool) (h : p c = false) : ((c :: r).takeWhile p).length = 0 := by
  rw [List.takeWhile_cons, if_neg (by rw [h]; exact Bool.false_ne_true)] <;> rfl
theorem len_codes (z : Str) : (codes z).length = z.length := Array.length_toList
theorem drop_at {z : Str} {k : Nat} (h : k < z.length) : ∃ c, z.cps[k]? = some c ∧ (codes z).drop k = c :: (codes z).drop (k + 1) := by
  have h' : k < (codes z).length := by rw [len_codes]; exact h
  refine ⟨(codes z)[k], ?_, List.drop_eq_getElem_cons h'⟩
  have e : (codes z)[k]? = some (codes z)[k] := List.getElem?_eq_getElem h'
  rw [← e]
  show z.cps[k]? = z.cps.toList[k]?
  rw [Array.getElem?_toList]
theorem scRun : FnScope ["text", "at"] ["text", "at"] (defScope (top 13)) := ⟨rfl, rfl, rfl, by decide +kernel, rfl, by decide +kernel, by decide +kernel⟩
/-- the index behind the run of signs with p, from k on -/
def runTo (p : Nat → Bool) (z : Str) (k : Nat) : Nat := k + (((codes z).drop k).takeWhile p).length
def spRunP (p : Nat → Bool) : Sp := fun vs H Q _ => ∃ (z : Str) (k : Nat), vs = [.str z, .int (k : Nat)] ∧ z.length ≤ 100000 ∧ k ≤ z.length ∧ Q (.int (runTo p z k : Nat)) H
theorem two_bind {x : Str} {i : Nat} {f : Addr} {fd : FuncData} {p q : Str} (F : FN K x i f fd) (h : ∀ (kV doc pm : Value) (an : Option Addr) (cdv ct : Value) (u v : Value), bindArgs (PySem.W.fnOf x x (defArgs (top i)) (defBody (top i)) (defScope (top i)) .none kV doc pm an cdv ct) ⟨[u, v], []⟩ = pure ([p, q].zip [u, v])) : Binds K fd [p, q] [] :=
  F.binds fun _ _ _ _ _ _ us hl => match us, hl with | [_, _], _ => h _ _ _ _ _ _ _ _
theorem line_big : (100000 : Nat) ≤ sizeLine := by rw [sizeLine_eq]; decide
theorem ok_run {fL fD fI fR : Addr} {dL dD dI dR : FuncData} (T : Small K mg fL fD fI dL dD dI) (F : FN K "run_end" 13 fR dR) : FnOk PR w K mg base CX0 3 fR dR ["text", "at"] (spRunP inNm) := by
  refine F.ok scRun (fun vs H Q E h => ?_) (fun cdv A outer s H vs Q E hr h => ?_)
  · obtain ⟨z, k, rfl, _⟩ := h
    rfl
  · obtain ⟨z, k, rfl, hz, hk, q⟩ := h
    have hl := Nat.le_trans hz line_big
    refine ⟨_, pss_cons (ps_while PassesOwn.never (PW.pt (pw_and (pt_cmpR op_lt (pv 1) (pe_callB call_len_str (by rfl) T.len PySem.boot_len (pa_cons (pv 0) pa_nil)) (nomark _))
        (pw_and1 (pt_val (pe_call (ok_in T) hr (by rfl) T.gI T.I.kp (one_bind T.I fun _ _ _ _ _ _ _ => rfl) .nil pass0 (pa_cons (pe_item_str (pv 0) (pv 1) (fun _ _ => rfl)) pa_nil))))))
        (pss_one (ps_set (i := 1) scRun.nd rfl (Or.inl rfl) (pe_op op_add (pv 1) pe_int))))
      (pss_one (ps_ret (pv 1))), ?_⟩
    refine ⟨fun m σ H' => ∃ j : Nat, σ = [some (.str z), some (.int (j : Nat))] ∧ H' = H ∧ j + m = z.length ∧ runTo inNm z j = runTo inNm z k, ⟨z.length - k, k, rfl, rfl, by omega, rfl⟩, ?_⟩
    rintro m σ H' ⟨j, rfl, rfl, hj, ej⟩
    refine ⟨_, rfl, _, rfl, z, rfl, hl, (j : Int), (z.length : Int), rfl, rfl, _, rfl, ?_⟩
    by_cases hlt : j < z.length
    · refine ifT (decide_eq_true (by omega)) ?_
      obtain ⟨c, hc, hd⟩ := drop_at hlt
      refine ⟨_, rfl, _, rfl, z, (j : Int), c, rfl, rfl, by omega, by omega, by omega, hc, c, rfl, inNm c, rfl, ?_⟩
      have ed : runTo inNm z j = j + ((c :: (codes z).drop (j + 1)).takeWhile inNm).length := by unfold runTo; rw [hd]
      cases e : inNm c with
      | true =>
        refine iteT ⟨fun σ' H'' => σ' = [some (.str z), some (.int ((j + 1 : Nat) : Int))] ∧ H'' = H', ?_, ?_⟩
        · rintro σ' H'' ⟨rfl, rfl⟩
          refine ⟨m - 1, by omega, j + 1, rfl, rfl, by omega, ?_⟩
          rw [← ej, ed, run_step inNm e]
          unfold runTo
          omega
        · exact ⟨_, rfl, (j : Int), 1, rfl, rfl, rfl, rfl⟩
      | false =>
        refine iteF ⟨_, rfl, ?_⟩
        rw [ed, run_stop inNm e] at ej
        rw [← ej] at q
        exact q
    · refine ifF (decide_eq_false (by omega)) (iteF ⟨_, rfl, ?_⟩)
      have ed : runTo inNm z j = j := by
        unfold runTo
        rw [List.drop_of_length_le (by rw [len_codes]; omega)]
        rfl
      rw [ed] at ej
      rw [← ej] at q
      exact q
theorem scCom : FnScope ["text", "at"] ["text", "at"] (defScope (top 14)) := ⟨rfl, rfl, rfl, by decide +kernel, rfl, by decide +kernel, by decide +kernel⟩
theorem ok_com {f : Addr} {fd : FuncData} (F : FN K "comment_end" 14 f fd) (ml : mg "len" = none) : FnOk PR w K mg base CX0 1 f fd ["text", "at"] (spRunP notNl) := by
  refine F.ok scCom (fun vs H Q E h => ?_) (fun cdv A outer s H vs Q E hr h => ?_)
  · obtain ⟨z, k, rfl, _⟩ := h
    rfl
  · obtain ⟨z, k, rfl, hz, hk, q⟩ := h
    have hl := Nat.le_trans hz line_big
    refine ⟨_, pss_cons (ps_while PassesOwn.never (PW.pt (pw_and (pt_cmpR op_lt (pv 1) (pe_callB call_len_str (by rfl) ml PySem.boot_len (pa_cons (pv 0) pa_nil)) (nomark _))
        (pw_and1 (pt_cmpR op_ne (pe_item_str (pv 0) (pv 1) (fun _ _ => rfl)) pe_str (nomark _)))))
        (pss_one (ps_set (i := 1) scCom.nd rfl (Or.inl rfl) (pe_op op_add (pv 1) pe_int))))
      (pss_one (ps_ret (pv 1))), ?_⟩
    refine ⟨fun m σ H' => ∃ j : Nat, σ = [some (.str z), some (.int (j : Nat))] ∧ H' = H ∧ j + m = z.length ∧ runTo notNl z j = runTo notNl z k, ⟨z.length - k, k, rfl, rfl, by omega, rfl⟩, ?_⟩
    rintro m σ H' ⟨j, rfl, rfl, hj, ej⟩
    refine ⟨_, rfl, _, rfl, z, rfl, hl, (j : Int), (z.length : Int), rfl, rfl, _, rfl, ?_⟩
    by_cases hlt : j < z.length
    · refine ifT (decide_eq_true (by omega)) ?_
      obtain ⟨c, hc, hd⟩ := drop_at hlt
      refine ⟨_, rfl, _, rfl, z, (j : Int), c, rfl, rfl, by omega, by omega, by omega, hc, rfl, _, rfl, ?_⟩
      rw [eq_txt 10 _ c (by decide +kernel)]
      have ed : runTo notNl z j = j + ((c :: (codes z).drop (j + 1)).takeWhile notNl).length := by unfold runTo; rw [hd]
      by_cases e : c = 10
      · refine ifF (by rw [decide_eq_true e] <;> rfl) ⟨_, rfl, ?_⟩
        have e' : notNl c = false := by unfold notNl; exact decide_eq_false fun y => y e
        rw [ed, run_stop notNl e'] at ej
        rw [← ej] at q
        exact q
      · have e' : notNl c = true := by unfold notNl; exact decide_eq_true e
        refine ifT (by rw [decide_eq_false e] <;> rfl) ⟨fun σ' H'' => σ' = [some (.str z), some (.int ((j + 1 : Nat) : Int))] ∧ H'' = H', ?_, ?_⟩
        · rintro σ' H'' ⟨rfl, rfl⟩
          refine ⟨m - 1, by omega, j + 1, rfl, rfl, by omega, ?_⟩
          rw [← ej, ed, run_step notNl e']
          unfold runTo
          omega
        · exact ⟨_, rfl, (j : Int), 1, rfl, rfl, rfl, rfl⟩
    · refine ifF (decide_eq_false (by omega)) (iteF ⟨_, rfl, ?_⟩)
      have ed : runTo notNl z j = j := by
        unfold runTo
        rw [List.drop_of_length_le (by rw [len_codes]; omega)]
        rfl
      rw [ed] at ej
      rw [← ej] at q
      exact q
end
end Fa
set_option Elab.async false
set_option linter.all false
set_option maxRecDepth 100000
set_option maxHeartbeats 4000000
/-! The readers of a word, a number, a string, a sign; is_name. -/
namespace Fa
open PySem PySem.Spec PyProof.Rows L2
theorem codes_S' (l : List Nat) : (S l).cps.toList = l := rfl
theorem same_new {H : Hp} {p : Addr} {o : HO} (h : H p = none) : Same H (upd H p o) := by
  intro b x e
  rw [upd_ne (ne_of_none e h)]
  exact e
/-- all([f(char) for char in text]) -/
theorem all_read {K : PySem.W.Frag} {σ : L2.St} {H : Hp} {Q : VK} {i j : Nat} {z : Str} (p : Nat → Bool) {sp : Sp} (hsp : ∀ (c : Nat) (H' : Hp) (Q' : VK), Q' (.bl (p c)) H' → sp [.str ⟨#[c]⟩] H' Q' E0) (hj : σ[j]? = some (some (.str z))) (hi : i < σ.length) (hz : z.length ≤ 100000)
    (q : ∀ H', Same H H' → Q (.bl ((codes z).all p)) H') : tCB (rAll K) (tCons (tLc (iStr (tVar j)) (gName i) tYes (tCall sp [] E0 (tCons (tVar i) tNil)) [i]) tNil) σ H Q := by
  refine ⟨_, hj, z, rfl, fun D nD => ⟨fun n m H' => n + m = z.length ∧ Same H H' ∧ H' D = some (.lst (((codes z).take n).map fun c => V.bl (p c))), ⟨z.length, by omega, same_new nD, upd_same⟩, ?_⟩⟩
  rintro n m H' ⟨hn, sm, hD⟩
  have zs : z.cps.size = z.length := rfl
  by_cases hlt : n < z.length
  · refine .inr ⟨hlt, fun H'' => Same H H'' ∧ H'' D = some (.lst (((codes z).take (n + 1)).map fun c => V.bl (p c))), fun H'' ⟨a, b⟩ => ⟨m - 1, by omega, by omega, a, b⟩, ?_⟩
    rintro x H'' ⟨rfl, c, hc, rfl⟩
    refine ⟨?_, ?_⟩
    · show ((σ.set i none).set i _).set i none = σ.set i none
      rw [List.set_set, List.set_set]
    · dsimp only [tYes]
      refine iteT ?_
      refine ⟨_, ?_, hsp c _ _ ⟨_, hD, ?_, fun b o e => ?_, ?_⟩⟩
      · show ((σ.set i none).set i (some (V.str ⟨#[c]⟩)))[i]? = some (some (V.str ⟨#[c]⟩))
        rw [List.getElem?_set_self (by rw [List.length_set]; exact hi)]
      · rw [List.length_map, List.length_take, len_codes]
        exact Nat.lt_of_lt_of_le (Nat.lt_of_le_of_lt (Nat.min_le_left _ _) hlt) (Nat.le_trans hz line_big)
      · rw [upd_ne (ne_of_none e nD)]
        exact sm _ _ e
      · rw [upd_same]
        have ec : (codes z)[n]? = some c := by
          rw [← hc]
          exact Array.getElem?_toList
        rw [List.take_add_one, ec, List.map_append]
        rfl
  · refine .inl ⟨?_, D, (codes z).map p, rfl, .inl (.inl ?_), ?_⟩
    · show z.cps.size ≤ n
      omega
    · rw [hD, List.take_of_length_le (by rw [len_codes]; omega), List.map_map]
      rfl
    · have e : ((codes z).map p).all id = (codes z).all p := by
        rw [List.all_map]
        rfl
      rw [e]
      exact q _ sm
/-! ### where things stand -/
structure Ad where
  (C init fL fD fI fN fR fC fW fM fS fG fT fK res sgn : Addr)
structure Fd where
  (dL dD dI dN dR dC dW dM dS dG dT dK : FuncData)
structure Txt (K : PySem.W.Frag) (mg : Str → Option Value) (a : Ad) (d : Fd) : Prop where
  mal : MalTxt K mg a.C a.init
  sm : Small K mg a.fL a.fD a.fI d.dL d.dD d.dI
  N : FN K "is_name" 12 a.fN d.dN
  R : FN K "run_end" 13 a.fR d.dR
  C : FN K "comment_end" 14 a.fC d.dC
  W : FN K "read_word" 15 a.fW d.dW
  M : FN K "read_number" 16 a.fM d.dM
  S : FN K "read_string" 17 a.fS d.dS
  G : FN K "read_sign" 18 a.fG d.dG
  T : FN K "read_token" 19 a.fT d.dT
  Ks : FN K "tokens" 20 a.fK d.dK
  gN : mg "is_name" = some (.ref a.fN)
  gR : mg "run_end" = some (.ref a.fR)
  gC : mg "comment_end" = some (.ref a.fC)
  gW : mg "read_word" = some (.ref a.fW)
  gM : mg "read_number" = some (.ref a.fM)
  gS : mg "read_string" = some (.ref a.fS)
  gG : mg "read_sign" = some (.ref a.fG)
  gT : mg "read_token" = some (.ref a.fT)
  gK : mg "tokens" = some (.ref a.fK)
  res : mg "RESERVED" = some (.ref a.res)
  resT : ∀ H, SqT K H a.res (resv.map V.str)
  sgn : mg "SIGNS" = some (.ref a.sgn)
  sgnT : ∀ H, SqT K H a.sgn (sgns.map V.str)
  maxN : ∃ t, mg "MAX_NAME" = some (.int 20 t)
  maxT : ∃ t, mg "MAX_TEXT" = some (.int 20000 t)
  nall : mg "all" = none
  nint : mg "int" = none
  nisi : mg "isinstance" = none
section
variable {w : World} {K : PySem.W.Frag} {mg : Str → Option Value} {base : Heap} {a : Ad} {d : Fd}
theorem run_bind (T : Txt K mg a d) : Binds K d.dR ["text", "at"] [] := two_bind T.R fun _ _ _ _ _ _ _ _ => rfl
theorem isRes_in (l : List Nat) : inV (.str (S l)) (resv.map V.str) = isRes l := by
  unfold inV isRes
  rw [List.any_map]
  congr 1
theorem flat_strs (l : List Str) : (l.map V.str).all flatV = true := by
  rw [List.all_map, List.all_eq_true]
  intro x _
  rfl
/-- the fields of a token's tuple -/
def tupV (t : Tk) (k : Nat) : List V := [.str t.kind, t.val, .int (k : Nat)]
/-- what a reader hands back: the pair of the token's tuple and the place behind it, or Malformed -/
def Out (C : Addr) (H : Hp) (Q : VK) (E : XK) (k : Nat) (m : Str) : Option (Tk × Nat) → Prop
  | some (t, n) => ∀ H' p p2, Same H H' → H' p = some (.tup (tupV t k)) → H' p2 = some (.tup [.ref p, .int ((k + n : Nat) : Int)]) → Q (.ref p2) H'
  | none => ∀ H' d, Same H H' → H' d = some (.xd (malF m (k : Nat))) → E (.ref C) (some d) H'
/-- a reader of the tokens that begin with a sign of P -/
def spRead (C : Addr) (P : Nat → Bool) : Sp := fun vs H Q E => ∃ (z : Str) (k : Nat) (m : Str) (c : Nat) (r : List Nat) (o : Option (Tk × Nat)), vs = [.str z, .int (k : Nat), .str m] ∧ z.length ≤ 20000 ∧ m.length ≤ 1000 ∧ (codes z).drop k = c :: r ∧ P c = true ∧ Rd (c :: r) o ∧ Out C H Q E k m o
theorem drop_lt {z : Str} {k c : Nat} {r : List Nat} (h : (codes z).drop k = c :: r) : k < z.length := by
  rw [← len_codes z]
  by_cases hk : k < (codes z).length
  · exact hk
  · rw [List.drop_of_length_le (by omega)] at h
    cases h
theorem drop_get {z : Str} {k c : Nat} {r : List Nat} (h : (codes z).drop k = c :: r) : z.cps[k]? = some c ∧ (codes z).drop (k + 1) = r := by
  obtain ⟨c', h1, h2⟩ := drop_at (drop_lt h)
  rw [h] at h2
  obtain ⟨rfl, rfl⟩ := List.cons.inj h2
  exact ⟨h1, rfl⟩
theorem take_run (p : Nat → Bool) : ∀ l : List Nat, l.take (l.takeWhile p).length = l.takeWhile p
  | [] => rfl
  | c :: l => by
    by_cases h : p c = true
    · rw [List.takeWhile_cons, if_pos h, List.length_cons, List.take_succ_cons, take_run p l]
    · rw [List.takeWhile_cons, if_neg h]
      rfl
theorem run_le (p : Nat → Bool) (l : List Nat) : (l.takeWhile p).length ≤ l.length := (List.takeWhile_sublist p).length_le
theorem runTo_le {p : Nat → Bool} {z : Str} {k : Nat} (h : k ≤ z.length) : runTo p z k ≤ z.length := by
  unfold runTo
  have := run_le p ((codes z).drop k)
  rw [List.length_drop, len_codes] at this
  omega
/-- text[k : run_end(text, k)] -/
theorem cut_run {p : Nat → Bool} {z : Str} {k : Nat} (h : k ≤ z.length) : cutS z (some ((k : Nat) : Int)) (some ((runTo p z k : Nat) : Int)) = S (((codes z).drop k).takeWhile p) := by
  unfold cutS
  rw [HT.sIx_nat, HT.sIx_nat, Nat.min_eq_left h, Nat.min_eq_left (runTo_le h)]
  have e : runTo p z k - k = (((codes z).drop k).takeWhile p).length := by unfold runTo; omega
  rw [e]
  show S (((codes z).drop k).take _) = _
  rw [take_run]
theorem let_dig {c : Nat} (h : isLet c = true) : isDig c = false := by
  unfold isLet at h
  simp only [Bool.or_eq_true, Bool.and_eq_true, decide_eq_true_eq] at h
  unfold isDig
  rcases h with h | h
  · rw [decide_eq_false (show ¬ c ≤ 57 by omega), Bool.and_false]
  · rw [decide_eq_false (show ¬ c ≤ 57 by omega), Bool.and_false]
theorem scW : FnScope ["text", "at", "module", "end", "word"] ["text", "at", "module"] (defScope (top 15)) := ⟨rfl, rfl, rfl, by decide +kernel, rfl, by decide +kernel, by decide +kernel⟩
theorem ok_word (T : Txt K mg a d) : FnOk PR w K mg base (L2.CX PR w) 5 a.fW d.dW ["text", "at", "module"] (spRead a.C isLet) := by
  obtain ⟨tN, hN⟩ := T.maxN
  refine T.W.okX scW (fun vs H Q E h => ?_) (fun cdv A outer s H vs Q E hr h => ?_)
  · obtain ⟨z, k, m, c, r, o, rfl, _⟩ := h
    rfl
  · obtain ⟨z, k, m, c, r, o, rfl, hz, hm, hd, hc, hrd, q⟩ := h
    have hk := drop_lt hd
    have hl : z.length ≤ sizeLine := Nat.le_trans (Nat.le_trans hz (by decide)) line_big
    refine ⟨_, pss_cons (ps_set (i := 3) scW.nd rfl (Or.inl rfl) (pe_call (ok_run T.sm T.R) (hr.mono (by decide)) (by rfl) T.gR T.R.kp (run_bind T) .nil pass0 (pa_cons (pv 0) (pa_cons (pv 1) pa_nil))))
      (pss_cons (ps_set (i := 4) scW.nd rfl (Or.inl rfl) (pe_slice sl_str (pv 0) (po_some (pv 1)) (po_some (pv 3))))
      (pss_cons (ps_if (pt_cmpR op_in_seq (pv 4) (pe_glob (v := .ref a.res) (by rfl) T.res rfl) (by rfl)) (pss_one (ps_ret (pe_tup (pa_cons (pe_tup (pa_cons pe_str (pa_cons (pv 4) (pa_cons (pv 1) pa_nil)))) (pa_cons (pv 3) pa_nil))))) pss_nil)
      (pss_cons (ps_if (pt_cmpR op_gt (pe_callB call_len_str (by rfl) T.sm.len PySem.boot_len (pa_cons (pv 4) pa_nil)) (pe_glob (v := .int 20) (by rfl) hN ⟨_, rfl⟩) (nomark _)) (pss_one (ps_raiseMal rfl rfl T.mal hr (takes_of rfl rfl rfl rfl) (pa_cons (pv 2) (pa_cons (pv 1) pa_nil)))) pss_nil)
      (pss_one (ps_ret (pe_tup (pa_cons (pe_tup (pa_cons pe_str (pa_cons (pv 4) (pa_cons (pv 1) pa_nil)))) (pa_cons (pv 3) pa_nil)))))))), ?_⟩
    refine ⟨_, rfl, _, rfl, z, k, rfl, by omega, Nat.le_of_lt hk, ?_⟩
    refine ⟨_, rfl, _, rfl, _, rfl, _, rfl, _, rfl, z, rfl, hl, ?_⟩
    rw [cut_run (Nat.le_of_lt hk), hd]
    have er : runTo inNm z k = k + (nmRun (c :: r)).length := by unfold runTo nmRun; rw [hd]
    rw [er]
    have rl : (nmRun (c :: r)).length ≤ (c :: r).length := run_le inNm (c :: r)
    have dl : (c :: r).length ≤ z.length := by rw [← hd, List.length_drop, len_codes]; omega
    refine ⟨_, rfl, a.res, resv.map V.str, rfl, .inr (T.resT H), rfl, flat_strs _, _, rfl, ?_⟩
    show if inV (.str (S (nmRun (c :: r)))) (resv.map V.str) = true then _ else _
    rw [isRes_in]
    have two : 2 ≤ sizeLine := by rw [sizeLine_eq]; decide
    have three : 3 ≤ sizeLine := by rw [sizeLine_eq]; decide
    cases hrd with
    | word h1 h2 =>
      refine ifT h2 ⟨_, rfl, _, rfl, three, fun p hp => ⟨_, rfl, two, fun p2 hp2 => ?_⟩⟩
      exact q _ p p2 ((same_new hp).trans (same_new hp2)) (by rw [upd_ne (ne_of_none upd_same hp2)]; exact upd_same) upd_same
    | name h1 h2 h3 =>
      refine ifF h2 ⟨_, rfl, S (nmRun (c :: r)), rfl, Nat.le_trans (by rw [len_S]; omega) hl, _, _, rfl, rfl, _, rfl, ifF (decide_eq_false (by rw [len_S]; omega)) ?_⟩
      refine ⟨_, rfl, _, rfl, three, fun p hp => ⟨_, rfl, two, fun p2 hp2 => ?_⟩⟩
      exact q _ p p2 ((same_new hp).trans (same_new hp2)) (by rw [upd_ne (ne_of_none upd_same hp2)]; exact upd_same) upd_same
    | long h1 h2 h3 =>
      refine ifF h2 ⟨_, rfl, S (nmRun (c :: r)), rfl, Nat.le_trans (by rw [len_S]; exact Nat.le_trans rl dl) hl, _, _, rfl, rfl, _, rfl, ifT (decide_eq_true (by rw [len_S]; omega)) ?_⟩
      exact ⟨_, rfl, _, rfl, m, (k : Int), rfl, hm, by omega, by omega, fun d' hd' => q _ d' (same_new hd') upd_same⟩
    | num h1 => exact absurd h1 (by rw [let_dig hc]; decide)
    | numx h1 => exact absurd h1 (by rw [let_dig hc]; decide)
    | str => exact absurd hc (by decide)
    | strx => exact absurd hc (by decide)
    | sign h1 => rw [hc] at h1; cases h1
    | signx h1 => rw [hc] at h1; cases h1
/-! ### numbers -/
abbrev numBad (c : Nat) (l : List Nat) : Prop := 5 < l.length ∨ l.all isDig = false ∨ 65535 < NumText.digitsVal l ∨ (c = 48 ∧ 1 < l.length)
theorem rd_dig {c : Nat} {r : List Nat} {o : Option (Tk × Nat)} (h : Rd (c :: r) o) (hc : isDig c = true) :
    (numBad c (nmRun (c :: r)) → o = none) ∧ (¬ numBad c (nmRun (c :: r)) → o = some (.num (NumText.digitsVal (nmRun (c :: r))), (nmRun (c :: r)).length)) := by
  have nl : isLet c = true → False := fun z => by rw [let_dig z] at hc; cases hc
  cases h with
  | word h1 => exact (nl h1).elim
  | name h1 => exact (nl h1).elim
  | long h1 => exact (nl h1).elim
  | num h1 h2 h3 h4 h5 =>
    refine ⟨fun z => ?_, fun _ => rfl⟩
    rcases z with z | z | z | z
    · omega
    · rw [h3] at z; cases z
    · omega
    · exact (h5 z).elim
  | numx h1 h2 => exact ⟨fun _ => rfl, fun z => (z h2).elim⟩
  | str => exact absurd hc (by decide)
  | strx => exact absurd hc (by decide)
  | sign _ h1 => rw [hc] at h1; cases h1
  | signx _ h1 => rw [hc] at h1; cases h1
theorem scM : FnScope ["text", "at", "module", "end", "digits", "char"] ["text", "at", "module"] (defScope (top 16)) := ⟨rfl, rfl, rfl, by decide +kernel, rfl, by decide +kernel, by decide +kernel⟩
theorem dig_in {c : Nat} (h : isDig c = true) : inNm c = true := by unfold inNm; rw [h]; simp
theorem digits_all {l : List Nat} (h : l.all isDig = true) : NumText.AllDigits l := by
  intro c hc
  have q := List.all_eq_true.mp h c hc
  unfold isDig at q
  simp only [Bool.and_eq_true, decide_eq_true_eq] at q
  exact q
theorem ok_num (T : Txt K mg a d) : FnOk PR w K mg base (L2.CX PR w) 5 a.fM d.dM ["text", "at", "module"] (spRead a.C isDig) := by
  refine T.M.okX scM (fun vs H Q E h => ?_) (fun cdv A outer s H vs Q E hr h => ?_)
  · obtain ⟨z, k, m, c, r, o, rfl, _⟩ := h
    rfl
  · obtain ⟨z, k, m, c, r, o, rfl, hz, hm, hd, hc, hrd, q⟩ := h
    have hk := drop_lt hd
    have hl : z.length ≤ sizeLine := Nat.le_trans (Nat.le_trans hz (by decide)) line_big
    refine ⟨_, pss_cons (ps_set (i := 3) scM.nd rfl (Or.inl rfl) (pe_call (ok_run T.sm T.R) (hr.mono (by decide)) (by rfl) T.gR T.R.kp (run_bind T) .nil pass0 (pa_cons (pv 0) (pa_cons (pv 1) pa_nil))))
      (pss_cons (ps_set (i := 4) scM.nd rfl (Or.inl rfl) (pe_slice sl_str (pv 0) (po_some (pv 1)) (po_some (pv 3))))
      (pss_cons (ps_if (PW.pt (pw_or (pt_cmpR op_gt (pe_callB call_len_str (by rfl) T.sm.len PySem.boot_len (pa_cons (pv 4) pa_nil)) pe_int (nomark _))
          (pw_or1 (pt_not (pt_val (pe_callB (cr_all rfl) (by rfl) T.nall (by decide +kernel) (pa_cons (pe_lc (own := [("char", 5)]) (g := gName 5) (tt := tYes) rfl scM.nd (pi_str (pv 4)) (blkOk_by (N := ["text", "at", "module", "end", "digits", "char"]) (sc := defScope (top 16)) (by decide +kernel))
            (fun _ _ _ _ _ => pg_name (i := 5) scM.nd rfl (Or.inl rfl)) (fun _ _ _ _ _ => pts_nil) (fun _ _ _ _ _ => pe_call (ok_dig T.sm.D) (hr.mono (by decide)) (by rfl) T.sm.gD T.sm.D.kp (one_bind T.sm.D fun _ _ _ _ _ _ _ => rfl) .nil pass0 (pa_cons (pv 5) pa_nil))) pa_nil)))))))
        (pss_one (ps_raiseMal rfl rfl T.mal hr (takes_of rfl rfl rfl rfl) (pa_cons (pv 2) (pa_cons (pv 1) pa_nil)))) pss_nil)
      (pss_cons (ps_if (PW.pt (pw_or (pt_cmpR op_gt (pe_callTy call_int_str (by rfl) T.nint (by decide +kernel) (pa_cons (pv 4) pa_nil)) pe_int (nomark _))
          (pw_or1 (PW.pt (pw_and (pt_cmpR op_eq (pe_ix ix_str (pv 4) pe_int (fun _ _ => rfl)) pe_str (nomark _)) (pw_and1 (pt_cmpR op_gt (pe_callB call_len_str (by rfl) T.sm.len PySem.boot_len (pa_cons (pv 4) pa_nil)) pe_int (nomark _))))))))
        (pss_one (ps_raiseMal rfl rfl T.mal hr (takes_of rfl rfl rfl rfl) (pa_cons (pv 2) (pa_cons (pv 1) pa_nil)))) pss_nil)
      (pss_one (ps_ret (pe_tup (pa_cons (pe_tup (pa_cons pe_str (pa_cons (pe_callTy call_int_str (by rfl) T.nint (by decide +kernel) (pa_cons (pv 4) pa_nil)) (pa_cons (pv 1) pa_nil)))) (pa_cons (pv 3) pa_nil)))))))), ?_⟩
    refine ⟨_, rfl, _, rfl, z, k, rfl, by omega, Nat.le_of_lt hk, ?_⟩
    refine ⟨_, rfl, _, rfl, _, rfl, _, rfl, _, rfl, z, rfl, hl, ?_⟩
    have er : runTo inNm z k = k + (nmRun (c :: r)).length := by unfold runTo nmRun; rw [hd]
    rw [show cutS z (some ((k : Nat) : Int)) (some ((runTo inNm z k : Nat) : Int)) = S (nmRun (c :: r)) by rw [cut_run (Nat.le_of_lt hk), hd] <;> rfl, er]
    obtain ⟨hbad, hgood⟩ := rd_dig hrd hc
    have rl : (nmRun (c :: r)).length ≤ (c :: r).length := run_le inNm (c :: r)
    have dl : (c :: r).length ≤ z.length := by rw [← hd, List.length_drop, len_codes]; omega
    have e0 : nmRun (c :: r) = c :: nmRun r := by unfold nmRun; rw [List.takeWhile_cons, if_pos (dig_in hc)]
    generalize nmRun (c :: r) = D at *
    have hD : (S D).length ≤ 20000 := by rw [len_S]; omega
    have hDl : (S D).length ≤ sizeLine := Nat.le_trans (Nat.le_trans hD (by decide)) line_big
    have two : 2 ≤ sizeLine := by rw [sizeLine_eq]; decide
    have three : 3 ≤ sizeLine := by rw [sizeLine_eq]; decide
    have stop : numBad c D → ∀ H' d', Same H H' → H' d' = some (.xd (malF m (k : Nat))) → E (.ref a.C) (some d') H' := fun hb H' d' h1 h2 => by
      rw [hbad hb] at q
      exact q H' d' h1 h2
    refine ⟨_, rfl, S D, rfl, hDl, _, _, rfl, rfl, _, rfl, ?_⟩
    by_cases h5 : 5 < D.length
    · refine ifT (decide_eq_true (by rw [len_S]; omega)) (iteT ?_)
      exact ⟨_, rfl, _, rfl, m, (k : Int), rfl, hm, by omega, by omega, fun d' hd' => stop (.inl h5) _ d' (same_new hd') upd_same⟩
    refine ifF (decide_eq_false (by rw [len_S]; omega)) ?_
    dsimp only [tNot, tB]
    refine all_read isDig (sp := spDig) (fun c H' Q' q => ⟨c, rfl, q⟩) rfl (show (5 : Nat) < 6 by decide) (Nat.le_trans hD (by decide)) (fun H1 s1 => ⟨_, rfl, ?_⟩)
    cases hall : D.all isDig with
    | false =>
      refine ifT (by rw [codes_S, hall] <;> rfl) ?_
      exact ⟨_, rfl, _, rfl, m, (k : Int), rfl, hm, by omega, by omega, fun d' hd' => stop (.inr (.inl hall)) _ d' (s1.trans (same_new hd')) upd_same⟩
    | true =>
      refine ifF (by rw [codes_S, hall] <;> rfl) ?_
      have hv : PySem.intText? (S D) = some ((NumText.digitsVal D : Nat) : Int) := intText_digits (digits_all hall) (by rw [codes_S' , e0]; exact List.cons_ne_nil _ _) (by rw [len_S]; omega)
      refine ⟨_, rfl, S D, _, rfl, hv, by rw [len_S]; omega, _, _, rfl, rfl, _, rfl, ?_⟩
      by_cases h6 : 65535 < NumText.digitsVal D
      · refine ifT (decide_eq_true (by omega)) (iteT ?_)
        exact ⟨_, rfl, _, rfl, m, (k : Int), rfl, hm, by omega, by omega, fun d' hd' => stop (.inr (.inr (.inl h6))) _ d' (s1.trans (same_new hd')) upd_same⟩
      refine ifF (decide_eq_false (by omega)) ?_
      refine ⟨_, rfl, S D, (0 : Nat), c, rfl, rfl, hDl, atI_nat (by rw [codes_S', e0]; rfl), rfl, _, rfl, ?_⟩
      rw [eq_txt 48 _ c (by decide +kernel)]
      have fine : ¬ (c = 48 ∧ 1 < D.length) → Out a.C H Q E k m (some (.num (NumText.digitsVal D), D.length)) := fun hn => by
        rw [← hgood (fun hb => by
          rcases hb with hb | hb | hb | hb
          · exact h5 hb
          · rw [hall] at hb; cases hb
          · exact h6 hb
          · exact hn hb)]
        exact q
      by_cases h7 : c = 48
      · refine ifT (decide_eq_true h7) ?_
        refine ⟨_, rfl, S D, rfl, hDl, _, _, rfl, rfl, _, rfl, ?_⟩
        by_cases h8 : 1 < D.length
        · refine ifT (decide_eq_true (by rw [len_S]; omega)) ?_
          exact ⟨_, rfl, _, rfl, m, (k : Int), rfl, hm, by omega, by omega, fun d' hd' => stop (.inr (.inr (.inr ⟨h7, h8⟩))) _ d' (s1.trans (same_new hd')) upd_same⟩
        · refine ifF (decide_eq_false (by rw [len_S]; omega)) ?_
          refine ⟨_, rfl, S D, _, rfl, hv, by rw [len_S]; omega, _, rfl, three, fun p hp => ⟨_, rfl, two, fun p2 hp2 => ?_⟩⟩
          exact fine (fun y => h8 y.2) _ p p2 (s1.trans ((same_new hp).trans (same_new hp2))) (by rw [upd_ne (ne_of_none upd_same hp2)]; exact upd_same) upd_same
      · refine ifF (decide_eq_false h7) (iteF ?_)
        refine ⟨_, rfl, S D, _, rfl, hv, by rw [len_S]; omega, _, rfl, three, fun p hp => ⟨_, rfl, two, fun p2 hp2 => ?_⟩⟩
        exact fine (fun y => h7 y.1) _ p p2 (s1.trans ((same_new hp).trans (same_new hp2))) (by rw [upd_ne (ne_of_none upd_same hp2)]; exact upd_same) upd_same
/-! ### strings -/
abbrev strBad (r : List Nat) : Prop := nmRun r = [] ∨ 20 < (nmRun r).length ∨ r[(nmRun r).length]? ≠ some 34
def isQuo (c : Nat) : Bool := decide (c = 34)
theorem rd_quo {r : List Nat} {o : Option (Tk × Nat)} (h : Rd (34 :: r) o) : (strBad r → o = none) ∧ (¬ strBad r → o = some (.str (nmRun r), (nmRun r).length + 2)) := by
  cases h with
  | word h1 => exact absurd h1 (by decide)
  | name h1 => exact absurd h1 (by decide)
  | long h1 => exact absurd h1 (by decide)
  | num h1 => exact absurd h1 (by decide)
  | numx h1 => exact absurd h1 (by decide)
  | str h1 h2 h3 =>
    refine ⟨fun z => ?_, fun _ => rfl⟩
    rcases z with z | z | z
    · exact (h1 z).elim
    · omega
    · exact (z h3).elim
  | strx h1 => exact ⟨fun _ => rfl, fun z => (z h1).elim⟩
  | sign _ _ h1 => exact (h1 rfl).elim
  | signx _ _ h1 => exact (h1 rfl).elim
theorem scS : FnScope ["text", "at", "module", "end"] ["text", "at", "module"] (defScope (top 17)) := ⟨rfl, rfl, rfl, by decide +kernel, rfl, by decide +kernel, by decide +kernel⟩
theorem ok_str (T : Txt K mg a d) : FnOk PR w K mg base (L2.CX PR w) 5 a.fS d.dS ["text", "at", "module"] (spRead a.C isQuo) := by
  obtain ⟨tN, hN⟩ := T.maxN
  refine T.S.okX scS (fun vs H Q E h => ?_) (fun cdv A outer s H vs Q E hr h => ?_)
  · obtain ⟨z, k, m, c, r, o, rfl, _⟩ := h
    rfl
  · obtain ⟨z, k, m, c, r, o, rfl, hz, hm, hd, hc, hrd, q⟩ := h
    have hk := drop_lt hd
    have hl : z.length ≤ sizeLine := Nat.le_trans (Nat.le_trans hz (by decide)) line_big
    refine ⟨_, pss_cons (ps_set (i := 3) scS.nd rfl (Or.inl rfl) (pe_call (ok_run T.sm T.R) (hr.mono (by decide)) (by rfl) T.gR T.R.kp (run_bind T) .nil pass0 (pa_cons (pv 0) (pa_cons (pe_op op_add (pv 1) pe_int) pa_nil))))
      (pss_cons (ps_if (PW.pt (pw_or (pt_cmpR op_eq (pv 3) (pe_op op_add (pv 1) pe_int) (nomark _)) (pw_or (pt_cmpR op_gt (pe_op op_sub (pe_op op_sub (pv 3) (pv 1)) pe_int) (pe_glob (v := .int 20) (by rfl) hN ⟨_, rfl⟩) (nomark _))
          (pw_or (pt_cmpR op_ge (pv 3) (pe_callB call_len_str (by rfl) T.sm.len PySem.boot_len (pa_cons (pv 0) pa_nil)) (nomark _)) (pw_or1 (pt_cmpR op_ne (pe_item_str (pv 0) (pv 3) (fun _ _ => rfl)) pe_str (nomark _)))))))
        (pss_one (ps_raiseMal rfl rfl T.mal hr (takes_of rfl rfl rfl rfl) (pa_cons (pv 2) (pa_cons (pv 1) pa_nil)))) pss_nil)
      (pss_one (ps_ret (pe_tup (pa_cons (pe_tup (pa_cons pe_str (pa_cons (pe_slice sl_str (pv 0) (po_some (pe_op op_add (pv 1) pe_int)) (po_some (pv 3))) (pa_cons (pv 1) pa_nil)))) (pa_cons (pe_op op_add (pv 3) pe_int) pa_nil)))))), ?_⟩
    have hc' : c = 34 := of_decide_eq_true hc
    subst hc'
    obtain ⟨hbad, hgood⟩ := rd_quo hrd
    obtain ⟨hget, hd1⟩ := drop_get hd
    have er : runTo inNm z (k + 1) = k + 1 + (nmRun r).length := by unfold runTo nmRun; rw [hd1]
    have hcut : cutS z (some (((k + 1 : Nat) : Nat) : Int)) (some ((runTo inNm z (k + 1) : Nat) : Int)) = S (nmRun r) := by rw [cut_run (by omega), hd1] <;> rfl
    rw [er] at hcut
    have rl : (nmRun r).length ≤ r.length := run_le inNm r
    have dl : k + 1 + r.length = z.length := by rw [← hd1, List.length_drop, len_codes]; omega
    have hat : ∀ (i x : Nat), r[i]? = some x → z.cps[k + 1 + i]? = some x := fun i x hx => by
      rw [← hd1, List.getElem?_drop] at hx
      rw [← hx]
      exact Array.getElem?_toList.symm
    have two : 2 ≤ sizeLine := by rw [sizeLine_eq]; decide
    have three : 3 ≤ sizeLine := by rw [sizeLine_eq]; decide
    have stop : strBad r → ∀ H' d', Same H H' → H' d' = some (.xd (malF m (k : Nat))) → E (.ref a.C) (some d') H' := fun hb H' d' h1 h2 => by
      rw [hbad hb] at q
      exact q H' d' h1 h2
    have c1 : ((k : Nat) : Int) + 1 = ((k + 1 : Nat) : Int) := by omega
    refine ⟨_, rfl, _, rfl, (k : Int), 1, rfl, rfl, z, k + 1, by rw [← c1] <;> rfl, by omega, by omega, ?_⟩
    rw [er]
    generalize hW : nmRun r = W at *
    have fin : strBad r → tRaiseMal a.C (fun cls d' _ H' => E cls d' H') (tCons (tVar 2) (tCons (tVar 1) tNil)) { nx := fun _ _ => True, rt := Q } [some (.str z), some (.int (k : Nat)), some (.str m), some (.int ((k + 1 + W.length : Nat) : Int))] H := fun hb =>
      ⟨_, rfl, _, rfl, m, (k : Int), rfl, hm, by omega, by omega, fun d' hd' => stop hb _ d' (same_new hd') upd_same⟩
    refine ⟨_, rfl, _, rfl, (k : Int), 1, rfl, rfl, rfl, _, rfl, ?_⟩
    by_cases h0 : W = []
    · refine ifT (decide_eq_true (by rw [h0]; exact congrArg V.int (by show ((k + 1 + 0 : Nat) : Int) = _; omega))) (iteT ?_)
      exact fin (.inl (hW.trans h0))
    have w0 : 0 < W.length := List.length_pos_iff.mpr h0
    refine ifF (decide_eq_false (fun y => by have := V.int.inj y; omega)) ?_
    refine ⟨_, rfl, _, rfl, _, _, rfl, rfl, _, _, rfl, rfl, _, _, rfl, rfl, _, rfl, ?_⟩
    by_cases h1 : 20 < W.length
    · refine ifT (decide_eq_true (by omega)) (iteT ?_)
      exact fin (.inr (.inl (by rw [hW]; exact h1)))
    refine ifF (decide_eq_false (by omega)) ?_
    refine ⟨_, rfl, _, rfl, z, rfl, hl, _, _, rfl, rfl, _, rfl, ?_⟩
    by_cases h2 : z.length ≤ k + 1 + W.length
    · refine ifT (decide_eq_true (by omega)) (iteT ?_)
      exact fin (.inr (.inr (by rw [hW, List.getElem?_eq_none (by omega)]; exact fun y => nomatch y)))
    refine ifF (decide_eq_false (by omega)) ?_
    have hx : r[W.length]? = some (r[W.length]'(by omega)) := List.getElem?_eq_getElem (by omega)
    refine ⟨_, rfl, _, rfl, z, _, _, rfl, rfl, by omega, by omega, by omega, hat _ _ hx, rfl, _, rfl, ?_⟩
    rw [eq_txt 34 _ _ (by decide +kernel)]
    by_cases h3 : r[W.length]'(by omega) = 34
    · refine ifF (by rw [decide_eq_true h3] <;> rfl) ?_
      rw [hgood (by
        rintro (y | y | y)
        · exact h0 (hW.symm.trans y)
        · rw [hW] at y; exact h1 y
        · rw [hW, hx, h3] at y; exact y rfl)] at q
      refine ⟨_, rfl, _, rfl, _, _, rfl, rfl, _, rfl, _, rfl, _, rfl, z, rfl, hl, _, rfl, three, fun p hp => ⟨_, rfl, _, _, rfl, rfl, two, fun p2 hp2 => ?_⟩⟩
      refine q _ p p2 ((same_new hp).trans (same_new hp2)) ?_ ?_
      · rw [upd_ne (ne_of_none upd_same hp2), upd_same, c1, hcut]
        rfl
      · rw [upd_same]
        exact congrArg (fun y : Int => some (HO.tup [V.ref p, V.int y])) (by omega)
    · refine ifT (by rw [decide_eq_false h3] <;> rfl) ?_
      exact fin (.inr (.inr (by rw [hW, hx]; exact fun y => h3 (Option.some.inj y))))
end
end Fa
set_option Elab.async false
set_option linter.all false
set_option maxRecDepth 100000
set_option maxHeartbeats 4000000
/-! read_sign, read_token, tokens, is_name. -/
namespace Fa
open PySem PySem.Spec PyProof.Rows L2
/-! ### signs -/
theorem starts_at {z s : Str} {k : Nat} (hk : k ≤ z.length) (hs : codes s ≠ []) : Txt.startswith3 z s ((k : Nat) : Int) = (codes s).isPrefixOf ((codes z).drop k) := by
  have hf : fromIndex z.length ((k : Nat) : Int) = k := by
    unfold fromIndex
    rw [if_neg (by omega)]
    omega
  unfold Txt.startswith3
  rw [hf]
  have hl : s.length = (codes s).length := (len_codes s).symm
  have hz : z.length = (codes z).length := (len_codes z).symm
  have he : Builtin.Str.subAt z s k = decide (((codes z).drop k).take (codes s).length = codes s) := by
    rw [PySem.StrLaws.subAt_eq, hl]
    by_cases h : ((codes z).drop k).take (codes s).length = codes s
    · rw [decide_eq_true h]
      exact beq_iff_eq.mpr h
    · rw [decide_eq_false h]
      exact beq_eq_false_iff_ne.mpr h
  rw [he]
  by_cases h : ((codes z).drop k).take (codes s).length = codes s
  · have h1 := congrArg List.length h
    rw [List.length_take, List.length_drop] at h1
    have h2 : 0 < (codes s).length := List.length_pos_iff.mpr hs
    rw [decide_eq_true h, Bool.and_true]
    have h3 : (codes s).isPrefixOf ((codes z).drop k) = true := List.isPrefixOf_iff_prefix.mpr (by rw [← h]; exact List.take_prefix _ _)
    rw [h3]
    exact decide_eq_true (by omega)
  · rw [decide_eq_false h, Bool.and_false]
    cases e : (codes s).isPrefixOf ((codes z).drop k) with
    | false => rfl
    | true =>
      have h4 := List.prefix_iff_eq_take.mp (List.isPrefixOf_iff_prefix.mp e)
      exact absurd h4.symm h
theorem sgns_ne : ∀ s ∈ sgns, codes s ≠ [] := by
  have h : sgns.all (fun s => decide (codes s ≠ [])) = true := by decide +kernel
  intro s hs
  exact of_decide_eq_true (List.all_eq_true.mp h s hs)
theorem rd_pos {c n : Nat} {r : List Nat} {t : Tk} (h : Rd (c :: r) (some (t, n))) : 0 < n ∧ n ≤ (c :: r).length := by
  have run : inNm c = true → 0 < (nmRun (c :: r)).length ∧ (nmRun (c :: r)).length ≤ (c :: r).length := fun hc => by
    refine ⟨?_, run_le inNm (c :: r)⟩
    unfold nmRun
    rw [List.takeWhile_cons, if_pos hc]
    exact Nat.succ_pos _
  cases h with
  | word h1 => exact run (let_in h1)
  | name h1 => exact run (let_in h1)
  | num h1 => exact run (dig_in h1)
  | str h1 h2 h3 =>
    have h4 := (List.getElem?_eq_some_iff.mp h3).1
    rw [List.length_cons]
    omega
  | sign h1 h2 h3 h4 =>
    have hm := List.mem_of_find?_eq_some h4
    have hp := List.find?_some h4
    rename_i s
    have h5 := (List.isPrefixOf_iff_prefix.mp (show (codes s).isPrefixOf (c :: r) = true from hp)).length_le
    have h6 : 0 < (codes s).length := List.length_pos_iff.mpr (sgns_ne s hm)
    rw [len_codes] at h5 h6
    exact ⟨h6, h5⟩
def isOther (c : Nat) : Bool := !isLet c && !isDig c && !isQuo c
theorem rd_other {c : Nat} {r : List Nat} {o : Option (Tk × Nat)} (h : Rd (c :: r) o) (hc : isOther c = true) : o = (sgnOf (c :: r)).map fun s => (.sign (codes s), s.length) := by
  unfold isOther at hc
  simp only [Bool.and_eq_true, Bool.not_eq_true'] at hc
  obtain ⟨⟨a1, a2⟩, a3⟩ := hc
  cases h with
  | word h1 => rw [a1] at h1; cases h1
  | name h1 => rw [a1] at h1; cases h1
  | long h1 => rw [a1] at h1; cases h1
  | num h1 => rw [a2] at h1; cases h1
  | numx h1 => rw [a2] at h1; cases h1
  | str => exact absurd a3 (by decide)
  | strx => exact absurd a3 (by decide)
  | sign _ _ _ h1 => rw [h1] <;> rfl
  | signx _ _ _ h1 => rw [h1] <;> rfl
section
variable {w : World} {K : PySem.W.Frag} {mg : Str → Option Value} {base : Heap} {a : Ad} {d : Fd}
theorem scG : FnScope ["text", "at", "module", "sign"] ["text", "at", "module"] (defScope (top 18)) := ⟨rfl, rfl, rfl, by decide +kernel, rfl, by decide +kernel, by decide +kernel⟩
theorem ok_sign (T : Txt K mg a d) : FnOk PR w K mg base (L2.CX PR w) 5 a.fG d.dG ["text", "at", "module"] (spRead a.C isOther) := by
  refine T.G.okX scG (fun vs H Q E h => ?_) (fun cdv A outer s H vs Q E hr h => ?_)
  · obtain ⟨z, k, m, c, r, o, rfl, _⟩ := h
    rfl
  · obtain ⟨z, k, m, c, r, o, rfl, hz, hm, hd, hc, hrd, q⟩ := h
    have hk := drop_lt hd
    have hl : z.length ≤ sizeLine := Nat.le_trans (Nat.le_trans hz (by decide)) line_big
    refine ⟨_, pss_cons (ps_for (passes_of rfl) rfl (pi_tup (pe_glob (v := .ref a.sgn) (by rfl) T.sgn rfl)) (pg_name (i := 3) scG.nd rfl (Or.inl rfl))
        (pss_one (ps_if (pt_val (pe_bm PySem.F.plainAttrs_str PySem.F.slot_str_startswith PySem.F.type_str_startswith mt_startswith3 (pv 0) (pa_cons (pv 3) (pa_cons (pv 1) pa_nil))))
          (pss_one (ps_ret (pe_tup (pa_cons (pe_tup (pa_cons pe_str (pa_cons (pv 3) (pa_cons (pv 1) pa_nil)))) (pa_cons (pe_op op_add (pv 1) (pe_callB call_len_str (by rfl) T.sm.len PySem.boot_len (pa_cons (pv 3) pa_nil))) pa_nil))))) pss_nil)))
      (pss_one (ps_raiseMal rfl rfl T.mal hr (takes_of rfl rfl rfl rfl) (pa_cons (pv 2) (pa_cons (pv 1) pa_nil)))), ?_⟩
    have ho := rd_other hrd hc
    subst ho
    have two : 2 ≤ sizeLine := by rw [sizeLine_eq]; decide
    have three : 3 ≤ sizeLine := by rw [sizeLine_eq]; decide
    refine ⟨a.sgn, rfl, ⟨_, T.sgnT H⟩, for_tup (K := K) (a := a.sgn) (xs := sgns.map V.str) (fun i σ H' => ∃ y, σ = [some (.str z), some (.int (k : Nat)), some (.str m), y] ∧ H' = H ∧ (sgns.take i).find? (fun s => (codes s).isPrefixOf (c :: r)) = none) ⟨none, rfl, rfl, rfl⟩
      (fun i σ H' _ _ => T.sgnT H') ?_ ?_⟩
    · rintro i x σ H' hi ⟨y, rfl, rfl, hn⟩
      rw [List.getElem?_map] at hi
      cases e : sgns[i]? with
      | none => rw [e] at hi; cases hi
      | some s =>
        rw [e] at hi
        obtain rfl : V.str s = x := Option.some.inj hi
        have hmem : s ∈ sgns := List.mem_of_getElem? e
        refine ⟨_, rfl, rfl, _, rfl, _, rfl, z, s, (k : Int), rfl, rfl, _, rfl, ?_⟩
        rw [starts_at (Nat.le_of_lt hk) (sgns_ne s hmem), hd]
        cases hp : (codes s).isPrefixOf (c :: r) with
        | true =>
          have hs : sgnOf (c :: r) = some s := by
            unfold sgnOf
            obtain ⟨hlt, hg⟩ := List.getElem?_eq_some_iff.mp e
            have split : sgns = sgns.take i ++ s :: sgns.drop (i + 1) := by
              rw [← hg, ← List.drop_eq_getElem_cons hlt, List.take_append_drop]
            rw [split, List.find?_append, hn, Option.none_or]
            exact List.find?_cons_of_pos (p := fun s => (codes s).isPrefixOf (c :: r)) hp
          rw [hs] at q
          have sl : s.length ≤ sizeLine := Nat.le_trans (by
            have h5 := (List.isPrefixOf_iff_prefix.mp hp).length_le
            rw [len_codes] at h5
            have h6 : (c :: r).length ≤ z.length := by rw [← hd, List.length_drop, len_codes]; omega
            exact Nat.le_trans h5 h6) hl
          refine iteT ⟨_, rfl, _, rfl, three, fun p hp => ⟨_, rfl, _, rfl, s, rfl, sl, _, _, rfl, rfl, two, fun p2 hp2 => ?_⟩⟩
          exact q _ p p2 ((same_new hp).trans (same_new hp2)) (by rw [upd_ne (ne_of_none upd_same hp2), upd_same]; exact congrArg (fun y => some (HO.tup [V.str "sign", V.str y, V.int (k : Nat)])) (S_codes s).symm) (by rw [upd_same] <;> rfl)
        | false =>
          refine iteF ⟨_, rfl, rfl, ?_⟩
          rw [List.take_add_one, e, List.find?_append, hn, Option.none_or]
          exact List.find?_cons_of_neg (p := fun s => (codes s).isPrefixOf (c :: r)) (l := []) (by rw [hp]; exact Bool.false_ne_true)
    · rintro σ H' ⟨y, rfl, rfl, hn⟩
      have hs : sgnOf (c :: r) = none := by
        unfold sgnOf
        rw [List.length_map, List.take_length] at hn
        exact hn
      rw [hs] at q
      exact ⟨_, rfl, _, rfl, m, (k : Int), rfl, hm, by omega, by omega, fun d' hd' => q _ d' (same_new hd') upd_same⟩
/-! ### read_token -/
theorem scT : FnScope ["text", "at", "module"] ["text", "at", "module"] (defScope (top 19)) := ⟨rfl, rfl, rfl, by decide +kernel, rfl, by decide +kernel, by decide +kernel⟩
theorem three_bind {x : Str} {i : Nat} {f : Addr} {fd : FuncData} {p q r : Str} (F : FN K x i f fd) (h : ∀ (kV doc pm : Value) (an : Option Addr) (cdv ct : Value) (u v y : Value), bindArgs (PySem.W.fnOf x x (defArgs (top i)) (defBody (top i)) (defScope (top i)) .none kV doc pm an cdv ct) ⟨[u, v, y], []⟩ = pure ([p, q, r].zip [u, v, y])) : Binds K fd [p, q, r] [] :=
  F.binds fun _ _ _ _ _ _ us hl => match us, hl with | [_, _, _], _ => h _ _ _ _ _ _ _ _ _
theorem ok_token (T : Txt K mg a d) : FnOk PR w K mg base (L2.CX PR w) 6 a.fT d.dT ["text", "at", "module"] (spRead a.C fun _ => true) := by
  refine T.T.okX scT (fun vs H Q E h => ?_) (fun cdv A outer s H vs Q E hr h => ?_)
  · obtain ⟨z, k, m, c, r, o, rfl, _⟩ := h
    rfl
  · obtain ⟨z, k, m, c, r, o, rfl, hz, hm, hd, hc, hrd, q⟩ := h
    obtain ⟨hget, hd1⟩ := drop_get hd
    have hk := drop_lt hd
    have tk := takes_of (X := cxOf (L2.CX PR w) PR w K mg base ["text", "at", "module"] "read_token" (defScope (top 19)) a.fT cdv A outer s H E) rfl rfl rfl rfl
    refine ⟨_, pss_cons (ps_if (pt_val (pe_call (ok_let T.sm.L) (hr.mono (by decide)) (by rfl) T.sm.gL T.sm.L.kp (one_bind T.sm.L fun _ _ _ _ _ _ _ => rfl) .nil pass0 (pa_cons (pe_item_str (pv 0) (pv 1) (fun _ _ => rfl)) pa_nil)))
        (pss_one (ps_ret (pe_callS (ok_word T) hr (by rfl) T.gW T.W.kp (three_bind T.W fun _ _ _ _ _ _ _ _ _ => rfl) (fun σ => passAt tk σ) (pa_cons (pv 0) (pa_cons (pv 1) (pa_cons (pv 2) pa_nil)))))) pss_nil)
      (pss_cons (ps_if (pt_val (pe_call (ok_dig T.sm.D) (hr.mono (by decide)) (by rfl) T.sm.gD T.sm.D.kp (one_bind T.sm.D fun _ _ _ _ _ _ _ => rfl) .nil pass0 (pa_cons (pe_item_str (pv 0) (pv 1) (fun _ _ => rfl)) pa_nil)))
        (pss_one (ps_ret (pe_callS (ok_num T) hr (by rfl) T.gM T.M.kp (three_bind T.M fun _ _ _ _ _ _ _ _ _ => rfl) (fun σ => passAt tk σ) (pa_cons (pv 0) (pa_cons (pv 1) (pa_cons (pv 2) pa_nil)))))) pss_nil)
      (pss_cons (ps_if (pt_cmpR op_eq (pe_item_str (pv 0) (pv 1) (fun _ _ => rfl)) pe_str (nomark _))
        (pss_one (ps_ret (pe_callS (ok_str T) hr (by rfl) T.gS T.S.kp (three_bind T.S fun _ _ _ _ _ _ _ _ _ => rfl) (fun σ => passAt tk σ) (pa_cons (pv 0) (pa_cons (pv 1) (pa_cons (pv 2) pa_nil)))))) pss_nil)
      (pss_one (ps_ret (pe_callS (ok_sign T) hr (by rfl) T.gG T.G.kp (three_bind T.G fun _ _ _ _ _ _ _ _ _ => rfl) (fun σ => passAt tk σ) (pa_cons (pv 0) (pa_cons (pv 1) (pa_cons (pv 2) pa_nil)))))))), ?_⟩
    have fin : ∀ P : Nat → Bool, P c = true → spRead a.C P [.str z, .int (k : Nat), .str m] H Q E := fun P hP => ⟨z, k, m, c, r, o, rfl, hz, hm, hd, hP, hrd, q⟩
    refine ⟨_, rfl, _, rfl, z, (k : Int), c, rfl, rfl, by omega, by omega, by omega, hget, c, rfl, _, rfl, ?_⟩
    cases e1 : isLet c with
    | true => exact iteT ⟨_, rfl, _, rfl, _, rfl, fin isLet e1⟩
    | false =>
      refine iteF ⟨_, rfl, _, rfl, z, (k : Int), c, rfl, rfl, by omega, by omega, by omega, hget, c, rfl, _, rfl, ?_⟩
      cases e2 : isDig c with
      | true => exact iteT ⟨_, rfl, _, rfl, _, rfl, fin isDig e2⟩
      | false =>
        refine iteF ⟨_, rfl, _, rfl, z, (k : Int), c, rfl, rfl, by omega, by omega, by omega, hget, rfl, _, rfl, ?_⟩
        rw [eq_txt 34 _ c (by decide +kernel)]
        by_cases e3 : c = 34
        · exact ifT (decide_eq_true e3) ⟨_, rfl, _, rfl, _, rfl, fin isQuo (decide_eq_true e3)⟩
        · refine ifF (decide_eq_false e3) ⟨_, rfl, _, rfl, _, rfl, fin isOther ?_⟩
          unfold isOther isQuo
          rw [e1, e2, decide_eq_false e3]
          rfl
/-! ### tokens -/
/-- the tokens' tuples, one address each -/
inductive TokAll (H : Hp) : List Addr → List (Tk × Nat) → Prop
  | nil : TokAll H [] []
  | cons {p k : Nat} {t : Tk} {ps : List Addr} {ts : List (Tk × Nat)} : H p = some (.tup (tupV t k)) → TokAll H ps ts → TokAll H (p :: ps) ((t, k) :: ts)
theorem TokAll.same {H H' : Hp} (s : Same H H') : ∀ {ps : List Addr} {ts : List (Tk × Nat)}, TokAll H ps ts → TokAll H' ps ts
  | _, _, .nil => .nil
  | _, _, .cons h r => .cons (s _ _ h) (TokAll.same s r)
theorem TokAll.put {H : Hp} {l : Addr} {xs ys : List V} (hl : H l = some (.lst xs)) : ∀ {ps : List Addr} {ts : List (Tk × Nat)}, TokAll H ps ts → TokAll (upd H l (.lst ys)) ps ts
  | _, _, .nil => .nil
  | _, _, .cons h r => .cons (by rw [upd_ne (ne_of h hl (fun z => by cases z))]; exact h) (TokAll.put hl r)
theorem TokAll.snoc {H : Hp} {p k : Nat} {t : Tk} (h : H p = some (.tup (tupV t k))) : ∀ {ps : List Addr} {ts : List (Tk × Nat)}, TokAll H ps ts → TokAll H (ps ++ [p]) (ts ++ [(t, k)])
  | _, _, .nil => .cons h .nil
  | _, _, .cons g r => .cons g (TokAll.snoc h r)
theorem TokAll.len {H : Hp} : ∀ {ps : List Addr} {ts : List (Tk × Nat)}, TokAll H ps ts → ps.length = ts.length
  | _, _, .nil => rfl
  | _, _, .cons _ r => congrArg (· + 1) (TokAll.len r)
def OutT (C : Addr) (H : Hp) (Q : VK) (E : XK) (m : Str) (ts : List (Tk × Nat)) : Option Nat → Prop
  | none => ∀ H' p ps, Same H H' → H' p = some (.lst (ps.map V.ref)) → TokAll H' ps ts → Q (.ref p) H'
  | some k => ∀ H' d, Same H H' → H' d = some (.xd (malF m (k : Nat))) → E (.ref C) (some d) H'
def spTokens (C : Addr) : Sp := fun vs H Q E => ∃ (z m : Str) (ts : List (Tk × Nat)) (e : Option Nat), vs = [.str z, .str m] ∧ z.length ≤ 20000 ∧ m.length ≤ 1000 ∧ Lx (codes z) 0 ts e ∧ OutT C H Q E m ts e
theorem one_eq (x : Nat) (y : Str) (c : Nat) (hy : y.cps.toList = [x]) : eqV (.str y) (.str ⟨#[c]⟩) = decide (c = x) := by
  have e := eq_txt x y c hy
  rw [← e]
  show (y == (⟨#[c]⟩ : Str)) = _
  rw [Bool.eq_iff_iff, decide_eq_true_iff, beq_iff_eq]
  exact ⟨fun z => by rw [z], fun z => (V.str.inj z).symm⟩
theorem ws_in (c : Nat) : inV (.str ⟨#[c]⟩) [.str " ", .str "\t", .str "\n"] = isWs c := by
  unfold inV isWs
  rw [List.any_cons, List.any_cons, List.any_cons, List.any_nil, one_eq 32 _ c (by decide +kernel), one_eq 9 _ c (by decide +kernel), one_eq 10 _ c (by decide +kernel), Bool.or_false, Bool.or_assoc]
theorem lx_nil {k : Nat} {ts : List (Tk × Nat)} {e : Option Nat} (h : Lx [] k ts e) : ts = [] ∧ e = none := by
  cases h
  exact ⟨rfl, rfl⟩
/-- the loop's word: at k the tokens dn stand in the list at p, rs are to come -/
def TokW (z m : Str) (p : Addr) (H : Hp) (ts : List (Tk × Nat)) (e : Option Nat) (μ : Nat) (σ : L2.St) (H' : Hp) : Prop :=
  ∃ (k : Nat) (ps : List Addr) (dn rs : List (Tk × Nat)) (y : Option V), σ = [some (.str z), some (.str m), some (.ref p), some (.int (k : Nat)), y] ∧ Same H H' ∧ H' p = some (.lst (ps.map V.ref)) ∧ TokAll H' ps dn ∧ dn ++ rs = ts ∧ dn.length ≤ k ∧ k + μ = z.length ∧ Lx ((codes z).drop k) k rs e
theorem scK : FnScope ["text", "module", "result", "at", "token"] ["text", "module"] (defScope (top 20)) := ⟨rfl, rfl, rfl, by decide +kernel, rfl, by decide +kernel, by decide +kernel⟩
theorem ok_tokens (T : Txt K mg a d) : FnOk PR w K mg base (L2.CX PR w) 7 a.fK d.dK ["text", "module"] (spTokens a.C) := by
  obtain ⟨tM, hM⟩ := T.maxT
  refine T.Ks.okX scK (fun vs H Q E h => ?_) (fun cdv A outer s H vs Q E hr h => ?_)
  · obtain ⟨z, m, ts, e, rfl, _⟩ := h
    rfl
  · obtain ⟨z, m, ts, e, rfl, hz, hm, hlx, q⟩ := h
    have hl : z.length ≤ sizeLine := Nat.le_trans (Nat.le_trans hz (by decide)) line_big
    have tk := takes_of (X := cxOf (L2.CX PR w) PR w K mg base ["text", "module", "result", "at", "token"] "tokens" (defScope (top 20)) a.fK cdv A outer s H E) rfl rfl rfl rfl
    refine ⟨_, pss_cons (ps_if (pt_cmpR op_gt (pe_callB call_len_str (by rfl) T.sm.len PySem.boot_len (pa_cons (pv 0) pa_nil)) (pe_glob (v := .int 20000) (by rfl) hM ⟨_, rfl⟩) (nomark _)) pss_never pss_nil)
      (pss_cons (ps_set (i := 2) scK.nd rfl (Or.inl rfl) (pe_lst pa_nil))
      (pss_cons (ps_set (i := 3) scK.nd rfl (Or.inl rfl) pe_int)
      (pss_cons (ps_while (passes_of rfl) (pt_cmpR op_lt (pv 3) (pe_callB call_len_str (by rfl) T.sm.len PySem.boot_len (pa_cons (pv 0) pa_nil)) (nomark _))
        (pss_one (ps_if (pt_cmpR op_in_seq (pe_item_str (pv 0) (pv 3) (fun _ _ => rfl)) (pe_tup (pa_cons pe_str (pa_cons pe_str (pa_cons pe_str pa_nil)))) (by rfl))
          (pss_one (ps_set (i := 3) scK.nd rfl (Or.inl rfl) (pe_op op_add (pv 3) pe_int)))
          (pss_one (ps_if (pt_cmpR op_eq (pe_item_str (pv 0) (pv 3) (fun _ _ => rfl)) pe_str (nomark _))
            (pss_one (ps_set (i := 3) scK.nd rfl (Or.inl rfl) (pe_call (ok_com T.C T.sm.len) (hr.mono (by decide)) (by rfl) T.gC T.C.kp (two_bind T.C fun _ _ _ _ _ _ _ _ => rfl) .nil pass0 (pa_cons (pv 0) (pa_cons (pv 3) pa_nil)))))
            (pss_cons (ps_asg (pe_callS (ok_token T) hr (by rfl) T.gT T.T.kp (three_bind T.T fun _ _ _ _ _ _ _ _ _ => rfl) (fun σ => passAt tk σ) (pa_cons (pv 0) (pa_cons (pv 3) (pa_cons (pv 1) pa_nil)))) (pg_tup rfl (pgs_cons (pg_name (i := 4) scK.nd rfl (.inl rfl)) (pgs_cons (pg_name (i := 3) scK.nd rfl (.inl rfl)) pgs_nil))))
              (pss_one (ps_expr (pe_bm PySem.F.plainAttrs_list PySem.F.slot_list_append PySem.F.type_list_append mt_append (pv 2) (pa_cons (pv 4) pa_nil))))))))))
      (pss_one (ps_ret (pv 2)))))), ?_⟩
    have three : 3 ≤ sizeLine := by rw [sizeLine_eq]; decide
    refine ⟨_, rfl, z, rfl, hl, _, _, rfl, rfl, _, rfl, ifF (decide_eq_false (by omega)) ?_⟩
    refine ⟨Nat.zero_le _, fun p np => ?_⟩
    refine ⟨TokW z m p H ts e, ⟨z.length, 0, [], [], ts, none, rfl, same_new np, upd_same, .nil, rfl, Nat.le_refl _, by omega, hlx⟩, ?_⟩
    rintro μ σ H' ⟨k, ps, dn, rs, y, rfl, sm, hp, ta, ed, hdn, hk, hx⟩
    refine ⟨_, rfl, _, rfl, z, rfl, hl, _, _, rfl, rfl, _, rfl, ?_⟩
    by_cases hlt : k < z.length
    · obtain ⟨c, hget, hd⟩ := drop_at hlt
      rw [hd] at hx
      refine ifT (decide_eq_true (by omega)) ⟨fun σ' H'' => ∃ μ', μ' < μ ∧ TokW z m p H ts e μ' σ' H'', fun _ _ h => h, ?_⟩
      refine ⟨_, rfl, _, rfl, z, (k : Int), c, rfl, rfl, by omega, by omega, by omega, hget, three, fun q1 hq1 => ⟨q1, _, rfl, .inr (SqT.of upd_same), rfl, rfl, _, rfl, ?_⟩⟩
      have sm1 : Same H' (upd H' q1 (.tup [.str " ", .str "\t", .str "\n"])) := same_new hq1
      have hp1 := sm1 _ _ hp
      have ta1 := ta.same sm1
      have sm2 := sm.trans sm1
      show if inV (.str ⟨#[c]⟩) [.str " ", .str "\t", .str "\n"] = true then _ else _
      rw [ws_in]
      generalize upd H' q1 (.tup [.str " ", .str "\t", .str "\n"]) = H1 at *
      cases hx with
      | ws h1 h2 =>
        refine ifT h1 ⟨_, rfl, (k : Int), 1, rfl, rfl, μ - 1, by omega, k + 1, ps, dn, rs, y, ?_, sm2, hp1, ta1, ed, by omega, by omega, h2⟩
        show [_, _, _, some (V.int ((k : Int) + 1)), _] = _
        rw [show ((k : Int) + 1) = ((k + 1 : Nat) : Int) by omega]
      | com h1 =>
        refine ifF (by decide) ⟨_, rfl, _, rfl, z, (k : Int), 35, rfl, rfl, by omega, by omega, by omega, hget, rfl, _, rfl, ?_⟩
        rw [eq_txt 35 _ 35 (by decide +kernel)]
        refine ifT (by decide) ⟨_, rfl, _, rfl, z, k, rfl, by omega, Nat.le_of_lt hlt, ?_⟩
        have er : runTo notNl z k = k + ((35 :: (codes z).drop (k + 1)).takeWhile notNl).length := by unfold runTo; rw [hd]
        have r1 := @runTo_le notNl z k (Nat.le_of_lt hlt)
        have r2 := @run_step ((codes z).drop (k + 1)) 35 notNl (by decide)
        refine ⟨z.length - runTo notNl z k, by omega, runTo notNl z k, ps, dn, rs, y, rfl, sm2, hp1, ta1, ed, by omega, by omega, ?_⟩
        rw [er, ← List.drop_drop, hd]
        exact h1
      | tok h1 h2 h3 h4 =>
        rename_i n t ts'
        obtain ⟨n0, n1⟩ := rd_pos h3
        have n2 : k + n ≤ z.length := by
          have e1 := congrArg List.length hd
          rw [List.length_drop, len_codes] at e1
          omega
        refine ifF h1 ⟨_, rfl, _, rfl, z, (k : Int), c, rfl, rfl, by omega, by omega, by omega, hget, rfl, _, rfl, ?_⟩
        rw [eq_txt 35 _ c (by decide +kernel)]
        refine ifF (decide_eq_false h2) ⟨_, rfl, _, rfl, _, rfl, z, k, m, c, (codes z).drop (k + 1), some (t, n), rfl, hz, hm, hd, rfl, h3, fun H2 pt p2 s3 e1 e2 => ?_⟩
        have hp2 := s3 _ _ hp1
        have lenp : (ps.map V.ref).length < sizeLine := by
          rw [List.length_map, ta.len]
          omega
        refine ⟨p2, _, rfl, SqT.of e2, rfl, _, _, rfl, _, _, rfl, rfl, ?_⟩
        refine ⟨_, rfl, .inl ⟨rfl, _, SqL.of hp2⟩, _, rfl, p, _, _, rfl, rfl, hp2, lenp, ?_⟩
        refine ⟨μ - n, by omega, k + n, ps ++ [pt], dn ++ [(t, k)], ts', some (.ref pt), rfl, fun b o eb => ?_, ?_, (TokAll.snoc e1 (ta1.same s3)).put hp2, ?_, ?_, by omega, ?_⟩
        · rw [upd_ne (ne_of_none eb np)]
          exact s3 _ _ (sm2 _ _ eb)
        · rw [upd_same, List.map_append]
          rfl
        · rw [List.append_assoc]
          exact ed
        · rw [List.length_append]
          show dn.length + 1 ≤ k + n
          omega
        · rw [← List.drop_drop, hd]
          exact h4
      | bad h1 h2 h3 =>
        refine ifF h1 ⟨_, rfl, _, rfl, z, (k : Int), c, rfl, rfl, by omega, by omega, by omega, hget, rfl, _, rfl, ?_⟩
        rw [eq_txt 35 _ c (by decide +kernel)]
        exact ifF (decide_eq_false h2) ⟨_, rfl, _, rfl, _, rfl, z, k, m, c, (codes z).drop (k + 1), none, rfl, hz, hm, hd, rfl, h3, fun H2 d' s3 e2 => q H2 d' (sm2.trans s3) e2⟩
    · have e0 : (codes z).drop k = [] := List.drop_of_length_le (by rw [len_codes]; omega)
      rw [e0] at hx
      obtain ⟨rfl, rfl⟩ := lx_nil hx
      rw [List.append_nil] at ed
      subst ed
      exact ifF (decide_eq_false (by omega)) ⟨_, rfl, q H' p ps sm hp ta⟩
end
end Fa
set_option Elab.async false
set_option linter.all false
set_option maxRecDepth 100000
set_option maxHeartbeats 4000000
/-! is_name. -/
namespace Fa
open PySem PySem.Spec PyProof.Rows L2
section
variable {w : World} {K : PySem.W.Frag} {mg : Str → Option Value} {base : Heap} {a : Ad} {d : Fd}
theorem scN : FnScope ["value", "char"] ["value"] (defScope (top 12)) := ⟨rfl, rfl, rfl, by decide +kernel, rfl, by decide +kernel, by decide +kernel⟩
/-- is_name(value) of a text, of a number -/
def spNm : Sp := fun vs H Q _ => (∃ z : Str, vs = [.str z] ∧ z.length ≤ 20000 ∧ ∀ H', Same H H' → Q (.bl (isNm (codes z))) H') ∨ (∃ i : Int, vs = [.int i] ∧ ∀ H', Same H H' → Q (.bl false) H')
theorem empty_eq (z : Str) : decide (V.str z = V.str "") = (codes z).isEmpty := by
  have e0 : (Str.ofString "") = S [] := by decide +kernel
  rw [e0]
  cases h : codes z with
  | nil =>
    have e : z = S [] := by rw [← S_codes z, h]
    rw [e]
    exact decide_eq_true rfl
  | cons c r =>
    refine decide_eq_false (fun y => ?_)
    have y2 := congrArg codes (V.str.inj y)
    rw [h] at y2
    cases y2
theorem ok_name (T : Txt K mg a d) : FnOk PR w K mg base CX0 3 a.fN d.dN ["value"] spNm := by
  obtain ⟨tN, hN⟩ := T.maxN
  refine T.N.ok scN (fun vs H Q E h => ?_) (fun cdv A outer s H vs Q E hr h => ?_)
  · rcases h with ⟨z, rfl, _⟩ | ⟨i, rfl, _⟩ <;> rfl
  · refine ⟨_, pss_cons (ps_if (PW.pt (pw_or (pt_not (pt_val (pe_callB call_isi (by rfl) T.nisi (by decide +kernel) (pa_cons (pv 0) (pa_cons (pe_bltn (v := .ty "str") (u := .type "str") (by rfl) T.mal.mt (by decide +kernel) rfl) pa_nil)))))
        (pw_or (pt_cmpR op_eq (pv 0) pe_str (nomark _)) (pw_or (pt_cmpR op_gt (pe_callB call_len_str (by rfl) T.sm.len PySem.boot_len (pa_cons (pv 0) pa_nil)) (pe_glob (v := .int 20) (by rfl) hN ⟨_, rfl⟩) (nomark _))
          (pw_or1 (pt_cmpR op_in_seq (pv 0) (pe_glob (v := .ref a.res) (by rfl) T.res rfl) (by rfl)))))))
        (pss_one (ps_ret pe_bl)) pss_nil)
      (pss_one (ps_ret (pe_and (pe_call (ok_let T.sm.L) (hr.mono (by decide)) (by rfl) T.sm.gL T.sm.L.kp (one_bind T.sm.L fun _ _ _ _ _ _ _ => rfl) .nil pass0 (pa_cons (pe_ix ix_str (pv 0) pe_int (fun _ _ => rfl)) pa_nil))
        (pe_one (pe_callB (cr_all rfl) (by rfl) T.nall (by decide +kernel) (pa_cons (pe_lc (own := [("char", 1)]) (g := gName 1) (tt := tYes) rfl scN.nd (pi_str (pv 0)) (blkOk_by (N := ["value", "char"]) (sc := defScope (top 12)) (by decide +kernel))
            (fun _ _ _ _ _ => pg_name (i := 1) scN.nd rfl (Or.inl rfl)) (fun _ _ _ _ _ => pts_nil) (fun _ _ _ _ _ => pe_call (ok_in T.sm) hr (by rfl) T.sm.gI T.sm.I.kp (one_bind T.sm.I fun _ _ _ _ _ _ _ => rfl) .nil pass0 (pa_cons (pv 1) pa_nil))) pa_nil)))))), ?_⟩
    rcases h with ⟨z, rfl, hz, q⟩ | ⟨i, rfl, q⟩
    · have hl : z.length ≤ sizeLine := Nat.le_trans (Nat.le_trans hz (by decide)) line_big
      refine ⟨_, rfl, .str z, .ty "str", .type "str", .type "str", true, rfl, .ty _, .base (.str z), kit_ty (by decide +kernel), _, rfl, iteF ?_⟩
      refine ⟨_, rfl, rfl, _, rfl, ?_⟩
      rw [empty_eq]
      cases hc : codes z with
      | nil =>
        rw [hc] at q
        exact iteT (iteT (q H (Same.refl H)))
      | cons c r =>
        rw [hc] at q
        refine iteF ⟨_, rfl, z, rfl, hl, _, _, rfl, rfl, _, rfl, ?_⟩
        have lz : z.length = (c :: r).length := by rw [← hc, len_codes]
        by_cases h1 : 20 < z.length
        · have e : isNm (c :: r) = false := by
            show (decide _ && _ && _ && _) = false
            rw [decide_eq_false (show ¬ (c :: r).length ≤ 20 by omega)]
            rfl
          rw [e] at q
          exact ifT (decide_eq_true (by omega)) (iteT (q H (Same.refl H)))
        refine ifF (decide_eq_false (by omega)) ⟨_, rfl, a.res, resv.map V.str, rfl, .inr (T.resT H), rfl, flat_strs _, _, rfl, ?_⟩
        show if inV (.str z) (resv.map V.str) = true then _ else _
        have ez : z = S (c :: r) := by rw [← hc, S_codes]
        have ein : inV (.str z) (resv.map V.str) = isRes (c :: r) := by rw [ez, isRes_in]
        rw [ein]
        have en : isNm (c :: r) = (!isRes (c :: r) && isLet c && (c :: r).all inNm) := by
          show (decide _ && _ && _ && _) = _
          rw [decide_eq_true (show (c :: r).length ≤ 20 by omega), Bool.true_and]
        rw [en] at q
        cases h2 : isRes (c :: r) with
        | true =>
          rw [h2] at q
          exact iteT (q H (Same.refl H))
        | false =>
          rw [h2] at q
          refine iteF ⟨_, rfl, z, (0 : Nat), c, rfl, rfl, hl, atI_nat (show (codes z)[0]? = some c by rw [hc]; rfl), c, rfl, _, rfl, ?_⟩
          cases h3 : isLet c with
          | false =>
            rw [h3] at q
            exact iteF (q H (Same.refl H))
          | true =>
            rw [h3] at q
            refine iteT ?_
            refine all_read inNm (sp := spIn) (fun c H' Q' q => ⟨c, rfl, q⟩) rfl (show (1 : Nat) < 2 by decide) (Nat.le_trans hz (by decide)) (fun H1 s1 => ?_)
            rw [hc]
            exact q H1 s1
    · refine ⟨_, rfl, .int i, .ty "str", .type "int", .type "str", false, rfl, .ty _, .base (.int i), kit_ty (by decide +kernel), _, rfl, iteT (iteT ?_)⟩
      exact q H (Same.refl H)
end
end Fa
set_option Elab.async false
set_option linter.all false
set_option maxRecDepth 100000
set_option maxHeartbeats 4000000
/-! The law's own helpers: a cell, a word, a token, what stands between, what is refused. -/
namespace Fa
open PySem PySem.Spec PyProof.Rows L2
structure LAd where
  (fCell fWord fTok fSpc fBad : Addr)
structure LFd where
  (dCell dWord dTok dSpc dBad : FuncData)
structure LTxt (K : PySem.W.Frag) (mg : Str → Option Value) (b : LAd) (e : LFd) : Prop where
  cell : FN K "_law_cell" 22 b.fCell e.dCell
  word : FN K "_law_word" 23 b.fWord e.dWord
  tok : FN K "_law_token" 24 b.fTok e.dTok
  spc : FN K "_law_space" 25 b.fSpc e.dSpc
  bad : FN K "_law_bad" 26 b.fBad e.dBad
  gCell : mg "_law_cell" = some (.ref b.fCell)
  gWord : mg "_law_word" = some (.ref b.fWord)
  gTok : mg "_law_token" = some (.ref b.fTok)
  gSpc : mg "_law_space" = some (.ref b.fSpc)
  gBad : mg "_law_bad" = some (.ref b.fBad)
  range : mg "range" = none
section
variable {w : World} {K : PySem.W.Frag} {mg : Str → Option Value} {base : Heap} {a : Ad} {d : Fd} {b : LAd} {e : LFd}
/-! ### _law_cell -/
theorem scCell : FnScope ["_law_script", "_law_k"] ["_law_script", "_law_k"] (defScope (top 22)) := ⟨rfl, rfl, rfl, by decide +kernel, rfl, by decide +kernel, by decide +kernel⟩
def spACell (K : PySem.W.Frag) : Sp := fun vs H Q _ => ∃ (l : Addr) (ns : List Int) (k : Nat), vs = [.ref l, .int (k : Nat)] ∧ SqL K H l (ns.map V.int) ∧ Q (.int (ns.getD k 0)) H
theorem ok_cell (T : Txt K mg a d) (L : LTxt K mg b e) : FnOk PR w K mg base CX0 1 b.fCell e.dCell ["_law_script", "_law_k"] (spACell K) := by
  refine L.cell.ok scCell (fun vs H Q E h => ?_) (fun cdv A outer s H vs Q E hr h => ?_)
  · obtain ⟨l, ns, k, rfl, _⟩ := h
    rfl
  · obtain ⟨l, ns, k, rfl, hs, q⟩ := h
    refine ⟨_, pss_cons (ps_if (pt_cmpR op_lt (pv 1) (pe_callB call_len_seq (by rfl) T.sm.len PySem.boot_len (pa_cons (pv 0) pa_nil)) (nomark _))
        (pss_one (ps_ret (pe_callTy call_int1 (by rfl) T.nint (by decide +kernel) (pa_cons (pe_ix ix_list (pv 0) (pv 1) (fun _ _ => rfl)) pa_nil)))) pss_nil)
      (pss_one (ps_ret pe_int)), ?_⟩
    refine ⟨_, rfl, _, rfl, l, ns.map V.int, rfl, .inl hs, _, _, rfl, rfl, _, rfl, ?_⟩
    rw [List.length_map]
    by_cases hk : k < ns.length
    · refine ifT (decide_eq_true (by omega)) ⟨_, rfl, _, rfl, l, ns.map V.int, (k : Nat), V.int (ns.getD k 0), rfl, rfl, hs, atI_nat ?_, .inl ⟨_, rfl, q⟩⟩
      rw [List.getElem?_map, List.getD_eq_getElem?_getD, List.getElem?_eq_getElem hk]
      rfl
    · refine ifF (decide_eq_false (by omega)) ?_
      rw [List.getD_eq_getElem?_getD, List.getElem?_eq_none (by omega)] at q
      exact q
/-! ### _law_word -/
theorem scWord : FnScope ["_law_cell_here", "_law_letters", "_law_more", "_law_text", "_law_rest", "_law_k"] ["_law_cell_here"] (defScope (top 23)) := ⟨rfl, rfl, rfl, by decide +kernel, rfl, by decide +kernel, by decide +kernel⟩
def spAWord : Sp := fun vs H Q _ => ∃ n : Nat, vs = [.int (n : Nat)] ∧ Q (.str (S (lw n))) H
theorem lwTail_succ (n i : Nat) : lwTail n (i + 1) = lwTail n i ++ [more.getD (n / (3 + i) % 63) 0] := by
  unfold lwTail
  rw [List.range_succ, List.map_append] <;> rfl
theorem at_getD {l : List Nat} {i : Nat} (h : i < l.length) : atI l ((i : Nat) : Int) = some (l.getD i 0) := atI_nat (by rw [List.getD_eq_getElem?_getD, List.getElem?_eq_getElem h] <;> rfl)
theorem ok_aword (T : Txt K mg a d) (L : LTxt K mg b e) : FnOk PR w K mg base CX0 1 b.fWord e.dWord ["_law_cell_here"] spAWord := by
  refine L.word.ok scWord (fun vs H Q E h => ?_) (fun cdv A outer s H vs Q E hr h => ?_)
  · obtain ⟨n, rfl, _⟩ := h
    rfl
  · obtain ⟨n, rfl, q⟩ := h
    refine ⟨_, pss_cons (ps_set (i := 1) scWord.nd rfl (Or.inl rfl) pe_str)
      (pss_cons (ps_set (i := 2) scWord.nd rfl (Or.inl rfl) (pe_op op_add_str (pv 1) pe_str))
      (pss_cons (ps_set (i := 3) scWord.nd rfl (Or.inl rfl) (pe_ix ix_str (pv 1) (pe_op op_mod (pe_callTy call_int1 (by rfl) T.nint (by decide +kernel) (pa_cons (pv 0) pa_nil)) pe_int) (fun _ _ => rfl)))
      (pss_cons (ps_set (i := 4) scWord.nd rfl (Or.inl rfl) (pe_op op_fdiv (pv 0) pe_int))
      (pss_cons (ps_for PassesOwn.never rfl (pi_range1 rfl L.range (pa_cons (pe_op op_mod (pe_callTy call_int1 (by rfl) T.nint (by decide +kernel) (pa_cons (pv 4) pa_nil)) pe_int) pa_nil)) (pg_name (i := 5) scWord.nd rfl (Or.inl rfl))
        (pss_one (ps_set (i := 3) scWord.nd rfl (Or.inl rfl) (pe_op op_add_str (pv 3) (pe_ix ix_str (pv 2) (pe_op op_mod (pe_callTy call_int1 (by rfl) T.nint (by decide +kernel) (pa_cons (pe_op op_fdiv (pv 4) (pe_op op_add pe_int (pv 5))) pa_nil)) pe_int) (fun _ _ => rfl))))))
      (pss_one (ps_ret (pv 3))))))), ?_⟩
    have hbig : (1000 : Nat) ≤ sizeLine := by rw [sizeLine_eq]; decide
    have eL : (Str.ofString "abcdefghijklmnopqrstuvwxyzABCDEFGHIJKLMNOPQRSTUVWXYZ") = S letters := by decide +kernel
    have eM : S letters ++ (Str.ofString "0123456789_") = S more := by decide +kernel
    have ll : (S letters).length = 52 := by decide +kernel
    have lm : (S more).length = 63 := by decide +kernel
    have l11 : (Str.ofString "0123456789_").length = 11 := by decide +kernel
    rw [eL]
    refine ⟨_, rfl, _, _, rfl, rfl, by rw [ll, l11]; omega, ?_⟩
    rw [eM]
    have m52 : n % 52 < 52 := Nat.mod_lt _ (by decide)
    refine ⟨_, rfl, _, rfl, .inl ⟨(n : Int), rfl, (n : Int), 52, rfl, rfl, (show (0 : Int) < 52 by decide), S letters, ((n % 52 : Nat) : Int), letters.getD (n % 52) 0, rfl, rfl, by rw [ll]; omega, at_getD (show n % 52 < letters.length by rw [letters_len]; exact m52), ?_⟩⟩
    refine ⟨_, rfl, (n : Int), 52, rfl, rfl, ⟨show (0 : Int) < 52 by decide, show (52 : Int) < 1073741824 by decide⟩, ?_⟩
    simp only [show (n : Int) / 52 = ((n / 52 : Nat) : Int) by omega]
    have m20 : n / 52 % 20 < 20 := Nat.mod_lt _ (by decide)
    refine ⟨_, rfl, .inl ⟨((n / 52 : Nat) : Int), rfl, ((n / 52 : Nat) : Int), 20, rfl, rfl, (show (0 : Int) < 20 by decide), ((n / 52 % 20 : Nat) : Int), by rw [show ((n / 52 % 20 : Nat) : Int) = ((n / 52 : Nat) : Int) % 20 by omega], by omega, by omega, ?_⟩⟩
    rw [Int.toNat_natCast]
    refine for_range (lo := 0) (n := n / 52 % 20) (fun i σ H' => H' = H ∧ ∃ y, σ = [some (.int (n : Nat)), some (.str (S letters)), some (.str (S more)), some (.str (S (letters.getD (n % 52) 0 :: lwTail (n / 52) i))), some (.int ((n / 52 : Nat) : Int)), y]) ⟨rfl, none, rfl⟩ ?_ ?_
    · rintro i σ H' hi ⟨rfl, y, rfl⟩
      have m63 : n / 52 / (3 + i) % 63 < 63 := Nat.mod_lt _ (by decide)
      have ed : ((n / 52 : Nat) : Int) / (3 + (0 + (i : Int))) = ((n / 52 / (3 + i) : Nat) : Int) := by
        rw [Int.natCast_ediv (n / 52) (3 + i)]
        congr 1
        omega
      refine ⟨_, rfl, _, rfl, _, rfl, _, rfl, 3, 0 + (i : Int), rfl, rfl, ((n / 52 : Nat) : Int), 3 + (0 + (i : Int)), rfl, rfl, ⟨by omega, by omega⟩, .inl ⟨_, rfl, ((n / 52 / (3 + i) : Nat) : Int), 63, by rw [ed], rfl, (show (0 : Int) < 63 by decide), S more, ((n / 52 / (3 + i) % 63 : Nat) : Int), more.getD (n / 52 / (3 + i) % 63) 0, rfl, ?_, by rw [lm]; omega, at_getD (show n / 52 / (3 + i) % 63 < more.length by rw [more_len]; exact m63), ?_⟩⟩
      · rw [show ((n / 52 / (3 + i) % 63 : Nat) : Int) = ((n / 52 / (3 + i) : Nat) : Int) % 63 by omega]
      · refine ⟨_, _, rfl, rfl, ?_, rfl, some (.int (0 + (i : Int))), ?_⟩
        · rw [len_S, List.length_cons, lwTail_len]
          show _ + 1 ≤ sizeLine
          omega
        · rw [lwTail_succ]
          show [_, _, _, some (V.str (S _ ++ S [_])), _, _] = _
          rw [S_app]
          rfl
    · rintro σ H' ⟨rfl, y, rfl⟩
      exact ⟨_, rfl, q⟩
/-! ### _law_token -/
theorem scTok : FnScope ["_law_cell_here", "_law_kind", "_law_rest", "_law_word_here", "_law_signs", "_law_sign"] ["_law_cell_here"] (defScope (top 24)) := ⟨rfl, rfl, rfl, by decide +kernel, rfl, by decide +kernel, by decide +kernel⟩
def tokV (t : Tk) : List V := [.str t.kind, t.val, .str (S t.raw)]
def spATok : Sp := fun vs H Q _ => ∃ n : Nat, vs = [.int (n : Nat)] ∧ ∀ H' p, Same H H' → H' p = some (.lst (tokV (lawTk n))) → Q (.ref p) H'
theorem word_bind (L : LTxt K mg b e) : Binds K e.dWord ["_law_cell_here"] [] := one_bind L.word fun _ _ _ _ _ _ _ => rfl
theorem mod_nat (n m : Nat) : ((n : Nat) : Int) % ((m : Nat) : Int) = ((n % m : Nat) : Int) := by
  rw [Int.natCast_emod]
theorem str_getD {l : List Str} {i : Nat} (h : i < l.length) : (l.map V.str)[i]? = some (V.str (l.getD i (S []))) := by
  rw [List.getElem?_map, List.getD_eq_getElem?_getD, List.getElem?_eq_getElem h]
  rfl
theorem ok_tok (T : Txt K mg a d) (L : LTxt K mg b e) : FnOk PR w K mg base CX0 2 b.fTok e.dTok ["_law_cell_here"] spATok := by
  refine L.tok.ok scTok (fun vs H Q E h => ?_) (fun cdv A outer s H vs Q E hr h => ?_)
  · obtain ⟨n, rfl, _⟩ := h
    rfl
  · obtain ⟨n, rfl, q⟩ := h
    refine ⟨_, pss_cons (ps_set (i := 1) scTok.nd rfl (Or.inl rfl) (pe_op op_mod (pe_callTy call_int1 (by rfl) T.nint (by decide +kernel) (pa_cons (pv 0) pa_nil)) pe_int))
      (pss_cons (ps_set (i := 2) scTok.nd rfl (Or.inl rfl) (pe_op op_fdiv (pv 0) pe_int))
      (pss_cons (ps_if (pt_cmpR op_eq (pv 1) pe_int (nomark _))
        (pss_cons (ps_set (i := 3) scTok.nd rfl (Or.inl rfl) (pe_ix ix_tup (pe_glob (v := .ref a.res) (by rfl) T.res rfl) (pe_op op_mod (pe_callTy call_int1 (by rfl) T.nint (by decide +kernel) (pa_cons (pv 2) pa_nil)) (pe_callB call_len_seq (by rfl) T.sm.len PySem.boot_len (pa_cons (pe_glob (v := .ref a.res) (by rfl) T.res rfl) pa_nil))) (fun _ _ => rfl)))
          (pss_one (ps_ret (pe_lst (pa_cons pe_str (pa_cons (pv 3) (pa_cons (pv 3) pa_nil))))))) pss_nil)
      (pss_cons (ps_if (pt_cmpR op_eq (pv 1) pe_int (nomark _))
        (pss_cons (ps_set (i := 3) scTok.nd rfl (Or.inl rfl) (pe_call (ok_aword T L) hr (by rfl) L.gWord L.word.kp (word_bind L) .nil pass0 (pa_cons (pv 2) pa_nil)))
          (pss_cons (ps_if (pt_cmpR op_in_seq (pv 3) (pe_glob (v := .ref a.res) (by rfl) T.res rfl) (by rfl)) (pss_one (ps_ret (pe_lst (pa_cons pe_str (pa_cons (pv 3) (pa_cons (pv 3) pa_nil)))))) pss_nil)
          (pss_one (ps_ret (pe_lst (pa_cons pe_str (pa_cons (pv 3) (pa_cons (pv 3) pa_nil)))))))) pss_nil)
      (pss_cons (ps_if (pt_cmpR op_eq (pv 1) pe_int (nomark _))
        (pss_one (ps_ret (pe_lst (pa_cons pe_str (pa_cons (pe_op op_mod (pe_callTy call_int1 (by rfl) T.nint (by decide +kernel) (pa_cons (pv 2) pa_nil)) pe_int)
          (pa_cons (pe_callTy call_str_int (by rfl) T.mal.mt (by decide +kernel) (pa_cons (pe_op op_mod (pe_callTy call_int1 (by rfl) T.nint (by decide +kernel) (pa_cons (pv 2) pa_nil)) pe_int) pa_nil)) pa_nil)))))) pss_nil)
      (pss_cons (ps_if (pt_cmpR op_eq (pv 1) pe_int (nomark _))
        (pss_cons (ps_set (i := 3) scTok.nd rfl (Or.inl rfl) (pe_call (ok_aword T L) hr (by rfl) L.gWord L.word.kp (word_bind L) .nil pass0 (pa_cons (pv 2) pa_nil)))
          (pss_one (ps_ret (pe_lst (pa_cons pe_str (pa_cons (pv 3) (pa_cons (pe_op op_add_str (pe_op op_add_str pe_str (pv 3)) pe_str) pa_nil))))))) pss_nil)
      (pss_cons (ps_set (i := 4) scTok.nd rfl (Or.inl rfl) (pe_lst (pa_cons pe_str (pa_cons pe_str (pa_cons pe_str (pa_cons pe_str (pa_cons pe_str (pa_cons pe_str (pa_cons pe_str (pa_cons pe_str (pa_cons pe_str (pa_cons pe_str (pa_cons pe_str (pa_cons pe_str (pa_cons pe_str pa_nil)))))))))))))))
      (pss_cons (ps_set (i := 5) scTok.nd rfl (Or.inl rfl) (pe_ix ix_list (pv 4) (pe_op op_mod (pe_callTy call_int1 (by rfl) T.nint (by decide +kernel) (pa_cons (pv 2) pa_nil)) pe_int) (fun _ _ => rfl)))
      (pss_one (ps_ret (pe_lst (pa_cons pe_str (pa_cons (pv 5) (pa_cons (pv 5) pa_nil))))))))))))), ?_⟩
    have three : 3 ≤ sizeLine := by rw [sizeLine_eq]; decide
    have hbig : (1000 : Nat) ≤ sizeLine := by rw [sizeLine_eq]; decide
    have m6 : n % 6 < 6 := Nat.mod_lt _ (by decide)
    refine ⟨_, rfl, .inl ⟨(n : Int), rfl, (n : Int), 6, rfl, rfl, (show (0 : Int) < 6 by decide), ?_⟩⟩
    simp only [show (n : Int) % 6 = ((n % 6 : Nat) : Int) by omega]
    refine ⟨_, rfl, (n : Int), 6, rfl, rfl, ⟨show (0 : Int) < 6 by decide, show (6 : Int) < 1073741824 by decide⟩, ?_⟩
    simp only [show (n : Int) / 6 = ((n / 6 : Nat) : Int) by omega]
    have deci : ∀ j : Nat, decide (V.int ((n % 6 : Nat) : Int) = V.int (j : Int)) = decide (n % 6 = j) := fun j => by
      by_cases h : n % 6 = j
      · rw [h, decide_eq_true rfl, decide_eq_true rfl]
      · rw [decide_eq_false h, decide_eq_false (fun y => h (by have := V.int.inj y; omega))]
    unfold lawTk at q
    refine ⟨_, rfl, rfl, _, rfl, ?_⟩
    by_cases h0 : n % 6 = 0
    · rw [if_pos h0] at q
      refine ifT ((deci 0).trans (decide_eq_true h0)) ?_
      have hm : n / 6 % 21 < resv.length := Nat.mod_lt _ (by decide)
      refine ⟨_, rfl, .inl ⟨((n / 6 : Nat) : Int), rfl, a.res, resv.map V.str, rfl, .inr (T.resT H), ((n / 6 : Nat) : Int), ((21 : Nat) : Int), rfl, rfl, (show (0 : Int) < 21 by decide), a.res, resv.map V.str, ((n / 6 % 21 : Nat) : Int), _, rfl, ?_, T.resT H, atI_nat (str_getD hm), ?_⟩⟩
      · exact congrArg V.int (mod_nat _ _)
      · refine ⟨_, rfl, _, rfl, three, fun p hp => q _ p (same_new hp) ?_⟩
        rw [upd_same]
        show some (HO.lst [_, V.str _, V.str _]) = some (HO.lst [_, V.str (S (codes _)), V.str (S (codes _))])
        rw [S_codes]
        rfl
    rw [if_neg h0] at q
    refine ifF ((deci 0).trans (decide_eq_false h0)) ⟨_, rfl, rfl, _, rfl, ?_⟩
    by_cases h1 : n % 6 = 1
    · rw [if_pos h1] at q
      refine ifT ((deci 1).trans (decide_eq_true h1)) ⟨_, rfl, n / 6, rfl, ?_⟩
      refine ⟨_, rfl, a.res, resv.map V.str, rfl, .inr (T.resT H), rfl, flat_strs _, _, rfl, ?_⟩
      show if inV (.str (S (lw (n / 6)))) (resv.map V.str) = true then _ else _
      rw [isRes_in]
      cases hr2 : isRes (lw (n / 6)) with
      | true =>
        rw [hr2] at q
        exact iteT ⟨_, rfl, _, rfl, three, fun p hp => q _ p (same_new hp) upd_same⟩
      | false =>
        rw [hr2] at q
        exact iteF ⟨_, rfl, _, rfl, three, fun p hp => q _ p (same_new hp) upd_same⟩
    rw [if_neg h1] at q
    refine ifF ((deci 1).trans (decide_eq_false h1)) ⟨_, rfl, rfl, _, rfl, ?_⟩
    by_cases h2 : n % 6 = 2
    · rw [if_pos h2] at q
      refine ifT ((deci 2).trans (decide_eq_true h2)) ?_
      have em : ((n / 6 : Nat) : Int) % 65536 = ((n / 6 % 65536 : Nat) : Int) := mod_nat _ 65536
      refine ⟨_, rfl, .inl ⟨((n / 6 : Nat) : Int), rfl, ((n / 6 : Nat) : Int), 65536, rfl, rfl, (show (0 : Int) < 65536 by decide), _, rfl, .inl ⟨((n / 6 : Nat) : Int), rfl, ((n / 6 : Nat) : Int), 65536, rfl, rfl, (show (0 : Int) < 65536 by decide), ((n / 6 % 65536 : Nat) : Int), congrArg (fun y : Int => [V.int y]) em, log_small (by omega) (by omega), three, fun p hp => q _ p (same_new hp) ?_⟩⟩⟩
      rw [upd_same]
      show some (HO.lst [_, V.int (((n / 6 : Nat) : Int) % 65536), _]) = _
      rw [em]
      show some (HO.lst [_, _, V.str (Str.ofString (toString ((n / 6 % 65536 : Nat) : Int)))]) = some (HO.lst [_, _, V.str (S (TL.numL (n / 6 % 65536)))])
      rw [← TL.tl_num, show (TL.tl (Str.ofString (toString ((n / 6 % 65536 : Nat) : Int)))) = codes (Str.ofString (toString ((n / 6 % 65536 : Nat) : Int))) from rfl, S_codes]
      rfl
    rw [if_neg h2] at q
    refine ifF ((deci 2).trans (decide_eq_false h2)) ⟨_, rfl, rfl, _, rfl, ?_⟩
    by_cases h3 : n % 6 = 3
    · rw [if_pos h3] at q
      refine ifT ((deci 3).trans (decide_eq_true h3)) ⟨_, rfl, n / 6, rfl, ?_⟩
      have hl := lw_len (n / 6)
      have e1 : (Str.ofString "\"") = S [34] := by decide +kernel
      refine ⟨_, rfl, _, rfl, _, _, rfl, rfl, ?_, _, _, rfl, rfl, ?_, three, fun p hp => q _ p (same_new hp) ?_⟩
      · rw [e1]
        show 1 + (lw (n / 6)).length ≤ sizeLine
        omega
      · rw [e1, S_app]
        show (34 :: lw (n / 6)).length + 1 ≤ sizeLine
        rw [List.length_cons]
        omega
      · rw [upd_same, e1, S_app, S_app]
        rfl
    rw [if_neg h3] at q
    refine ifF ((deci 3).trans (decide_eq_false h3)) ?_
    have hm : n / 6 % 13 < sgns.length := Nat.mod_lt _ (by decide)
    refine ⟨by show 13 ≤ sizeLine; omega, fun l hl => ?_⟩
    refine ⟨_, rfl, _, rfl, .inl ⟨((n / 6 : Nat) : Int), rfl, ((n / 6 : Nat) : Int), 13, rfl, rfl, (show (0 : Int) < 13 by decide), l, sgns.map V.str, ((n / 6 % 13 : Nat) : Int), _, rfl, congrArg V.int (mod_nat _ 13), SqL.of upd_same, atI_nat (str_getD hm), ?_⟩⟩
    refine ⟨_, rfl, _, rfl, three, fun p hp => q _ p ((same_new hl).trans (same_new hp)) ?_⟩
    rw [upd_same]
    show some (HO.lst [_, V.str _, V.str _]) = some (HO.lst [_, V.str (S (codes _)), V.str (S (codes _))])
    rw [S_codes]
    rfl
/-! ### _law_space, _law_bad -/
theorem scSpc : FnScope ["_law_cell_here"] ["_law_cell_here"] (defScope (top 25)) := ⟨rfl, rfl, rfl, by decide +kernel, rfl, by decide +kernel, by decide +kernel⟩
def spASpc : Sp := fun vs H Q _ => ∃ n : Nat, vs = [.int (n : Nat)] ∧ ∀ H', Same H H' → Q (.str (S (Fa.spc n))) H'
theorem ok_spc (T : Txt K mg a d) (L : LTxt K mg b e) : FnOk PR w K mg base CX0 1 b.fSpc e.dSpc ["_law_cell_here"] spASpc := by
  refine L.spc.ok scSpc (fun vs H Q E h => ?_) (fun cdv A outer s H vs Q E hr h => ?_)
  · obtain ⟨n, rfl, _⟩ := h
    rfl
  · obtain ⟨n, rfl, q⟩ := h
    refine ⟨_, pss_one (ps_ret (pe_ix ix_list (pe_lst (pa_cons pe_str (pa_cons pe_str (pa_cons pe_str (pa_cons pe_str (pa_cons pe_str (pa_cons pe_str pa_nil))))))) (pe_op op_mod (pe_callTy call_int1 (by rfl) T.nint (by decide +kernel) (pa_cons (pv 0) pa_nil)) pe_int) (fun _ _ => rfl))), ?_⟩
    have hbig : (1000 : Nat) ≤ sizeLine := by rw [sizeLine_eq]; decide
    have hm : n % 6 < spcs.length := Nat.mod_lt _ (by decide)
    refine ⟨by show 6 ≤ sizeLine; omega, fun l hl => ?_⟩
    refine ⟨_, rfl, .inl ⟨(n : Int), rfl, (n : Int), 6, rfl, rfl, (show (0 : Int) < 6 by decide), l, spcs.map V.str, ((n % 6 : Nat) : Int), _, rfl, congrArg V.int (mod_nat n 6), SqL.of upd_same, atI_nat (str_getD hm), ?_⟩⟩
    have z := q _ (same_new (o := .lst (spcs.map V.str)) hl)
    unfold Fa.spc at z
    rw [S_codes] at z
    exact z
def rMulS : R2 := fun x y H Q => ∃ (z : Str) (i : Int), x = .str z ∧ y = .int i ∧ z.length ≤ 16 ∧ 0 ≤ i ∧ i ≤ 1048576 ∧ Q (.str (Txt.mul z i)) H
/-- 'a' * n -/
theorem op_mulS {X : Cx} : OpR X (binaryOp .Mult) rMulS := by
  intro pins s σ H x y v u Q I rx ry h
  obtain ⟨z, i, rfl, rfl, hz, h0, h1, q⟩ := h
  obtain ⟨t, rfl⟩ := rx
  obtain ⟨t', rfl⟩ := ry
  exact PySem.W.KXi.mul rfl hz (by omega) (by omega) (fun t2 k _ _ => ⟨.str _, H, I.tok k, ⟨_, rfl⟩, q⟩)
theorem scBad : FnScope ["_law_cell_here"] ["_law_cell_here"] (defScope (top 26)) := ⟨rfl, rfl, rfl, by decide +kernel, rfl, by decide +kernel, by decide +kernel⟩
def spABad : Sp := fun vs H Q _ => ∃ n : Nat, vs = [.int (n : Nat)] ∧ ∀ H', Same H H' → Q (.str (bads.getD (n % 12) (S []))) H'
theorem ok_bad (T : Txt K mg a d) (L : LTxt K mg b e) : FnOk PR w K mg base CX0 1 b.fBad e.dBad ["_law_cell_here"] spABad := by
  refine L.bad.ok scBad (fun vs H Q E h => ?_) (fun cdv A outer s H vs Q E hr h => ?_)
  · obtain ⟨n, rfl, _⟩ := h
    rfl
  · obtain ⟨n, rfl, q⟩ := h
    refine ⟨_, pss_one (ps_ret (pe_ix ix_list (pe_lst (pa_cons pe_str (pa_cons pe_str (pa_cons pe_str (pa_cons pe_str (pa_cons pe_str (pa_cons pe_str (pa_cons pe_str (pa_cons (pe_op op_mulS pe_str pe_int) (pa_cons pe_str (pa_cons (pe_op op_add_str (pe_op op_add_str pe_str (pe_op op_mulS pe_str pe_int)) pe_str) (pa_cons pe_str (pa_cons pe_str pa_nil))))))))))))) (pe_op op_mod (pe_callTy call_int1 (by rfl) T.nint (by decide +kernel) (pa_cons (pv 0) pa_nil)) pe_int) (fun _ _ => rfl))), ?_⟩
    have hbig : (1000 : Nat) ≤ sizeLine := by rw [sizeLine_eq]; decide
    have hm : n % 12 < bads.length := Nat.mod_lt _ (by decide)
    have ea : Txt.mul "a" 21 = S (List.replicate 21 97) := by decide +kernel
    have eb : Txt.mul "b" 21 = S (List.replicate 21 98) := by decide +kernel
    have eq : (Str.ofString "\"") = S [34] := by decide +kernel
    have l1 : (Str.ofString "a").length = 1 := by decide +kernel
    have l2 : (Str.ofString "b").length = 1 := by decide +kernel
    refine ⟨"a", 21, rfl, rfl, by rw [l1]; decide, by decide, by decide, ?_⟩
    rw [ea]
    refine ⟨"b", 21, rfl, rfl, by rw [l2]; decide, by decide, by decide, ?_⟩
    rw [eb]
    refine ⟨_, _, rfl, rfl, ?_, ?_⟩
    · rw [eq]
      show 1 + 21 ≤ sizeLine
      omega
    refine ⟨_, _, rfl, rfl, ?_, ?_⟩
    · rw [eq, S_app]
      show 22 + 1 ≤ sizeLine
      omega
    refine ⟨by show 12 ≤ sizeLine; omega, fun l hl => ?_⟩
    rw [eq, S_app, S_app]
    refine ⟨_, rfl, .inl ⟨(n : Int), rfl, (n : Int), 12, rfl, rfl, (show (0 : Int) < 12 by decide), l, bads.map V.str, ((n % 12 : Nat) : Int), _, rfl, congrArg V.int (mod_nat n 12), SqL.of ?_, atI_nat (str_getD hm), ?_⟩⟩
    · rw [upd_same]
      exact congrArg (fun y => some (HO.lst y)) (by decide +kernel)
    · exact q _ (same_new hl)
end
end Fa
set_option Elab.async false
set_option linter.all false
set_option maxRecDepth 100000
set_option maxHeartbeats 4000000
/-! repr of a list of data, where nothing is being shown; the law's def at the caller's own place. -/
namespace Fa
open PySem PySem.Spec PyProof.Rows L2
/-- repr(list): what is shown of the data; asked where no repr is under way -/
def rRepr (K : PySem.W.Frag) : List V → Hp → VK → Prop := fun xs H Q => ∃ (p : Addr) (d : PyData), xs = [.ref p] ∧ Dp K H (.ref p) d ∧ d.showable = true ∧ d.hasDict = false ∧ d.depth ≤ 60 ∧ d.shown.length ≤ sizeLine ∧ Q (.str d.shown) H
theorem call_repr {X : Cx} (hg : X.A.guards = some []) (hu : X.A.units + 64 < cLine) : CallR X (.builtin "repr") (rRepr X.K) := by
  intro pins s σ H xs us Q I r h
  obtain ⟨p, d, rfl, hd, h1, h2, h3, h4, q⟩ := h
  obtain ⟨u, rfl, ru⟩ := vals1 r
  obtain rfl : u = Value.ref p := ru
  obtain ⟨as, rd⟩ := Dp.reads I d (.ref p) (.ref p) hd rfl
  refine repr_of_reads' rd h1 (PyData.noDict_hsm h2) hg (by omega) (fun _ _ e => e) (fun h' u tk k => ?_) h4
  exact ⟨.str d.shown, H, I.kept (t' := tk) k, ⟨u, rfl⟩, q⟩
section
variable {w : World} {K : PySem.W.Frag} {mg : Str → Option Value} {base : Heap}
/-- a def of the top called at the caller's own place: no repr is under way there -/
theorem def_top {x : Str} {i k : Nat} {f : Addr} {fd : FuncData} {N ps : List Str} {s : Shared} {H : Hp} {args : Args} {us : List Value} {vs : List V} {Q : VK} (F : FN K x i f fd) (S : FnScope N ps (defScope (top i)))
    (hr : Room (k + 1) callerA) (e0 : Env0 PR w K mg base callerA [] s H) (hb : BindsTo s fd args (ps.zip us)) (r : Vals vs us) (hl : vs.length = ps.length)
    (body : ∀ cdv : Value, Room k (callerA.deeper (envOfC x (defScope (top i)) s.heap.objs.size f cdv)) →
      ∃ t, PSs (cxOf CX0 PR w K mg base N x (defScope (top i)) f cdv callerA [] s H E0).nox (defBody (top i)) t ∧ t { nx := fun _ H' => Q .non H', rt := Q } (L2.start N vs) H) :
    codeAny (model PR w) callerA (.call (.ref f) args) (CR CX0 [] PR w H s Q E0) s := by
  obtain ⟨oc, od, kV, doc, pm, an, cdv, ct, osl, rfl, lk, hcd⟩ := F.ex
  have old : ∀ b o, base.get? b = some o → s.heap.get? b = some o := fun b o z => (e0.bs b o z).1
  have KX := e0.mod.kin.keeps old
  have kinds : ∀ y ∈ ps.zip us, (defScope (top i)).names.lookup y.1 = some .local ∨ ((defScope (top i)).names.lookup y.1 = some .cell ∧ ((cellsFrom (s.heap.objs.size + 1) (defScope (top i)).names []).lookup y.1).isSome = true) := by
    rintro ⟨n, v⟩ hy
    have hn : n ∈ ps := (List.of_mem_zip hy).1
    rcases S.par n hn with z | z
    · exact .inl z
    · exact .inr ⟨z, PySem.W.cellsFrom_some _ _ _ (.inl z)⟩
  obtain ⟨t, ht, hq⟩ := body cdv (hr.deeper _)
  refine codeAny_call_function hr.depth (KX _ _ lk) rfl S.co S.gen rfl (PySem.W.codeRec_of KX hcd) (hb _ _ _ _ (wpAny_newFunctionEnv_cells S.kind kinds fun env he s1 x1 => ?_))
  subst he
  refine ⟨(e0.mod.nolimit.keeps old).keeps x1.toInCall.keep, codeAny_func ?_⟩
  have I := inv_start (CX := CX0) (E := E0) S hr.hd e0 hl r x1
  refine wpAny_mono (ht.nox.run [] s1 (L2.start N vs) H _ I hq) (fun fl s' hs => ?_) fun e s' hs => hs
  cases fl with
  | ret u =>
    obtain ⟨v, σ', H', J, rv, q⟩ := hs
    exact ⟨v, H', J.os, J.bare, J.base, J.hok, rv, q⟩
  | next =>
    obtain ⟨σ', H', J, q⟩ := hs
    exact ⟨.non, H', J.os, J.bare, J.base, J.hok, rfl, q⟩
  | brk =>
    obtain ⟨_, _, _, q⟩ := hs
    cases q
  | cont =>
    obtain ⟨_, _, _, q⟩ := hs
    cases q
/-- what a law's def is asked at the caller's place: from a list of ints it gives True -/
def LawRuns (w : World) (K : PySem.W.Frag) (mg : Str → Option Value) (base : Heap) (fa : Addr) : Prop :=
  ∀ (s : Shared) (H : Hp) (a : Addr) (ns : List Int), Env0 PR w K mg base callerA [] s H → ns.length ≤ 63 → SqL K H a (ns.map V.int) →
    codeAny (model PR w) callerA (.call (.ref fa) ⟨[.ref a], []⟩) (CR CX0 [] PR w H s (fun v _ => v = .bl true) E0) s
section
variable {mb : Str → Option Value} {fa a : Addr} {s : Shared} {vs : List Value} {ns : List Int}
/-- from an abstract heap in which at most the script is told -/
theorem law_from {H : Hp} (KX : K.In s.heap) (hns : s.heap.Ns mainGlobals mg) (hb : s.heap.Ns builtinsNs mb) (hbb : ∀ x : Str, x ≠ "__name__" → mb x = bootBuiltins x) (hlim : s.heap.NoLimit) (hg : s.gens = #[])
    (ha : s.heap.get? a = some { cls := .type "list", data := .seq vs.toArray }) (hl : ns.length ≤ 63) (F : ∀ base : Heap, K.In base → base.Ns mainGlobals mg → LawRuns w K mg base fa)
    (hO : ∀ b u, H b = some u → b = a ∧ ∃ o xs, u = .frz o (.lst xs)) (hS : SqL K H a (ns.map V.int)) (hok : HOk PR w H s.heap) (hK : H a ≠ none → K.lookup a = none) :
    codeAny (model PR w) callerA (.call (.ref fa) ⟨[.ref a], []⟩) (fun r s' => r = .ok (.ret (.bool true)) ∧ OldK s.heap s'.heap ∧ s'.os = s.os ∧ AllBare s'.gens) s := by
  have noDict : ∀ {b : Addr} {o : Obj} {es : Array DictEntry} {ep : Nat}, s.heap.get? b = some o → o.data = .dict es ep → H b = none := by
    intro b o es ep e d
    cases q : H b with
    | none => rfl
    | some u =>
      obtain ⟨rfl, _⟩ := hO b u q
      rw [ha] at e
      cases e
      have d' : Data.seq vs.toArray _ = Data.dict es ep := d
      cases d'
  have nsUp : ∀ {b : Addr} {m : Str → Option Value}, s.heap.Ns b m → (hidT s.heap H).Ns b m := by
    rintro b m ⟨o, es, ep, e, dd, r⟩
    exact ⟨o, es, ep, hidT_get e (noDict e dd), dd, r⟩
  have kin : K.In (hidT s.heap H) := by
    intro b o e
    refine hidT_get (KX b o e) ?_
    cases q : H b with
    | none => rfl
    | some u =>
      obtain ⟨rfl, _⟩ := hO b u q
      rw [hK (by rw [q]; simp)] at e
      cases e
  have lim : (hidT s.heap H).NoLimit := by
    obtain ⟨mc, h1, h2⟩ := hlim
    exact ⟨mc, nsUp h1, h2⟩
  have e0 : Env0 PR w K mg (hidT s.heap H) callerA [] s H := ⟨rfl, ⟨kin, nsUp hns, ⟨mb, nsUp hb, hbb⟩, lim⟩, fun b o e => of_hidT e, Nat.le_of_eq (hidT_size _ _), trivial, fun b hb => absurd (show b ∈ ([] : List Addr) from hb) (by simp), hok, .of_eq hg⟩
  refine codeAny_mono (F _ kin (nsUp hns) s H a ns e0 hl hS) fun r s' h => ?_
  cases r with
  | error e => exact False.elim h
  | ok fl =>
    cases fl with
    | next => exact False.elim h
    | brk => exact False.elim h
    | cont => exact False.elim h
    | ret u =>
      obtain ⟨v, H', os, bare, un, hok', rv, q⟩ := h
      obtain rfl : v = .bl true := q
      obtain rfl : u = Value.bool true := rv
      refine ⟨rfl, OldK.of_keep fun b o e => ?_, os, bare⟩
      cases q : H b with
      | none => exact un.keep b o e q (fun z => absurd (show b ∈ ([] : List Addr) from z) (by simp)) (by simp)
      | some u =>
        obtain ⟨_, ob, xs, rfl⟩ := hO b u q
        have f1 : s.heap.get? b = some ob := (hok b _ q).1
        have f2 : s'.heap.get? b = some ob := (hok' b _ (un.frzs b ob _ q)).1
        rw [f1] at e
        cases e
        exact f2
theorem law_runs (KX : K.In s.heap) (hns : s.heap.Ns mainGlobals mg) (hb : s.heap.Ns builtinsNs mb) (hbb : ∀ x : Str, x ≠ "__name__" → mb x = bootBuiltins x) (hlim : s.heap.NoLimit) (hg : s.gens = #[])
    (ha : s.heap.get? a = some { cls := .type "list", data := .seq vs.toArray }) (hi : IntsAre vs ns) (hl : ns.length ≤ 63) (F : ∀ base : Heap, K.In base → base.Ns mainGlobals mg → LawRuns w K mg base fa) :
    codeAny (model PR w) callerA (.call (.ref fa) ⟨[.ref a], []⟩) (fun r s' => r = .ok (.ret (.bool true)) ∧ OldK s.heap s'.heap ∧ s'.os = s.os ∧ AllBare s'.gens) s := by
  have rv := vals_ints hi
  have len := hi.length
  have line : (63 : Nat) ≤ sizeLine := by rw [sizeLine_eq]; decide
  cases hk : K.lookup a with
  | some o =>
    have z := KX a o hk
    rw [ha] at z
    cases z
    exact law_from (H := fun _ => none) KX hns hb hbb hlim hg ha hl F (fun b u z => by cases z) (.inr ⟨_, vs.toArray, _, hk, rfl, rfl, rfl, by rw [List.size_toArray, len]; omega, by simpa using rv⟩) (fun b u z => by cases z) fun z => absurd rfl z
  | none =>
    have ok : ObjOk PR w (upd (fun _ => none) a (.frz { cls := .type "list", data := .seq vs.toArray } (.lst (ns.map V.int)))) s.heap a (.frz { cls := .type "list", data := .seq vs.toArray } (.lst (ns.map V.int))) :=
      ⟨ha, by rw [List.length_map]; omega, vs, _, rv, ha⟩
    have at_ : ∀ b u, upd (fun _ => none) a (.frz { cls := .type "list", data := .seq vs.toArray } (.lst (ns.map V.int))) b = some u → b = a ∧ u = .frz { cls := .type "list", data := .seq vs.toArray } (.lst (ns.map V.int)) := by
      intro b u z
      by_cases q : b = a
      · rw [q, upd_same] at z
        exact ⟨q, (Option.some.inj z).symm⟩
      · rw [upd_ne q] at z
        cases z
    refine law_from (H := upd (fun _ => none) a (.frz { cls := .type "list", data := .seq vs.toArray } (.lst (ns.map V.int)))) KX hns hb hbb hlim hg ha hl F (fun b u z => ?_) (.inl (.inr ⟨_, upd_same⟩)) (fun b u z => ?_) fun _ => hk
    · obtain ⟨h1, h2⟩ := at_ b u z
      exact ⟨h1, _, _, h2⟩
    · obtain ⟨h1, h2⟩ := at_ b u z
      subst h1 h2
      exact ok
end
end
/-- the goal that the head leaves, from the law's run -/
theorem walk_top {q : Program} {loose : List Str} {XP : (Str → Option Value) → Heap → Prop} {YP : World → Heap → Prop} {d : DefRec} {K : Params → PySem.W.Frag} (hdf : d.params.defaults = [])
    (hY : ∀ (w : World) (h : Heap), YP w h → (K w.params).In h)
    (F : ∀ (w : World) (mg : Str → Option Value) (fa : Addr) (h : Heap), (K w.params).In h → h.Ns mainGlobals mg → mg d.name = some (.ref fa) → ∀ base : Heap, (K w.params).In base → base.Ns mainGlobals mg → LawRuns w (K w.params) mg base fa) :
    PySem.W.WalkO q loose XP YP (PySem.Challenge.rw_fascicle_k00_tokens).row.toRowW d [] (fun f vs => PySem.call f vs) := by
  refine Att.attach_call (n := 63) rfl hdf fun w s0 s1 mg mb fa o pm cd doc a vs ns G Y ho hd hcd hmg hobj hints hlen hg => ?_
  have KX := hY w _ Y
  exact law_runs KX G.T.g G.T.b G.T.builtins G.T.nolimit hg hobj hints hlen (F w mg fa _ KX G.T.g hmg)
end Fa
set_option Elab.async false
set_option linter.all false
set_option maxRecDepth 100000
set_option maxHeartbeats 8000000
/-! The law. -/
namespace Fa
open PySem PySem.Spec PyProof.Rows L2
structure UTxt (mg : Str → Option Value) : Prop where
  abs_ : mg "abs" = none
  min_ : mg "min" = none
  repr_ : mg "repr" = none
  list_ : mg "list" = none
abbrev lawN : List Str := ["_law_script", "_law_text", "_law_due", "_law_k", "_law_kind", "_law_value", "_law_shown", "_law_actual", "_law_at", "_law_bad_here", "e"]
theorem scLaw : FnScope lawN ["_law_script"] (defScope (top 27)) := ⟨rfl, rfl, rfl, by decide +kernel, rfl, by decide +kernel, by decide +kernel⟩
abbrev rCat : R2 := fun x y H Q => ∃ i j, x = .str i ∧ y = .str j ∧ i.length + j.length ≤ sizeLine ∧ Q (.str (i ++ j)) H
abbrev rLenT : List V → Hp → VK → Prop := fun xs H Q => ∃ z, xs = [.str z] ∧ z.length ≤ sizeLine ∧ Q (.int z.length) H
/-- tokens(text + bad + " x", "m7") -/
def t_body (C : Addr) (W : WX) : TS := tDrop (tCallS (spTokens C) (WE W) (tCons (tOp rCat (tOp rCat (tVar 1) (tVar 9)) (tC (.str " x"))) (tCons (tC (.str "m7")) tNil)))
/-- return e.module == "m7" and e.at == len(text) -/
def t_suite (C : Addr) (a : Addr) (cls : Value) (d : Option Addr) : TS := tRet (tAndV (tOp rEq (tXf a cls d C "module" (tVar 10)) (tC (.str "m7"))) (tOp rEq (tXf a cls d C "at" (tVar 10)) (tCB rLenT (tCons (tVar 1) tNil))))
/-! ### the cells of the loop -/
def cells (ns : List Int) : List Nat := ((ns.drop 1).take 60).map Int.natAbs
theorem cells_len (ns : List Int) : (cells ns).length = min 60 (ns.length - 1) := by
  unfold cells
  rw [List.length_map, List.length_take, List.length_drop]
theorem cells_at {ns : List Int} {i : Nat} (h : i < (cells ns).length) : (cells ns)[i]? = some (ns.getD (1 + i) 0).natAbs := by
  rw [cells_len] at h
  unfold cells
  rw [List.getElem?_map, List.getElem?_take_of_lt (by omega), List.getElem?_drop, List.getD_eq_getElem?_getD, List.getElem?_eq_getElem (by omega)]
  rfl
theorem take_snoc {l : List Nat} {i c : Nat} (h : l[i]? = some c) : l.take (i + 1) = l.take i ++ [c] := by
  rw [List.take_add_one, h]
  rfl
theorem abs_if (x : Int) : (if x < 0 then -x else x) = ((x.natAbs : Nat) : Int) := by split <;> omega
theorem val_dp {K : PySem.W.Frag} {H : Hp} (t : Tk) : Dp K H t.val t.dat := by
  cases t with
  | word _ => exact .str _
  | name _ => exact .str _
  | num _ => exact .int _
  | str _ => exact .str _
  | sign _ => exact .str _
theorem TokAll.dp {K : PySem.W.Frag} {H : Hp} : ∀ {ps : List Addr} {ts : List (Tk × Nat)}, TokAll H ps ts → DpAll K H (ps.map V.ref) (ts.map tokD)
  | _, _, .nil => .nil
  | _, _, .cons h r => .cons (.tup (SqT.of h) (.cons (.str _) (.cons (val_dp _) (.cons (.int _) .nil)))) (TokAll.dp r)
theorem TokAll.get {H : Hp} : ∀ {ps : List Addr} {ts : List (Tk × Nat)} {i : Nat} {p : Addr}, TokAll H ps ts → ps[i]? = some p → ∃ t k, (t, k) ∈ ts ∧ H p = some (.tup (tupV t k))
  | _, _, _, _, .nil, e => by simp at e
  | _, _, 0, _, .cons h _, e => by
    have e' := Option.some.inj e
    subst e'
    exact ⟨_, _, List.mem_cons_self, h⟩
  | _, _, i + 1, _, .cons _ r, e => by
    obtain ⟨t, k, h1, h2⟩ := TokAll.get (i := i) r (by simpa using e)
    exact ⟨t, k, List.mem_cons_of_mem _ h1, h2⟩
/-- the first loop's word: behind i cells the text and the due list stand -/
def LoopW (l p : Addr) (H : Hp) (cs : List Nat) (i : Nat) (σ : L2.St) (H' : Hp) : Prop :=
  ∃ (y3 y4 y5 y6 : Option V) (ps : List Addr), σ = [some (.ref l), some (.str (S (text (cs.take i)))), some (.ref p), y3, y4, y5, y6, none, none, none, none] ∧ Same H H' ∧ H' p = some (.lst (ps.map V.ref)) ∧ TokAll H' ps (dues 0 (cs.take i))
theorem mal_mod {m : Str} {a : Int} : (malF m a).lookup ("module" : Str) = some (V.str m) := by
  unfold malF
  rw [lookup_put, if_neg (by decide +kernel), lookup_put, if_pos rfl]
theorem mal_at {m : Str} {a : Int} : (malF m a).lookup ("at" : Str) = some (V.int a) := by
  unfold malF
  rw [lookup_put, if_pos rfl]
theorem kind_in : inV (.str "word") [.str "name", .str "word"] = true ∧ inV (.str "name") [.str "name", .str "word"] = true ∧ inV (.str "number") [.str "name", .str "word"] = false ∧ inV (.str "string") [.str "name", .str "word"] = false ∧ inV (.str "sign") [.str "name", .str "word"] = false := by decide +kernel
theorem kind_eq : decide (V.str "word" = V.str "name") = false ∧ decide (V.str "name" = V.str "name") = true := by decide +kernel
/-- the second loop's word -/
def ShowW (l p q : Addr) (z : Str) (H : Hp) (σ : L2.St) (H' : Hp) : Prop :=
  ∃ (y3 y4 y5 y6 y8 : Option V), σ = [some (.ref l), some (.str z), some (.ref p), y3, y4, y5, y6, some (.ref q), y8, none, none] ∧ Same H H'
section
variable {w : World} {K : PySem.W.Frag} {mg : Str → Option Value} {base : Heap} {a : Ad} {d : Fd} {b : LAd} {e : LFd} {f : Addr} {fd : FuncData}
theorem cell_bind (L : LTxt K mg b e) : Binds K e.dCell ["_law_script", "_law_k"] [] := two_bind L.cell fun _ _ _ _ _ _ _ _ => rfl
theorem tok_bind (L : LTxt K mg b e) : Binds K e.dTok ["_law_cell_here"] [] := one_bind L.tok fun _ _ _ _ _ _ _ => rfl
theorem spc_bind (L : LTxt K mg b e) : Binds K e.dSpc ["_law_cell_here"] [] := one_bind L.spc fun _ _ _ _ _ _ _ => rfl
theorem bad_bind (L : LTxt K mg b e) : Binds K e.dBad ["_law_cell_here"] [] := one_bind L.bad fun _ _ _ _ _ _ _ => rfl
theorem nm_bind (T : Txt K mg a d) : Binds K d.dN ["value"] [] := one_bind T.N fun _ _ _ _ _ _ _ => rfl
theorem tks_bind (T : Txt K mg a d) : Binds K d.dK ["text", "module"] [] := two_bind T.Ks fun _ _ _ _ _ _ _ _ => rfl
theorem law_ok (T : Txt K mg a d) (L : LTxt K mg b e) (U : UTxt mg) (F : FN K "law" 27 f fd) : LawRuns w K mg base f := by
  intro s H l ns e0 hns hS
  have hb : BindsTo s fd ⟨[.ref l], []⟩ ((["_law_script"] : List Str).zip [Value.ref l]) := by
    obtain ⟨oc, od, kV, doc, pm, an, cdv, ct, osl, rfl, lk, hcd⟩ := F.ex
    exact BindsTo.of_eq rfl
  refine def_top (k := 7) F scLaw ⟨rfl, by decide, by decide⟩ e0 hb (vs := [.ref l]) (.cons rfl .nil) rfl (fun cdv hr => ?_)
  have hg : (callerA.deeper (envOfC "law" (defScope (top 27)) s.heap.objs.size f cdv)).guards = some [] := rfl
  have hu : (callerA.deeper (envOfC "law" (defScope (top 27)) s.heap.objs.size f cdv)).units + 64 < cLine := hr.units
  refine ⟨_, (pss_cons (ps_set (i := 1) scLaw.nd rfl (Or.inl rfl) pe_str) (pss_cons (ps_set (i := 2) scLaw.nd rfl (Or.inl rfl) (pe_lst pa_nil)) (pss_cons (ps_for PassesOwn.never rfl (pi_range2 rfl L.range (pa_cons pe_int (pa_cons (pe_callB (call_min2 rfl) (by rfl) U.min_ (by decide +kernel) (pa_cons (pe_callB call_len_seq (by rfl) T.sm.len PySem.boot_len (pa_cons (pv 0) pa_nil)) (pa_cons pe_int pa_nil))) pa_nil))) (pg_name (i := 3) scLaw.nd rfl (Or.inl rfl)) (pss_cons (ps_asg (pe_call (ok_tok T L) (hr.mono (by decide)) (by rfl) L.gTok L.tok.kp (tok_bind L) .nil pass0 (pa_cons (pe_callB call_abs (by rfl) U.abs_ (by decide +kernel) (pa_cons (pe_call (ok_cell T L) (hr.mono (by decide)) (by rfl) L.gCell L.cell.kp (cell_bind L) .nil pass0 (pa_cons (pv 0) (pa_cons (pv 3) pa_nil))) pa_nil)) pa_nil)) (pg_unl rfl (pgs_cons (pg_name (i := 4) scLaw.nd rfl (.inl rfl)) (pgs_cons (pg_name (i := 5) scLaw.nd rfl (.inl rfl)) (pgs_cons (pg_name (i := 6) scLaw.nd rfl (.inl rfl)) pgs_nil))))) (pss_cons (ps_expr (pe_bm PySem.F.plainAttrs_list PySem.F.slot_list_append PySem.F.type_list_append mt_append (pv 2) (pa_cons (pe_tup (pa_cons (pv 4) (pa_cons (pv 5) (pa_cons (pe_callB call_len_str (by rfl) T.sm.len PySem.boot_len (pa_cons (pv 1) pa_nil)) pa_nil)))) pa_nil))) (pss_one (ps_set (i := 1) scLaw.nd rfl (Or.inl rfl) (pe_op op_add_str (pe_op op_add_str (pv 1) (pv 6)) (pe_call (ok_spc T L) (hr.mono (by decide)) (by rfl) L.gSpc L.spc.kp (spc_bind L) .nil pass0 (pa_cons (pe_op op_fdiv (pe_callB call_abs (by rfl) U.abs_ (by decide +kernel) (pa_cons (pe_call (ok_cell T L) (hr.mono (by decide)) (by rfl) L.gCell L.cell.kp (cell_bind L) .nil pass0 (pa_cons (pv 0) (pa_cons (pv 3) pa_nil))) pa_nil)) pe_int) pa_nil)))))))) (pss_cons (ps_set (i := 7) scLaw.nd rfl (Or.inl rfl) (pe_call (ok_tokens T) (hr.mono (by decide)) (by rfl) T.gK T.Ks.kp (tks_bind T) .nil passL (pa_cons (pv 1) (pa_cons pe_str pa_nil)))) (pss_cons (ps_if (PW.pt (pw_or (pt_not (pt_val (pe_callB call_isi (by rfl) T.nisi (by decide +kernel) (pa_cons (pv 7) (pa_cons (pe_bltn (v := .ty "list") (u := .type "list") (by rfl) U.list_ (by decide +kernel) rfl) pa_nil))))) (pw_or1 (pt_cmpR op_ne (pe_callB (call_repr hg hu) (by rfl) U.repr_ (by decide +kernel) (pa_cons (pv 7) pa_nil)) (pe_callB (call_repr hg hu) (by rfl) U.repr_ (by decide +kernel) (pa_cons (pv 2) pa_nil)) (nomark _))))) (pss_one (ps_ret pe_bl)) pss_nil) (pss_cons (ps_for PassesOwn.never rfl (pi_list (pv 2)) (pg_tup rfl (pgs_cons (pg_name (i := 4) scLaw.nd rfl (.inl rfl)) (pgs_cons (pg_name (i := 5) scLaw.nd rfl (.inl rfl)) (pgs_cons (pg_name (i := 8) scLaw.nd rfl (.inl rfl)) pgs_nil)))) (pss_one (ps_if (PW.pt (pw_and (pt_cmpR op_in_seq (pv 4) (pe_lst (pa_cons pe_str (pa_cons pe_str pa_nil))) (by rfl)) (pw_and1 (pt_cmpR op_ne (pe_call (ok_name T) (hr.mono (by decide)) (by rfl) T.gN T.N.kp (nm_bind T) .nil pass0 (pa_cons (pv 5) pa_nil)) (pe_cmpR op_eq (pv 4) pe_str (nomark _)) (nomark _))))) (pss_one (ps_ret pe_bl)) pss_nil))) (pss_cons (ps_if (PW.pt (pw_or (pt_cmpR op_notBl (pe_call (ok_name T) (hr.mono (by decide)) (by rfl) T.gN T.N.kp (nm_bind T) .nil pass0 (pa_cons pe_str pa_nil)) pe_bl (nomark _)) (pw_or (pt_cmpR op_notBl (pe_call (ok_name T) (hr.mono (by decide)) (by rfl) T.gN T.N.kp (nm_bind T) .nil pass0 (pa_cons (pe_op op_mulS pe_str pe_int) pa_nil)) pe_bl (nomark _)) (pw_or (pt_cmpR op_notBl (pe_call (ok_name T) (hr.mono (by decide)) (by rfl) T.gN T.N.kp (nm_bind T) .nil pass0 (pa_cons pe_int pa_nil)) pe_bl (nomark _)) (pw_or1 (pt_cmpR op_notBl (pe_call (ok_name T) (hr.mono (by decide)) (by rfl) T.gN T.N.kp (nm_bind T) .nil pass0 (pa_cons pe_str pa_nil)) pe_bl (nomark _))))))) (pss_one (ps_ret pe_bl)) pss_nil) (pss_cons (ps_set (i := 9) scLaw.nd rfl (Or.inl rfl) (pe_call (ok_bad T L) (hr.mono (by decide)) (by rfl) L.gBad L.bad.kp (bad_bind L) .nil pass0 (pa_cons (pe_callB call_abs (by rfl) U.abs_ (by decide +kernel) (pa_cons (pe_call (ok_cell T L) (hr.mono (by decide)) (by rfl) L.gCell L.cell.kp (cell_bind L) .nil pass0 (pa_cons (pv 0) (pa_cons pe_int pa_nil))) pa_nil)) pa_nil))) (pss_cons (ps_try_as (i := 10) (tb := t_body a.C) (ts := t_suite a.C) (Wout := fun _ _ _ _ => False) rfl rfl scLaw.nd rfl rfl ⟨rfl, by decide, Or.inl T.mal.gC⟩ takes0 (fun W pn xe tk _ => (pss_one (ps_expr (pe_callS (ok_tokens T) (hr.mono (by decide)) (by rfl) T.gK T.Ks.kp (tks_bind T) (fun σ => passAt tk σ) (pa_cons (pe_op op_add_str (pe_op op_add_str (pv 1) (pv 9)) pe_str) (pa_cons pe_str pa_nil)))))) (fun a0 oe cls d0 pn hz hf => (pss_one (ps_ret (pe_and (pe_cmpR op_eq (pe_xf T.mal.xf T.mal.nM hz hf (pv 10)) pe_str (nomark _)) (pe_one (pe_cmpR op_eq (pe_xf T.mal.xf T.mal.nA hz hf (pv 10)) (pe_callB call_len_str (by rfl) T.sm.len PySem.boot_len (pa_cons (pv 1) pa_nil)) (nomark _)))))))) (pss_one (ps_ret pe_bl))))))))))), ?_⟩
  have hbig : (100000 : Nat) ≤ sizeLine := line_big
  have three : 3 ≤ sizeLine := by omega
  have e00 : (Str.ofString "") = S [] := by decide +kernel
  have clen : (cells ns).length ≤ 60 := by rw [cells_len]; omega
  have tlen : ∀ i, (text ((cells ns).take i)).length ≤ 1920 := fun i => by
    have h1 := text_len ((cells ns).take i)
    have h2 : ((cells ns).take i).length ≤ 60 := by rw [List.length_take]; omega
    omega
  rw [e00]
  refine ⟨Nat.zero_le _, fun p np => ?_⟩
  refine ⟨_, rfl, l, ns.map V.int, rfl, .inl ((same_new np).seq hS), _, _, rfl, 1, _, rfl, ⟨by omega, by omega, by split <;> omega, by split <;> omega⟩, ?_⟩
  have en : ((if (61 : Int) < (((ns.map V.int).length : Nat) : Int) then 61 else (((ns.map V.int).length : Nat) : Int)) - 1).toNat = (cells ns).length := by
    rw [List.length_map, cells_len]
    split <;> omega
  rw [en]
  refine for_range (lo := 1) (n := (cells ns).length) (LoopW l p H (cells ns)) ⟨none, none, none, none, [], rfl, same_new np, upd_same, .nil⟩ ?_ ?_
  · rintro i σ H' hi ⟨y3, y4, y5, y6, ps, rfl, sm, hp, ta⟩
    have hc := cells_at hi
    have ek : [V.ref l, V.int (1 + (i : Int))] = [V.ref l, V.int ((1 + i : Nat) : Int)] := congrArg (fun y : Int => [V.ref l, V.int y]) (by omega)
    have hS1 := sm.seq hS
    refine ⟨_, rfl, _, rfl, l, ns, 1 + i, ek, hS1, _, rfl, (ns.getD (1 + i) 0).natAbs, congrArg (fun y : Int => [V.int y]) (abs_if _), fun H1 q s1 h1 => ?_⟩
    generalize hcx : (ns.getD (1 + i) 0).natAbs = c at *
    refine ⟨q, _, rfl, SqL.of h1, rfl, _, _, rfl, _, _, rfl, _, _, rfl, rfl, ?_⟩
    have hp1 := s1 _ _ hp
    have ti := tlen i
    have ri := raw_len c
    have si := spc_len (c / 7)
    refine ⟨_, rfl, .inl ⟨rfl, _, SqL.of hp1⟩, _, rfl, _, rfl, _, rfl, S (text ((cells ns).take i)), rfl, by rw [len_S]; omega, three, fun pt hpt => ?_⟩
    have s2 : Same H1 (upd H1 pt (.tup (tupV (lawTk c) (text ((cells ns).take i)).length))) := same_new hpt
    have hp2 := s2 _ _ hp1
    have lps : (ps.map V.ref).length < sizeLine := by
      rw [List.length_map, ta.len, dues_len, List.length_take]
      omega
    refine ⟨p, _, _, rfl, rfl, hp2, lps, ?_⟩
    have s3 : Same H (upd (upd H1 pt (.tup (tupV (lawTk c) (text ((cells ns).take i)).length))) p (.lst (ps.map V.ref ++ [.ref pt]))) := fun b o eb => by
      rw [upd_ne (ne_of_none eb np)]
      exact s2 _ _ (s1 _ _ (sm _ _ eb))
    have npt : pt ≠ p := fun z => by
      rw [z, hp1] at hpt
      cases hpt
    have ta3 : TokAll (upd (upd H1 pt (.tup (tupV (lawTk c) (text ((cells ns).take i)).length))) p (.lst (ps.map V.ref ++ [.ref pt]))) (ps ++ [pt]) (dues 0 ((cells ns).take (i + 1))) := by
      rw [take_snoc hc, dues_snoc, Nat.zero_add]
      exact (TokAll.snoc (k := (text ((cells ns).take i)).length) (t := lawTk c) upd_same ((ta.same s1).same s2)).put hp2
    have hp3 : (upd (upd H1 pt (.tup (tupV (lawTk c) (text ((cells ns).take i)).length))) p (.lst (ps.map V.ref ++ [.ref pt]))) p = some (.lst ((ps ++ [pt]).map V.ref)) := by
      rw [upd_same, List.map_append]
      rfl
    have hS3 := s3.seq hS
    refine ⟨_, rfl, _, rfl, _, _, rfl, rfl, by rw [len_S, len_S]; omega, _, rfl, _, rfl, l, ns, 1 + i, ek, hS3, _, rfl, _, 7, rfl, rfl, ⟨show (0 : Int) < 7 by decide, show (7 : Int) < 1073741824 by decide⟩, ?_⟩
    have e7 : (if ns.getD (1 + i) 0 < 0 then -(ns.getD (1 + i) 0) else ns.getD (1 + i) 0) / 7 = ((c / 7 : Nat) : Int) := by
      rw [abs_if, hcx]
      omega
    refine ⟨c / 7, congrArg (fun y : Int => [V.int y]) e7, fun H4 s4 => ⟨_, _, rfl, rfl, ?_, ?_⟩⟩
    · rw [S_app, len_S, len_S, List.length_append]
      omega
    · refine ⟨some (.int (1 + (i : Int))), some (.str (lawTk c).kind), some (lawTk c).val, some (.str (S (lawTk c).raw)), ps ++ [pt], ?_, s3.trans s4, s4 _ _ hp3, ta3.same s4⟩
      rw [S_app, S_app, take_snoc hc, text_snoc]
      unfold piece
      rw [← List.append_assoc]
      rfl
  · rintro σ H1 ⟨y3, y4, y5, y6, ps, rfl, sm, hp, ta⟩
    rw [List.take_length] at ta ⊢
    have tl := tlen (cells ns).length
    rw [List.take_length] at tl
    -- tokens(text, "m")
    refine ⟨_, rfl, S (text (cells ns)), "m", dues 0 (cells ns), none, rfl, by rw [len_S]; omega, by decide +kernel, text_whole (cells ns), fun H2 q qs s2 hq tq => ?_⟩
    have hp2 := s2 _ _ hp
    have ta2 := ta.same s2
    obtain ⟨g1, g2, g3, g4⟩ := list_good (dues 0 (cells ns)) (dues_good (cells ns) 0 (by omega)) (by rw [dues_len]; exact clen)
    refine ⟨_, rfl, .ref q, .ty "list", .type "list", .type "list", true, rfl, .ty _, .base (.lst hq), kit_ty (by decide +kernel), _, rfl, iteF ?_⟩
    refine ⟨_, rfl, q, listD (dues 0 (cells ns)), rfl, .lst (SqL.of hq) tq.dp, g1, g2, g3, g4, _, rfl, p, listD (dues 0 (cells ns)), rfl, .lst (SqL.of hp2) ta2.dp, g1, g2, g3, g4, rfl, _, rfl, iteNS rfl ?_⟩
    -- each name and word by is_name
    refine ⟨_, rfl, p, rfl, ⟨_, SqL.of hp2⟩, for_list (K := K) (a := p) (xs := ps.map V.ref) (fun _ σ H' => ShowW l p q (S (text (cells ns))) H2 σ H') ⟨y3, y4, y5, y6, none, rfl, Same.refl _⟩ (fun i σ H' _ ⟨_, _, _, _, _, _, s3⟩ => SqL.of (s3 _ _ hp2)) ?_ ?_⟩
    · rintro i x σ H' hi ⟨z3, z4, z5, z6, z8, rfl, s3⟩
      obtain ⟨pa, hpa, rfl⟩ : ∃ pa, ps[i]? = some pa ∧ x = V.ref pa := by
        rw [List.getElem?_map] at hi
        cases ee : ps[i]? with
        | none => rw [ee] at hi; cases hi
        | some pa =>
          rw [ee] at hi
          exact ⟨pa, rfl, (Option.some.inj hi).symm⟩
      obtain ⟨t, k, hm, ht⟩ := ta2.get hpa
      have nm := dues_nm (cells ns) 0 _ hm
      have good := dues_good (cells ns) 0 (by omega) _ hm
      refine ⟨pa, tupV t k, rfl, SqT.of (s3 _ _ ht), rfl, _, _, rfl, _, _, rfl, _, _, rfl, rfl, ?_⟩
      refine ⟨_, rfl, by show 2 ≤ sizeLine; omega, fun ql hql => ⟨ql, _, rfl, .inl (SqL.of upd_same), rfl, rfl, _, rfl, ?_⟩⟩
      show if inV (.str t.kind) [.str "name", .str "word"] = true then _ else _
      obtain ⟨i1, i2, i3, i4, i5⟩ := kind_in
      obtain ⟨j1, j2⟩ := kind_eq
      have s4 : Same H2 (upd H' ql (.lst [.str "name", .str "word"])) := s3.trans (same_new hql)
      have wlen : ∀ v : List Nat, PyData.weight (.str (S v)) ≤ 100 → (S v).length ≤ 20000 := fun v hv => by
        simp only [PyData.weight] at hv
        show (S v).cps.size ≤ 20000
        omega
      have light : t.dat.weight ≤ 100 := by
        have g := good.light
        have ee : (tokD (t, k)).weight = t.kind.cps.size + 1 + (t.dat.weight + 1 + (PyData.weight (.int ((k : Nat) : Int)) + 1 + 0)) := by
          unfold tokD
          simp only [PyData.weight, PyData.weightAll]
        omega
      cases t with
      | word v =>
        refine ifT i1 ⟨_, rfl, .inl ⟨S v, rfl, wlen v light, fun H5 s5 => ⟨_, rfl, rfl, rfl, _, rfl, ?_⟩⟩⟩
        refine iteNS ?_ ⟨_, _, _, _, _, rfl, s4.trans s5⟩
        rw [codes_S, res_no nm]
        exact congrArg V.bl j1.symm
      | name v =>
        refine ifT i2 ⟨_, rfl, .inl ⟨S v, rfl, wlen v light, fun H5 s5 => ⟨_, rfl, rfl, rfl, _, rfl, ?_⟩⟩⟩
        refine iteNS ?_ ⟨_, _, _, _, _, rfl, s4.trans s5⟩
        have nm' : isNm v = true := nm
        rw [codes_S, nm']
        exact congrArg V.bl j2.symm
      | num v => exact ifF i3 (iteF ⟨_, _, _, _, _, rfl, s4⟩)
      | str v => exact ifF i4 (iteF ⟨_, _, _, _, _, rfl, s4⟩)
      | sign v => exact ifF i5 (iteF ⟨_, _, _, _, _, rfl, s4⟩)
    · rintro σ H' ⟨z3, z4, z5, z6, z8, rfl, s3⟩
      -- is_name of four other values
      refine .inl ⟨"", rfl, by decide +kernel, fun H5 s5 => ⟨isNm (codes ""), false, rfl, rfl, _, rfl, ifF (by decide +kernel) ?_⟩⟩
      have ea : Txt.mul "a" 21 = S (List.replicate 21 97) := by decide +kernel
      refine ⟨"a", 21, rfl, rfl, by decide +kernel, by decide, by decide, ?_⟩
      rw [ea]
      refine .inl ⟨_, rfl, by decide +kernel, fun H6 s6 => ⟨isNm (codes (S (List.replicate 21 97))), false, rfl, rfl, _, rfl, ifF (by decide +kernel) ?_⟩⟩
      refine .inr ⟨7, rfl, fun H7 s7 => ⟨false, false, rfl, rfl, _, rfl, ifF (by decide) ?_⟩⟩
      refine .inl ⟨"_a", rfl, by decide +kernel, fun H8 s8 => ⟨isNm (codes "_a"), false, rfl, rfl, _, rfl, ifF (by decide +kernel) ?_⟩⟩
      have s9 : Same H H8 := sm.trans (s2.trans (s3.trans (s5.trans (s6.trans (s7.trans s8)))))
      -- _law_bad(abs(_law_cell(script, 0)))
      refine ⟨_, rfl, l, ns, 0, rfl, s9.seq hS, _, rfl, (ns.getD 0 0).natAbs, congrArg (fun y : Int => [V.int y]) (abs_if _), fun H9 s10 => ?_⟩
      generalize (ns.getD 0 0).natAbs = n
      have hm : n % 12 < 12 := Nat.mod_lt _ (by decide)
      have bl := bad_len (n % 12) hm
      have hlx := text_bad (cells ns) (n % 12) hm
      generalize bads.getD (n % 12) (S []) = bd at *
      have e32 : (Str.ofString " x") = S [32, 120] := by decide +kernel
      have ez : S (text (cells ns)) ++ bd ++ Str.ofString " x" = S (text (cells ns) ++ (codes bd ++ [32, 120])) := by
        rw [e32]
        conv => lhs; rw [← S_codes bd]
        rw [S_app, S_app, List.append_assoc]
      have bl' : bd.length ≤ 23 := by rw [← len_codes]; exact bl
      refine ⟨_, rfl, _, rfl, _, _, rfl, rfl, by rw [len_S]; omega, _, _, rfl, rfl, by rw [app_len, e32, len_S, len_S]; show _ + 2 ≤ sizeLine; omega, _, "m7", dues 0 (cells ns), some (text (cells ns)).length, rfl, ?_, by decide +kernel, ?_, fun H11 d' s11 e11 => ?_⟩
      · rw [ez, len_S, List.length_append, List.length_append, len_codes]
        show _ + (_ + 2) ≤ 20000
        omega
      · rw [ez, codes_S]
        exact hlx
      · refine ⟨true, T.mal.te, fun _ a0 _ => ?_, fun z => Bool.noConfusion z⟩
        refine ⟨_, rfl, rfl, rfl, d', malF "m7" ((text (cells ns)).length : Nat), .str "m7", rfl, e11, mal_mod, rfl, _, rfl, ifT (decide_eq_true rfl) ?_⟩
        refine ⟨_, rfl, rfl, rfl, d', malF "m7" ((text (cells ns)).length : Nat), .int ((text (cells ns)).length : Nat), rfl, e11, mal_at, _, rfl, S (text (cells ns)), rfl, by rw [len_S]; omega, rfl, ?_⟩
        exact congrArg V.bl (decide_eq_true rfl)

end
end Fa
set_option Elab.async false
set_option linter.all false
set_option maxRecDepth 100000
set_option maxHeartbeats 8000000
/-! What the top has written, and the end. -/
namespace Fa
open PySem PySem.Spec PyProof.Rows L2
/-- texts told by their values -/
theorem vals_of : ∀ {us : List Value} {xs : List Str}, us.map absV = xs.map (fun x => some (V.str x)) → Vals (xs.map V.str) us
  | [], [], _ => .nil
  | [], _ :: _, h => by cases h
  | _ :: _, [], h => by cases h
  | u :: us, x :: xs, h => by
    obtain ⟨h1, h2⟩ := List.cons.inj h
    refine .cons ?_ (vals_of h2)
    have h1' : absV u = some (V.str x) := h1
    cases u <;> first | (cases h1'; exact ⟨_, rfl⟩) | cases h1'
theorem tup_of {K : PySem.W.Frag} {H : Hp} {p : Addr} {od : Option Addr} {its : Array Value} {n : Nat} {sl : Array (Option Value)} {xs : List Str} (l : K.lookup p = some ⟨.type "tuple", od, .seq its n, sl⟩) (v : its.toList.map absV = xs.map (fun x => some (V.str x))) (hx : xs.length ≤ 100) :
    SqT K H p (xs.map V.str) := by
  have e := congrArg List.length v
  rw [List.length_map, List.length_map, Array.length_toList] at e
  exact .inr ⟨_, its, n, l, rfl, rfl, by rw [e]; exact Nat.le_trans hx (Nat.le_trans (by decide) line_big), vals_of v⟩
/-- an error of the class at S is what «except S» names -/
theorem exm_own {K : PySem.W.Frag} {S : Addr} (h1 : PySem.W.subIn K (.ref S) (.type "BaseException") = some true) (h2 : PySem.W.isClsIn K S = true) (h3 : PySem.W.typeIn K (.ref S) = some (.type "type")) (h4 : PySem.W.subIn K (.ref S) (.ref S) = some true) :
    PySem.W.exmOne K (.ref S) (.ref S) = some true := by
  have b : ((PySem.W.clsIn K S).isSome && PySem.W.typeIn K (.ref S) == some (.type "type")) = true := by
    have z : (PySem.W.clsIn K S).isSome = true := h2
    rw [z, h3] <;> rfl
  have a : (PySem.W.subIn K (.ref S) (.type "BaseException") == some true) = true := by rw [h1] <;> rfl
  show (if (PySem.W.subIn K (.ref S) (.type "BaseException") == some true) = true then (if ((PySem.W.clsIn K S).isSome && PySem.W.typeIn K (.ref S) == some (.type "type")) = true then PySem.W.subIn K (.ref S) (.ref S) else none) else none) = some true
  rw [if_pos a, if_pos b, h4]

theorem all_mk {w : World} {K : PySem.W.Frag} {h : Heap} {mg : Str → Option Value} {fa : Addr} (X : K.In h) (G : h.Ns mainGlobals mg) (hfa : mg "law" = some (.ref fa))
    {f9 : Addr} {od9 an9 : Option Addr} {sl9 : Array (Option Value)} {oc9 kV9 dc9 pm9 cd9 ct9 : Value}
    {f10 : Addr} {od10 an10 : Option Addr} {sl10 : Array (Option Value)} {oc10 kV10 dc10 pm10 cd10 ct10 : Value}
    {f11 : Addr} {od11 an11 : Option Addr} {sl11 : Array (Option Value)} {oc11 kV11 dc11 pm11 cd11 ct11 : Value}
    {f12 : Addr} {od12 an12 : Option Addr} {sl12 : Array (Option Value)} {oc12 kV12 dc12 pm12 cd12 ct12 : Value}
    {f13 : Addr} {od13 an13 : Option Addr} {sl13 : Array (Option Value)} {oc13 kV13 dc13 pm13 cd13 ct13 : Value}
    {f14 : Addr} {od14 an14 : Option Addr} {sl14 : Array (Option Value)} {oc14 kV14 dc14 pm14 cd14 ct14 : Value}
    {f15 : Addr} {od15 an15 : Option Addr} {sl15 : Array (Option Value)} {oc15 kV15 dc15 pm15 cd15 ct15 : Value}
    {f16 : Addr} {od16 an16 : Option Addr} {sl16 : Array (Option Value)} {oc16 kV16 dc16 pm16 cd16 ct16 : Value}
    {f17 : Addr} {od17 an17 : Option Addr} {sl17 : Array (Option Value)} {oc17 kV17 dc17 pm17 cd17 ct17 : Value}
    {f18 : Addr} {od18 an18 : Option Addr} {sl18 : Array (Option Value)} {oc18 kV18 dc18 pm18 cd18 ct18 : Value}
    {f19 : Addr} {od19 an19 : Option Addr} {sl19 : Array (Option Value)} {oc19 kV19 dc19 pm19 cd19 ct19 : Value}
    {f20 : Addr} {od20 an20 : Option Addr} {sl20 : Array (Option Value)} {oc20 kV20 dc20 pm20 cd20 ct20 : Value}
    {f22 : Addr} {od22 an22 : Option Addr} {sl22 : Array (Option Value)} {oc22 kV22 dc22 pm22 cd22 ct22 : Value}
    {f23 : Addr} {od23 an23 : Option Addr} {sl23 : Array (Option Value)} {oc23 kV23 dc23 pm23 cd23 ct23 : Value}
    {f24 : Addr} {od24 an24 : Option Addr} {sl24 : Array (Option Value)} {oc24 kV24 dc24 pm24 cd24 ct24 : Value}
    {f25 : Addr} {od25 an25 : Option Addr} {sl25 : Array (Option Value)} {oc25 kV25 dc25 pm25 cd25 ct25 : Value}
    {f26 : Addr} {od26 an26 : Option Addr} {sl26 : Array (Option Value)} {oc26 kV26 dc26 pm26 cd26 ct26 : Value}
    {f27 : Addr} {od27 an27 : Option Addr} {sl27 : Array (Option Value)} {oc27 kV27 dc27 pm27 cd27 ct27 : Value}
    {tN tT : Tok} {aR aS : Addr} {odR odS : Option Addr} {itR itS : Array Value} {nR nS : Nat} {slR slS : Array (Option Value)}
    {C R fI cda cc : Addr} {nm q : Str} {N : Addr} {bs : List Value} {sn : List Str} {sub : List Value} {ab : Bool} {col : Option Bool} {dd : Option Addr} {m0 m1 m2 m3 m5 : Option Value} {odI anI : Option Addr} {slI : Array (Option Value)} {ocI kVI dcI pmI ctI : Value} {ccl : Value} {cdd : Option Addr} {vs : Array Value} {ccs : Array (Option Value)} {file : Str} {tf : Tok} {cl : Value} {cld : Option Addr} {csl : Array (Option Value)}
    (a9 : PySem.W.nsIn K mainGlobals "is_letter" = some (some (.ref f9)))
    (l9 : K.lookup f9 = some ⟨oc9, od9, .func (PySem.W.fnOf "is_letter" "is_letter" (defArgs (top 9)) (defBody (top 9)) (defScope (top 9)) .none kV9 dc9 pm9 an9 cd9 ct9), sl9⟩)
    (c9 : PySem.W.codeIn K cd9 "is_letter" = true)
    (k9 : PySem.W.keepIn K (.ref f9) = true)
    (a10 : PySem.W.nsIn K mainGlobals "is_digit" = some (some (.ref f10)))
    (l10 : K.lookup f10 = some ⟨oc10, od10, .func (PySem.W.fnOf "is_digit" "is_digit" (defArgs (top 10)) (defBody (top 10)) (defScope (top 10)) .none kV10 dc10 pm10 an10 cd10 ct10), sl10⟩)
    (c10 : PySem.W.codeIn K cd10 "is_digit" = true)
    (k10 : PySem.W.keepIn K (.ref f10) = true)
    (a11 : PySem.W.nsIn K mainGlobals "in_name" = some (some (.ref f11)))
    (l11 : K.lookup f11 = some ⟨oc11, od11, .func (PySem.W.fnOf "in_name" "in_name" (defArgs (top 11)) (defBody (top 11)) (defScope (top 11)) .none kV11 dc11 pm11 an11 cd11 ct11), sl11⟩)
    (c11 : PySem.W.codeIn K cd11 "in_name" = true)
    (k11 : PySem.W.keepIn K (.ref f11) = true)
    (a12 : PySem.W.nsIn K mainGlobals "is_name" = some (some (.ref f12)))
    (l12 : K.lookup f12 = some ⟨oc12, od12, .func (PySem.W.fnOf "is_name" "is_name" (defArgs (top 12)) (defBody (top 12)) (defScope (top 12)) .none kV12 dc12 pm12 an12 cd12 ct12), sl12⟩)
    (c12 : PySem.W.codeIn K cd12 "is_name" = true)
    (k12 : PySem.W.keepIn K (.ref f12) = true)
    (a13 : PySem.W.nsIn K mainGlobals "run_end" = some (some (.ref f13)))
    (l13 : K.lookup f13 = some ⟨oc13, od13, .func (PySem.W.fnOf "run_end" "run_end" (defArgs (top 13)) (defBody (top 13)) (defScope (top 13)) .none kV13 dc13 pm13 an13 cd13 ct13), sl13⟩)
    (c13 : PySem.W.codeIn K cd13 "run_end" = true)
    (k13 : PySem.W.keepIn K (.ref f13) = true)
    (a14 : PySem.W.nsIn K mainGlobals "comment_end" = some (some (.ref f14)))
    (l14 : K.lookup f14 = some ⟨oc14, od14, .func (PySem.W.fnOf "comment_end" "comment_end" (defArgs (top 14)) (defBody (top 14)) (defScope (top 14)) .none kV14 dc14 pm14 an14 cd14 ct14), sl14⟩)
    (c14 : PySem.W.codeIn K cd14 "comment_end" = true)
    (k14 : PySem.W.keepIn K (.ref f14) = true)
    (a15 : PySem.W.nsIn K mainGlobals "read_word" = some (some (.ref f15)))
    (l15 : K.lookup f15 = some ⟨oc15, od15, .func (PySem.W.fnOf "read_word" "read_word" (defArgs (top 15)) (defBody (top 15)) (defScope (top 15)) .none kV15 dc15 pm15 an15 cd15 ct15), sl15⟩)
    (c15 : PySem.W.codeIn K cd15 "read_word" = true)
    (k15 : PySem.W.keepIn K (.ref f15) = true)
    (a16 : PySem.W.nsIn K mainGlobals "read_number" = some (some (.ref f16)))
    (l16 : K.lookup f16 = some ⟨oc16, od16, .func (PySem.W.fnOf "read_number" "read_number" (defArgs (top 16)) (defBody (top 16)) (defScope (top 16)) .none kV16 dc16 pm16 an16 cd16 ct16), sl16⟩)
    (c16 : PySem.W.codeIn K cd16 "read_number" = true)
    (k16 : PySem.W.keepIn K (.ref f16) = true)
    (a17 : PySem.W.nsIn K mainGlobals "read_string" = some (some (.ref f17)))
    (l17 : K.lookup f17 = some ⟨oc17, od17, .func (PySem.W.fnOf "read_string" "read_string" (defArgs (top 17)) (defBody (top 17)) (defScope (top 17)) .none kV17 dc17 pm17 an17 cd17 ct17), sl17⟩)
    (c17 : PySem.W.codeIn K cd17 "read_string" = true)
    (k17 : PySem.W.keepIn K (.ref f17) = true)
    (a18 : PySem.W.nsIn K mainGlobals "read_sign" = some (some (.ref f18)))
    (l18 : K.lookup f18 = some ⟨oc18, od18, .func (PySem.W.fnOf "read_sign" "read_sign" (defArgs (top 18)) (defBody (top 18)) (defScope (top 18)) .none kV18 dc18 pm18 an18 cd18 ct18), sl18⟩)
    (c18 : PySem.W.codeIn K cd18 "read_sign" = true)
    (k18 : PySem.W.keepIn K (.ref f18) = true)
    (a19 : PySem.W.nsIn K mainGlobals "read_token" = some (some (.ref f19)))
    (l19 : K.lookup f19 = some ⟨oc19, od19, .func (PySem.W.fnOf "read_token" "read_token" (defArgs (top 19)) (defBody (top 19)) (defScope (top 19)) .none kV19 dc19 pm19 an19 cd19 ct19), sl19⟩)
    (c19 : PySem.W.codeIn K cd19 "read_token" = true)
    (k19 : PySem.W.keepIn K (.ref f19) = true)
    (a20 : PySem.W.nsIn K mainGlobals "tokens" = some (some (.ref f20)))
    (l20 : K.lookup f20 = some ⟨oc20, od20, .func (PySem.W.fnOf "tokens" "tokens" (defArgs (top 20)) (defBody (top 20)) (defScope (top 20)) .none kV20 dc20 pm20 an20 cd20 ct20), sl20⟩)
    (c20 : PySem.W.codeIn K cd20 "tokens" = true)
    (k20 : PySem.W.keepIn K (.ref f20) = true)
    (a22 : PySem.W.nsIn K mainGlobals "_law_cell" = some (some (.ref f22)))
    (l22 : K.lookup f22 = some ⟨oc22, od22, .func (PySem.W.fnOf "_law_cell" "_law_cell" (defArgs (top 22)) (defBody (top 22)) (defScope (top 22)) .none kV22 dc22 pm22 an22 cd22 ct22), sl22⟩)
    (c22 : PySem.W.codeIn K cd22 "_law_cell" = true)
    (k22 : PySem.W.keepIn K (.ref f22) = true)
    (a23 : PySem.W.nsIn K mainGlobals "_law_word" = some (some (.ref f23)))
    (l23 : K.lookup f23 = some ⟨oc23, od23, .func (PySem.W.fnOf "_law_word" "_law_word" (defArgs (top 23)) (defBody (top 23)) (defScope (top 23)) .none kV23 dc23 pm23 an23 cd23 ct23), sl23⟩)
    (c23 : PySem.W.codeIn K cd23 "_law_word" = true)
    (k23 : PySem.W.keepIn K (.ref f23) = true)
    (a24 : PySem.W.nsIn K mainGlobals "_law_token" = some (some (.ref f24)))
    (l24 : K.lookup f24 = some ⟨oc24, od24, .func (PySem.W.fnOf "_law_token" "_law_token" (defArgs (top 24)) (defBody (top 24)) (defScope (top 24)) .none kV24 dc24 pm24 an24 cd24 ct24), sl24⟩)
    (c24 : PySem.W.codeIn K cd24 "_law_token" = true)
    (k24 : PySem.W.keepIn K (.ref f24) = true)
    (a25 : PySem.W.nsIn K mainGlobals "_law_space" = some (some (.ref f25)))
    (l25 : K.lookup f25 = some ⟨oc25, od25, .func (PySem.W.fnOf "_law_space" "_law_space" (defArgs (top 25)) (defBody (top 25)) (defScope (top 25)) .none kV25 dc25 pm25 an25 cd25 ct25), sl25⟩)
    (c25 : PySem.W.codeIn K cd25 "_law_space" = true)
    (k25 : PySem.W.keepIn K (.ref f25) = true)
    (a26 : PySem.W.nsIn K mainGlobals "_law_bad" = some (some (.ref f26)))
    (l26 : K.lookup f26 = some ⟨oc26, od26, .func (PySem.W.fnOf "_law_bad" "_law_bad" (defArgs (top 26)) (defBody (top 26)) (defScope (top 26)) .none kV26 dc26 pm26 an26 cd26 ct26), sl26⟩)
    (c26 : PySem.W.codeIn K cd26 "_law_bad" = true)
    (k26 : PySem.W.keepIn K (.ref f26) = true)
    (a27 : PySem.W.nsIn K mainGlobals "law" = some (some (.ref f27)))
    (l27 : K.lookup f27 = some ⟨oc27, od27, .func (PySem.W.fnOf "law" "law" (defArgs (top 27)) (defBody (top 27)) (defScope (top 27)) .none kV27 dc27 pm27 an27 cd27 ct27), sl27⟩)
    (c27 : PySem.W.codeIn K cd27 "law" = true)
    (k27 : PySem.W.keepIn K (.ref f27) = true)
    (z_len : PySem.W.nsIn K mainGlobals "len" = some none)
    (z_all : PySem.W.nsIn K mainGlobals "all" = some none)
    (z_int : PySem.W.nsIn K mainGlobals "int" = some none)
    (z_isinstance : PySem.W.nsIn K mainGlobals "isinstance" = some none)
    (z_str : PySem.W.nsIn K mainGlobals "str" = some none)
    (z_super : PySem.W.nsIn K mainGlobals "super" = some none)
    (z_range : PySem.W.nsIn K mainGlobals "range" = some none)
    (z_abs : PySem.W.nsIn K mainGlobals "abs" = some none)
    (z_min : PySem.W.nsIn K mainGlobals "min" = some none)
    (z_repr : PySem.W.nsIn K mainGlobals "repr" = some none)
    (z_list : PySem.W.nsIn K mainGlobals "list" = some none)
    (mN : PySem.W.nsIn K mainGlobals "MAX_NAME" = some (some (.int 20 tN)))
    (mT : PySem.W.nsIn K mainGlobals "MAX_TEXT" = some (some (.int 20000 tT)))
    (rA : PySem.W.nsIn K mainGlobals "RESERVED" = some (some (.ref aR)))
    (rL : K.lookup aR = some ⟨.type "tuple", odR, .seq itR nR, slR⟩)
    (rV : itR.toList.map absV = resv.map (fun x => some (V.str x)))
    (sA : PySem.W.nsIn K mainGlobals "SIGNS" = some (some (.ref aS)))
    (sL : K.lookup aS = some ⟨.type "tuple", odS, .seq itS nS, slS⟩)
    (sV : itS.toList.map absV = sgns.map (fun x => some (V.str x)))
    (aC : PySem.W.nsIn K mainGlobals "Malformed" = some (some (.ref C)))
    (xL : K.lookup C = some (excClassObj nm q C N bs [.ref R, .type "ValueError", .type "Exception", .type "BaseException", .type "object"] true sn sub ab col dd m0 m1 m2 m3 m5 "ValueError.__new__"))
    (sa : PySem.W.findIn K (.ref C) "__setattr__" = some (some (.builtin "object.__setattr__")))
    (ga : PySem.W.findIn K (.ref C) "__getattribute__" = some (some (.builtin "BaseException.__getattribute__")))
    (gg : PySem.W.findIn K (.ref C) "__getattr__" = some none)
    (nM : PySem.W.findIn K (.ref C) "module" = some none)
    (nA : PySem.W.findIn K (.ref C) "at" = some none)
    (iC : PySem.W.findIn K (.ref C) "__init__" = some (some (.ref fI)))
    (tI : PySem.W.typeIn K (.ref fI) = some (.type "function"))
    (lI : K.lookup fI = some ⟨ocI, odI, .func (PySem.W.ksFn "__init__" "Malformed.__init__" (defArgs sInit) (defBody sInit) (defScope sInit) .none kVI dcI pmI anI (.ref cda) ctI cc), slI⟩)
    (cI : PySem.W.codeIn K (.ref cda) "Malformed.__init__" = true)
    (lc : K.lookup cda = some ⟨ccl, cdd, .fields vs, ccs⟩)
    (hv : vs[2]? = some (.str file tf))
    (hf : ((PR.main.file : Str) == file) = true)
    (lcc : K.lookup cc = some ⟨cl, cld, .cell (some (.ref C)), csl⟩)
    (kC : PySem.W.keepIn K (.ref C) = true)
    (eC : PySem.W.subIn K (.ref C) (.type "BaseException") = some true)
    (vC : PySem.W.subIn K (.ref C) (.type "ValueError") = some true)
    (tC : PySem.W.typeIn K (.ref C) = some (.type "type"))
    (hC : PySem.W.hasDictIn K C = true)
    (iCl : PySem.W.isClsIn K C = true)
    (sC : PySem.W.subIn K (.ref C) (.ref C) = some true)
    (oC : PySem.W.mroIn K C (.ref C) = some true)
    (tp : PySem.W.nsIn K cStatics "thirdparty.any" = some none)
    (su : PySem.W.ks_superIn K C C "__init__" = some (some (.builtin "ValueError.__init__"))) :
    ∀ base : Heap, K.In base → base.Ns mainGlobals mg → LawRuns w K mg base fa := by
  intro base _ _
  have ez := hfa.symm.trans (PySem.W.mg_of X G a27)
  cases ez
  have F9 := fun_mk (st := top 9) l9 c9 k9
  have F10 := fun_mk (st := top 10) l10 c10 k10
  have F11 := fun_mk (st := top 11) l11 c11 k11
  have F12 := fun_mk (st := top 12) l12 c12 k12
  have F13 := fun_mk (st := top 13) l13 c13 k13
  have F14 := fun_mk (st := top 14) l14 c14 k14
  have F15 := fun_mk (st := top 15) l15 c15 k15
  have F16 := fun_mk (st := top 16) l16 c16 k16
  have F17 := fun_mk (st := top 17) l17 c17 k17
  have F18 := fun_mk (st := top 18) l18 c18 k18
  have F19 := fun_mk (st := top 19) l19 c19 k19
  have F20 := fun_mk (st := top 20) l20 c20 k20
  have F22 := fun_mk (st := top 22) l22 c22 k22
  have F23 := fun_mk (st := top 23) l23 c23 k23
  have F24 := fun_mk (st := top 24) l24 c24 k24
  have F25 := fun_mk (st := top 25) l25 c25 k25
  have F26 := fun_mk (st := top 26) l26 c26 k26
  have F27 := fun_mk (st := top 27) l27 c27 k27
  have oex : OexC K C := ⟨⟨nm, q, N, bs, _, sn, sub, ab, col, dd, m0, m1, m2, m3, m5, xL, by show PySem.HandSPX.refsVE [.type "ValueError", .type "Exception", .type "BaseException", .type "object"] = true; decide +kernel⟩, sa, eC, tC, kC⟩
  have mal : MalTxt K mg C fI :=
    { o := oex, gC := PySem.W.mg_of X G aC, iC := iC, tI := tI, nM := nM, nA := nA, xf := ⟨ga, gg, eC, hC⟩, te := exm_own eC iCl tC sC, opq := tp, sup := su, isVE := vC, own := oC, ms := PySem.W.mg_none_of X G z_super, mt := PySem.W.mg_none_of X G z_str,
      fn := ⟨_, _, _, _, _, _, _, _, _, _, _, _, _, _, _, _, _, _, _, lI, cI, lc, hv, hf, lcc⟩ }
  have T : Txt K mg ⟨C, fI, f9, f10, f11, f12, f13, f14, f15, f16, f17, f18, f19, f20, aR, aS⟩ ⟨_, _, _, _, _, _, _, _, _, _, _, _⟩ :=
    { mal := mal, sm := ⟨F9, F10, F11, PySem.W.mg_of X G a9, PySem.W.mg_of X G a10, PySem.W.mg_of X G a11, PySem.W.mg_none_of X G z_len⟩,
      N := F12, R := F13, C := F14, W := F15, M := F16, S := F17, G := F18, T := F19, Ks := F20,
      gN := PySem.W.mg_of X G a12, gR := PySem.W.mg_of X G a13, gC := PySem.W.mg_of X G a14, gW := PySem.W.mg_of X G a15, gM := PySem.W.mg_of X G a16, gS := PySem.W.mg_of X G a17, gG := PySem.W.mg_of X G a18, gT := PySem.W.mg_of X G a19, gK := PySem.W.mg_of X G a20,
      res := PySem.W.mg_of X G rA, resT := fun H => tup_of rL rV (by decide), sgn := PySem.W.mg_of X G sA, sgnT := fun H => tup_of sL sV (by decide),
      maxN := ⟨tN, PySem.W.mg_of X G mN⟩, maxT := ⟨tT, PySem.W.mg_of X G mT⟩, nall := PySem.W.mg_none_of X G z_all, nint := PySem.W.mg_none_of X G z_int, nisi := PySem.W.mg_none_of X G z_isinstance }
  have L : LTxt K mg ⟨f22, f23, f24, f25, f26⟩ ⟨_, _, _, _, _⟩ :=
    { cell := F22, word := F23, tok := F24, spc := F25, bad := F26, gCell := PySem.W.mg_of X G a22, gWord := PySem.W.mg_of X G a23, gTok := PySem.W.mg_of X G a24, gSpc := PySem.W.mg_of X G a25, gBad := PySem.W.mg_of X G a26, range := PySem.W.mg_none_of X G z_range }
  have U : UTxt mg := ⟨PySem.W.mg_none_of X G z_abs, PySem.W.mg_none_of X G z_min, PySem.W.mg_none_of X G z_repr, PySem.W.mg_none_of X G z_list⟩
  exact law_ok T L U F27
end Fa
open PySem PySem.W PyProof.Rows
set_option maxRecDepth 100000 in
set_option maxHeartbeats 0 in
theorem PySem.Challenge.cw_fascicle_k00_tokens_holds : PySem.Challenge.rw_fascicle_k00_tokens.Holds := by
  w_on; o_law; k_head; (case hw => w_witness2)
  k_fill
  refine Fa.walk_top rfl (fun w h Y => PySem.W.kIn_of Y) ?F
  case F =>
    intro w mg fa h KX G hmg
    refine' Fa.all_mk KX G hmg ?a9 ?l9 ?c9 ?k9 ?a10 ?l10 ?c10 ?k10 ?a11 ?l11 ?c11 ?k11 ?a12 ?l12 ?c12 ?k12 ?a13 ?l13 ?c13 ?k13 ?a14 ?l14 ?c14 ?k14 ?a15 ?l15 ?c15 ?k15 ?a16 ?l16 ?c16 ?k16 ?a17 ?l17 ?c17 ?k17 ?a18 ?l18 ?c18 ?k18 ?a19 ?l19 ?c19 ?k19 ?a20 ?l20 ?c20 ?k20 ?a22 ?l22 ?c22 ?k22 ?a23 ?l23 ?c23 ?k23 ?a24 ?l24 ?c24 ?k24 ?a25 ?l25 ?c25 ?k25 ?a26 ?l26 ?c26 ?k26 ?a27 ?l27 ?c27 ?k27 ?z_len ?z_all ?z_int ?z_isinstance ?z_str ?z_super ?z_range ?z_abs ?z_min ?z_repr ?z_list ?mN ?mT ?rA ?rL ?rV ?sA ?sL ?sV ?aC ?xL ?sa ?ga ?gg ?nM ?nA ?iC ?tI ?lI ?cI ?lc ?hv ?hf ?lcc ?kC ?eC ?vC ?tC ?hC ?iCl ?sC ?oC ?tp ?su
    (case a9 => k_is)
    (case l9 => k_is)
    (case c9 => k_is)
    (case k9 => k_is)
    (case a10 => k_is)
    (case l10 => k_is)
    (case c10 => k_is)
    (case k10 => k_is)
    (case a11 => k_is)
    (case l11 => k_is)
    (case c11 => k_is)
    (case k11 => k_is)
    (case a12 => k_is)
    (case l12 => k_is)
    (case c12 => k_is)
    (case k12 => k_is)
    (case a13 => k_is)
    (case l13 => k_is)
    (case c13 => k_is)
    (case k13 => k_is)
    (case a14 => k_is)
    (case l14 => k_is)
    (case c14 => k_is)
    (case k14 => k_is)
    (case a15 => k_is)
    (case l15 => k_is)
    (case c15 => k_is)
    (case k15 => k_is)
    (case a16 => k_is)
    (case l16 => k_is)
    (case c16 => k_is)
    (case k16 => k_is)
    (case a17 => k_is)
    (case l17 => k_is)
    (case c17 => k_is)
    (case k17 => k_is)
    (case a18 => k_is)
    (case l18 => k_is)
    (case c18 => k_is)
    (case k18 => k_is)
    (case a19 => k_is)
    (case l19 => k_is)
    (case c19 => k_is)
    (case k19 => k_is)
    (case a20 => k_is)
    (case l20 => k_is)
    (case c20 => k_is)
    (case k20 => k_is)
    (case a22 => k_is)
    (case l22 => k_is)
    (case c22 => k_is)
    (case k22 => k_is)
    (case a23 => k_is)
    (case l23 => k_is)
    (case c23 => k_is)
    (case k23 => k_is)
    (case a24 => k_is)
    (case l24 => k_is)
    (case c24 => k_is)
    (case k24 => k_is)
    (case a25 => k_is)
    (case l25 => k_is)
    (case c25 => k_is)
    (case k25 => k_is)
    (case a26 => k_is)
    (case l26 => k_is)
    (case c26 => k_is)
    (case k26 => k_is)
    (case a27 => k_is)
    (case l27 => k_is)
    (case c27 => k_is)
    (case k27 => k_is)
    (case z_len => k_is)
    (case z_all => k_is)
    (case z_int => k_is)
    (case z_isinstance => k_is)
    (case z_str => k_is)
    (case z_super => k_is)
    (case z_range => k_is)
    (case z_abs => k_is)
    (case z_min => k_is)
    (case z_repr => k_is)
    (case z_list => k_is)
    (case mN => k_is)
    (case mT => k_is)
    (case rA => k_is)
    (case rL => k_is)
    (case rV => decide +kernel)
    (case sA => k_is)
    (case sL => k_is)
    (case sV => decide +kernel)
    (case aC => k_is)
    (case xL => k_is)
    (case sa => k_is)
    (case ga => k_is)
    (case gg => k_is)
    (case nM => k_is)
    (case nA => k_is)
    (case iC => k_is)
    (case tI => k_is)
    (case lI => k_is)
    (case cI => k_is)
    (case lc => k_is)
    (case hv => rfl)
    (case hf => decide +kernel)
    (case lcc => k_is)
    (case kC => k_is)
    (case eC => k_is)
    (case vC => k_is)
    (case tC => k_is)
    (case hC => k_is)
    (case iCl => k_is)
    (case sC => first | rfl | k_is)
    (case oC => first | k_is | rfl | kernel_rfl)
    (case tp => k_is)
    (case su => first | ks_is | k_is | rfl | kernel_rfl)
