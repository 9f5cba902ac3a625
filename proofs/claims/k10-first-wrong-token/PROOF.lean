import PyProof.Rows.All
import Wide.All
import OpenK.AllK
import Wide.FinOn
import PySem.Str
import HandS.ForMost
import HandS.Exc
import HandS.ExcOwn
import HandS.ExcInit
import HandS.ExcField
import HandS.WordsExc
import HandS.Defaults
import HandS.Deep
import HandS.Flow
import HandS.Codes
import HandS.StrMore
import HandS.Replace
import HandS.CallLocal
import HandS.More
import HandS.IsInst
import HandS.Comp
import HandS.Dict
import HandS.Text
import KE.KStateDown
import HandS.Head0
import HandS.Head1
import HandS.Head2
import HandS.HeadEnd
import HandS.HeadHook1
import HandS.HeadHook2
import HandS.HeadHook3
import HandS.HeadHook4
import PySem.Challenge.RW_samenames_k10_first_wrong_token
set_option Elab.async false
set_option linter.all false
set_option maxRecDepth 100000
set_option maxHeartbeats 0
/-! The parser's mirror: programs that look at the next token, take it, fail; what such a program does on a list of tokens hangs on the tokens up to where it stops. -/
namespace K10
open PySem
/-- what is seen of a token: its sort, its word or sign ("" where it is neither) -/
abbrev Kd := Str × Str
inductive P (α : Type) where
  | ret (a : α)
  | fail
  | look (k : Kd → P α)
  | adv (p : P α)
namespace P
def bind {α β : Type} : P α → (α → P β) → P β
  | ret a, f => f a
  | fail, _ => fail
  | look k, f => look fun x => bind (k x) f
  | adv p, f => adv (bind p f)
end P
/-- the token at i; behind the last one ("", "") -/
def kdAt (ks : List Kd) (i : Nat) : Kd := (ks[i]?).getD ((Str.ofString ""), (Str.ofString ""))
def run {α : Type} (ks : List Kd) : P α → Nat → Option α × Nat
  | .ret a, i => (some a, i)
  | .fail, i => (none, i)
  | .look k, i => run ks (k (kdAt ks i)) i
  | .adv p, i => if i < ks.length then run ks p (i + 1) else (none, i)
theorem run_look {α : Type} {ks : List Kd} {k : Kd → P α} {i : Nat} : run ks (.look k) i = run ks (k (kdAt ks i)) i := rfl
theorem run_adv {α : Type} {ks : List Kd} {p : P α} {i : Nat} (h : i < ks.length) : run ks (.adv p) i = run ks p (i + 1) := if_pos h
theorem run_bind {α β : Type} (ks : List Kd) : ∀ (p : P α) (f : α → P β) (i : Nat), run ks (p.bind f) i = match run ks p i with
    | (some a, j) => run ks (f a) j
    | (none, j) => (none, j)
  | .ret _, _, _ => rfl
  | .fail, _, _ => rfl
  | .look k, f, i => run_bind ks (k (kdAt ks i)) f i
  | .adv p, f, i => by
    show (if i < ks.length then run ks (p.bind f) (i + 1) else (none, i)) = match (if i < ks.length then run ks p (i + 1) else (none, i)) with
      | (some a, j) => run ks (f a) j
      | (none, j) => (none, j)
    by_cases h : i < ks.length
    · rw [if_pos h, if_pos h]
      exact run_bind ks p f (i + 1)
    · rw [if_neg h, if_neg h]
theorem run_le {α : Type} (ks : List Kd) : ∀ (p : P α) (i : Nat), i ≤ (run ks p i).2
  | .ret _, i => Nat.le_refl i
  | .fail, i => Nat.le_refl i
  | .look k, i => run_le ks (k (kdAt ks i)) i
  | .adv p, i => by
    by_cases h : i < ks.length
    · rw [run_adv h]
      exact Nat.le_trans (Nat.le_succ i) (run_le ks p (i + 1))
    · show i ≤ (if i < ks.length then run ks p (i + 1) else (none, i)).2
      rw [if_neg h]
      exact Nat.le_refl i
theorem run_len {α : Type} (ks : List Kd) : ∀ (p : P α) (i : Nat), i ≤ ks.length → (run ks p i).2 ≤ ks.length
  | .ret _, i, h => h
  | .fail, i, h => h
  | .look k, i, h => run_len ks (k (kdAt ks i)) i h
  | .adv p, i, h => by
    by_cases h1 : i < ks.length
    · rw [run_adv h1]
      exact run_len ks p (i + 1) h1
    · show (if i < ks.length then run ks p (i + 1) else (none, i)).2 ≤ ks.length
      rw [if_neg h1]
      exact h
/-- cut behind its first n tokens: the same up to there -/
theorem run_take {α : Type} (ks : List Kd) (n : Nat) (hn : n ≤ ks.length) : ∀ (p : P α) (i : Nat), i ≤ n →
    ((run ks p i).2 < n → run (ks.take n) p i = run ks p i) ∧ (n ≤ (run ks p i).2 → (run (ks.take n) p i).2 = n)
  | .ret a, i, h => ⟨fun _ => rfl, fun h2 => Nat.le_antisymm h h2⟩
  | .fail, i, h => ⟨fun _ => rfl, fun h2 => Nat.le_antisymm h h2⟩
  | .look k, i, h => by
    by_cases hi : i < n
    · have e : kdAt (ks.take n) i = kdAt ks i := by
        unfold kdAt
        rw [List.getElem?_take_of_lt hi]
      rw [run_look, run_look, e]
      exact run_take ks n hn (k (kdAt ks i)) i h
    · have e : i = n := by omega
      subst e
      have l : (ks.take i).length = i := by rw [List.length_take]; omega
      refine ⟨fun h2 => ?_, fun _ => ?_⟩
      · have := run_le ks (.look k) i
        omega
      · have h1 := run_le (ks.take i) (.look k) i
        have h2 := run_len (ks.take i) (.look k) i (by omega)
        omega
  | .adv p, i, h => by
    have l : (ks.take n).length = n := by rw [List.length_take]; omega
    by_cases hi : i < n
    · have h1 : i < ks.length := by omega
      have h2 : i < (ks.take n).length := by omega
      rw [run_adv h1, run_adv h2]
      exact run_take ks n hn p (i + 1) hi
    · have e : i = n := by omega
      subst e
      refine ⟨fun h2 => ?_, fun _ => ?_⟩
      · have := run_le ks (.adv p) i
        omega
      · have h1 := run_le (ks.take i) (.adv p) i
        have h2 := run_len (ks.take i) (.adv p) i (by omega)
        omega
/-- the law's heart: where the whole fails at token b, the first b + 1 tokens fail there, and the first b fail at their end or not at all -/
theorem first_wrong {α : Type} {ks : List Kd} {p : P α} {b : Nat} (h : run ks p 0 = (none, b)) (hb : b < ks.length) :
    run (ks.take (b + 1)) p 0 = (none, b) ∧ (run (ks.take b) p 0).2 = b := by
  have h1 := run_take ks (b + 1) hb p 0 (Nat.zero_le _)
  have h2 := run_take ks b (Nat.le_of_lt hb) p 0 (Nat.zero_le _)
  rw [h] at h1 h2
  exact ⟨h1.1 (Nat.lt_succ_self b), h2.2 (Nat.le_refl b)⟩

/-! ### the grammar, word by word as the program reads it -/
def S (s : String) : Str := Str.ofString s
open P
def takeP (e : Str) : P Unit := look fun k => if k.2 = e then adv (ret ()) else fail
def tryP (e : Str) : P Bool := look fun k => if k.2 = e then adv (ret true) else ret false
def markP : P Unit := look fun k => if k.1 = S "name" then adv (ret ()) else fail
def finishP : P Unit := look fun k => if k.1 = S "" then ret () else fail
/-- while try_take(","): one more -/
def moreP (e : Str) (p : P Unit) : Nat → P Unit
  | 0 => fail
  | n + 1 => (tryP e).bind fun b => if b = true then p.bind fun _ => moreP e p n else ret ()
def fuel : Nat := 301
def marksP : P Unit := markP.bind fun _ => moreP (S ",") markP fuel
def fieldP : P Unit := markP.bind fun _ => (takeP (S ":")).bind fun _ => markP
def fieldsP : P Unit := (look fun k => if k.2 = S ")" then ret () else fieldP.bind fun _ => moreP (S ",") fieldP fuel).bind fun _ => takeP (S ")")
def boundP : P Unit := markP.bind fun _ => (tryP (S ":")).bind fun b => if b = true then markP else ret ()
/-- while fixed() in signs: take it, then p -/
def chainP (ss : List Str) (p : P Unit) : Nat → P Unit
  | 0 => fail
  | n + 1 => look fun k => if k.2 ∈ ss then adv (p.bind fun _ => chainP ss p n) else ret ()
def argsP (v : P Unit) : P Unit := (takeP (S "(")).bind fun _ => (look fun k => if k.2 = S ")" then ret () else v.bind fun _ => moreP (S ",") v fuel).bind fun _ => takeP (S ")")
def simpleP (v : P Unit) : P Unit := look fun k => if k.1 = S "number" then adv (ret ()) else if k.2 = S "True" ∨ k.2 = S "False" then adv (ret ()) else
  (tryP (S "(")).bind fun b => if b = true then v.bind fun _ => takeP (S ")") else markP.bind fun _ => look fun k => if k.2 = S "(" then argsP v else ret ()
def reachedP (v : P Unit) : P Unit := (simpleP v).bind fun _ => moreP (S ".") markP fuel
/-- sl: what follows a "-" -/
def signedP (v sl : P Unit) : P Unit := look fun k => if k.2 = S "-" then sl else reachedP v
def productP (s : P Unit) : P Unit := s.bind fun _ => chainP [S "*", S "/"] s fuel
def sumP (s : P Unit) : P Unit := (productP s).bind fun _ => chainP [S "+", S "-"] (productP s) fuel
def comparedP (s : P Unit) : P Unit := (sumP s).bind fun _ => look fun k => if k.2 = S "==" ∨ k.2 = S "<" then adv (sumP s) else ret ()
/-- gl: what follows a "not" -/
def negatedP (s gl : P Unit) : P Unit := look fun k => if k.2 = S "not" then gl else comparedP s
def bothP (g : P Unit) : P Unit := g.bind fun _ => chainP [S "and"] g fuel
def eitherP (g : P Unit) : P Unit := (bothP g).bind fun _ => chainP [S "or"] (bothP g) fuel
def letP (v : P Unit) : P Unit := (takeP (S "let")).bind fun _ => markP.bind fun _ => (takeP (S "=")).bind fun _ => v.bind fun _ => (takeP (S "in")).bind fun _ => v
def ifP (v : P Unit) : P Unit := (takeP (S "if")).bind fun _ => v.bind fun _ => (takeP (S "then")).bind fun _ => v.bind fun _ => (takeP (S "else")).bind fun _ => v
def loopP (v : P Unit) : P Unit := (takeP (S "loop")).bind fun _ => markP.bind fun _ => (takeP (S "=")).bind fun _ => v.bind fun _ => (takeP (S "times")).bind fun _ => v.bind fun _ => (takeP (S "do")).bind fun _ => v
/-- a value behind its beginning: v, g: a value, a negated within -/
def valueB (v g : P Unit) : P Unit := look fun k => if k.2 = S "let" then letP v else if k.2 = S "if" then ifP v else if k.2 = S "loop" then loopP v else eitherP g
/-- a value, a signed, a negated where n more may begin within -/
def lev : Nat → P Unit × P Unit × P Unit
  | 0 => (fail, signedP fail fail, negatedP (signedP fail fail) fail)
  | n + 1 => (valueB (lev n).1 (lev n).2.2, signedP (valueB (lev n).1 (lev n).2.2) (adv (lev n).2.1),
      negatedP (signedP (valueB (lev n).1 (lev n).2.2) (adv (lev n).2.1)) (adv (lev n).2.2))
def valP (n : Nat) : P Unit := (lev n).1
def sgnP (n : Nat) : P Unit := (lev n).2.1
def negP (n : Nat) : P Unit := (lev n).2.2
/-- behind a "-", a "not" -/
def sgnL : Nat → P Unit
  | 0 => fail
  | n + 1 => adv (sgnP n)
def negL : Nat → P Unit
  | 0 => fail
  | n + 1 => adv (negP n)
theorem valP_succ (n : Nat) : valP (n + 1) = valueB (valP n) (negP n) := rfl
theorem sgnP_eq : ∀ n : Nat, sgnP n = signedP (valP n) (sgnL n)
  | 0 => rfl
  | _ + 1 => rfl
theorem negP_eq : ∀ n : Nat, negP n = negatedP (sgnP n) (negL n)
  | 0 => rfl
  | _ + 1 => rfl
def valueP : P Unit := valP 30
def importP : P Unit := (takeP (S "import")).bind fun _ => markP.bind fun _ => (takeP (S ":")).bind fun _ => marksP
def dataP : P Unit := (takeP (S "data")).bind fun _ => markP.bind fun _ => (takeP (S "(")).bind fun _ => fieldsP
def traitP : P Unit := (takeP (S "trait")).bind fun _ => markP.bind fun _ => (takeP (S "with")).bind fun _ => markP.bind fun _ => (takeP (S "(")).bind fun _ => markP.bind fun _ =>
  ((tryP (S ",")).bind fun b => if b = true then fieldP.bind fun _ => moreP (S ",") fieldP fuel else ret ()).bind fun _ => (takeP (S ")")).bind fun _ => (takeP (S ":")).bind fun _ => markP
def implP : P Unit := (takeP (S "impl")).bind fun _ => markP.bind fun _ => (takeP (S "for")).bind fun _ => markP.bind fun _ => (takeP (S "=")).bind fun _ => valueP
def boundsP : P Unit := (tryP (S "[")).bind fun b => if b = true then boundP.bind fun _ => (moreP (S ",") boundP fuel).bind fun _ => takeP (S "]") else ret ()
def defP : P Unit := (takeP (S "def")).bind fun _ => markP.bind fun _ => boundsP.bind fun _ => (takeP (S "(")).bind fun _ => fieldsP.bind fun _ =>
  ((tryP (S ":")).bind fun b => if b = true then markP else ret ()).bind fun _ => (takeP (S "=")).bind fun _ => valueP
/-- an item, where there is a token -/
def itemP : P Unit := (look fun k => if k.2 = S "import" then importP else if k.2 = S "data" then dataP else if k.2 = S "trait" then traitP else if k.2 = S "impl" then implP else if k.2 = S "def" then defP else fail).bind fun _ => finishP
end K10
/-! The lexer's mirror over lists of code points: its tokens, what a cut behind a token leaves, how many tokens there can be. -/
namespace K10
open PySem
def cl (s : String) : List Nat := (Str.ofString s).cps.toList
def letterL : List Nat := cl "abcdefghijklmnopqrstuvwxyzABCDEFGHIJKLMNOPQRSTUVWXYZ"
def digitL : List Nat := cl "0123456789"
def nameL : List Nat := cl "abcdefghijklmnopqrstuvwxyzABCDEFGHIJKLMNOPQRSTUVWXYZ0123456789_"
def signL : List Nat := cl "()[],:.=<+-*/"
def isLet (c : Nat) : Bool := decide (97 ≤ c ∧ c ≤ 122) || decide (65 ≤ c ∧ c ≤ 90)
def isDig (c : Nat) : Bool := decide (48 ≤ c ∧ c ≤ 57)
def isNam (c : Nat) : Bool := isLet c || isDig c || decide (c = 95)
theorem small_cases {q : Nat → Bool} {l : List Nat} (hl : ∀ c ∈ l, c < 128) (hq : ∀ c, q c = true → c < 128) (h : ∀ c, c < 128 → (decide (c ∈ l) = q c)) (c : Nat) : decide (c ∈ l) = q c := by
  by_cases hc : c < 128
  · exact h c hc
  · have h1 : ¬ c ∈ l := fun z => hc (hl c z)
    rw [decide_eq_false h1]
    cases e : q c with
    | false => rfl
    | true => exact absurd (hq c e) hc
theorem mem_let (c : Nat) : decide (c ∈ letterL) = isLet c := by
  refine small_cases (by decide +kernel) (fun c h => ?_) (by decide +kernel) c
  unfold isLet at h
  simp at h
  omega
theorem mem_dig (c : Nat) : decide (c ∈ digitL) = isDig c := by
  refine small_cases (by decide +kernel) (fun c h => ?_) (by decide +kernel) c
  unfold isDig at h
  simp at h
  omega
theorem mem_nam (c : Nat) : decide (c ∈ nameL) = isNam c := by
  refine small_cases (by decide +kernel) (fun c h => ?_) (by decide +kernel) c
  unfold isNam isLet isDig at h
  simp at h
  omega
/-- how many signs of the beginning pass -/
def spanN (q : Nat → Bool) : List Nat → Nat
  | [] => 0
  | c :: r => if q c = true then spanN q r + 1 else 0
theorem spanN_le (q : Nat → Bool) : ∀ l : List Nat, spanN q l ≤ l.length
  | [] => Nat.le_refl 0
  | c :: r => by
    unfold spanN
    split
    · exact Nat.succ_le_succ (spanN_le q r)
    · exact Nat.zero_le _
theorem spanN_take (q : Nat → Bool) : ∀ (l : List Nat) (m : Nat), spanN q l ≤ m → spanN q (l.take m) = spanN q l
  | [], m, _ => by rw [List.take_nil]
  | c :: r, 0, h => by
    rw [List.take_zero]
    have : spanN q (c :: r) = 0 := Nat.le_zero.mp h
    rw [this]
    rfl
  | c :: r, m + 1, h => by
    rw [List.take_succ_cons]
    unfold spanN at h ⊢
    split
    · rename_i hc
      rw [if_pos hc] at h
      rw [spanN_take q r m (Nat.le_of_succ_le_succ h)]
    · rfl
/-- behind the span stands none that passes -/
theorem spanN_head (q : Nat → Bool) : ∀ (l : List Nat), ∀ d r, l.drop (spanN q l) = d :: r → q d = false
  | [], d, r, h => by simp [spanN] at h
  | c :: l, d, r, h => by
    unfold spanN at h
    split at h
    · rw [List.drop_succ_cons] at h
      exact spanN_head q l d r h
    · rename_i hc
      rw [List.drop_zero] at h
      have e : c = d := (List.cons.inj h).1
      rw [← e]
      exact Bool.eq_false_iff.mpr hc
theorem spanN_all (q : Nat → Bool) : ∀ (l : List Nat) (j : Nat) (c : Nat), j < spanN q l → l[j]? = some c → q c = true
  | [], j, c, h, _ => by simp [spanN] at h
  | a :: l, 0, c, h, e => by
    unfold spanN at h
    split at h
    · rename_i hc
      have : a = c := by simpa using e
      rw [← this]
      exact hc
    · exact absurd h (Nat.lt_irrefl 0)
  | a :: l, j + 1, c, h, e => by
    unfold spanN at h
    split at h
    · exact spanN_all q l j c (Nat.lt_of_succ_lt_succ h) (by simpa using e)
    · exact absurd h (Nat.not_lt_zero _)
def words : List (List Nat) := [cl "import", cl "data", cl "trait", cl "with", cl "impl", cl "for", cl "def", cl "let", cl "in", cl "if", cl "then", cl "else", cl "loop", cl "times", cl "do", cl "not", cl "and", cl "or", cl "True", cl "False"]
/-- the length of the token at the beginning -/
def tokN : List Nat → Nat
  | [] => 0
  | c :: r => if isLet c = true then spanN isNam (c :: r) else if isDig c = true then spanN isDig (c :: r) else if (c :: r).take 2 = [61, 61] then 2 else 1
def tokS : List Nat → String
  | [] => "wrong"
  | c :: r => if isLet c = true then (if (c :: r).take (spanN isNam (c :: r)) ∈ words then "word" else "name") else if isDig c = true then "number" else if (c :: r).take 2 = [61, 61] then "sign" else if c ∈ signL then "sign" else "wrong"
theorem tokN_cons (c : Nat) (r : List Nat) : tokN (c :: r) = if isLet c = true then spanN isNam (c :: r) else if isDig c = true then spanN isDig (c :: r) else if (c :: r).take 2 = [61, 61] then 2 else 1 := rfl
theorem tokS_cons (c : Nat) (r : List Nat) : tokS (c :: r) = if isLet c = true then (if (c :: r).take (spanN isNam (c :: r)) ∈ words then "word" else "name") else if isDig c = true then "number" else if (c :: r).take 2 = [61, 61] then "sign" else if c ∈ signL then "sign" else "wrong" := rfl
theorem let_nam {c : Nat} (h : isLet c = true) : isNam c = true := by unfold isNam; rw [h]; rfl
theorem tokN_pos {c : Nat} {r : List Nat} : 1 ≤ tokN (c :: r) := by
  rw [tokN_cons]
  split
  · rename_i h
    unfold spanN
    rw [if_pos (let_nam h)]
    omega
  · split
    · rename_i h
      unfold spanN
      rw [if_pos h]
      omega
    · split <;> omega
theorem tokN_le {c : Nat} {r : List Nat} : tokN (c :: r) ≤ (c :: r).length := by
  rw [tokN_cons]
  split
  · exact spanN_le _ _
  · split
    · exact spanN_le _ _
    · split
      · rename_i h
        have := congrArg List.length h
        rw [List.length_take] at this
        have e : ([61, 61] : List Nat).length = 2 := rfl
        omega
      · show 1 ≤ r.length + 1
        omega
theorem take_take_min {α : Type} (l : List α) {a b : Nat} (h : a ≤ b) : (l.take b).take a = l.take a := by
  rw [List.take_take, Nat.min_eq_left h]
/-- the token at the beginning stays where behind it is cut -/
theorem tok_take {c : Nat} {r : List Nat} {m : Nat} (h : tokN (c :: r) ≤ m) : tokN ((c :: r).take m) = tokN (c :: r) ∧ tokS ((c :: r).take m) = tokS (c :: r) := by
  have hp := tokN_pos (c := c) (r := r)
  obtain ⟨m', rfl⟩ : ∃ m', m = m' + 1 := ⟨m - 1, by omega⟩
  have eT : (c :: r).take (m' + 1) = c :: r.take m' := List.take_succ_cons
  have two : (c :: r.take m').take 2 = [61, 61] ↔ (c :: r).take 2 = [61, 61] ∧ 2 ≤ m' + 1 := by
    constructor
    · intro e
      have l := congrArg List.length e
      rw [List.length_take, List.length_cons, List.length_take] at l
      have e2 : ([61, 61] : List Nat).length = 2 := rfl
      have g : 2 ≤ m' + 1 := by omega
      rw [← eT, take_take_min _ g] at e
      exact ⟨e, g⟩
    · rintro ⟨e, g⟩
      rw [← eT, take_take_min _ g]
      exact e
  by_cases h1 : isLet c = true
  · have hn : tokN (c :: r) = spanN isNam (c :: r) := by rw [tokN_cons]; rw [if_pos h1]
    rw [hn] at h
    have e := spanN_take isNam (c :: r) (m' + 1) h
    rw [eT] at e ⊢
    rw [tokN_cons, tokS_cons, tokN_cons, tokS_cons]
    rw [if_pos h1, if_pos h1, if_pos h1, if_pos h1, e, ← eT, take_take_min _ h]
    exact ⟨rfl, rfl⟩
  · by_cases h2 : isDig c = true
    · have hn : tokN (c :: r) = spanN isDig (c :: r) := by rw [tokN_cons]; rw [if_neg h1, if_pos h2]
      rw [hn] at h
      have e := spanN_take isDig (c :: r) (m' + 1) h
      rw [eT] at e ⊢
      rw [tokN_cons, tokS_cons, tokN_cons, tokS_cons]
      rw [if_neg h1, if_neg h1, if_neg h1, if_neg h1, if_pos h2, if_pos h2, if_pos h2, if_pos h2, e]
      exact ⟨rfl, rfl⟩
    · rw [eT]
      rw [tokN_cons] at h
      rw [if_neg h1, if_neg h2] at h
      rw [tokN_cons, tokS_cons, tokN_cons, tokS_cons]
      rw [if_neg h1, if_neg h1, if_neg h1, if_neg h1, if_neg h2, if_neg h2, if_neg h2, if_neg h2]
      by_cases h3 : (c :: r).take 2 = [61, 61]
      · rw [if_pos h3] at h
        rw [if_pos (two.mpr ⟨h3, h⟩), if_pos h3, if_pos (two.mpr ⟨h3, h⟩), if_pos h3]
        exact ⟨rfl, rfl⟩
      · have h4 : ¬ (c :: r.take m').take 2 = [61, 61] := fun z => h3 (two.mp z).1
        rw [if_neg h3, if_neg h4, if_neg h3, if_neg h4]
        exact ⟨rfl, rfl⟩
abbrev Tk := String × Nat × Nat
def notNl (c : Nat) : Bool := !decide (c = 10)
/-- the tokens of what begins at the offset o -/
def lex (l : List Nat) (o : Nat) : List Tk :=
  match h : l with
  | [] => []
  | c :: r => if c = 32 ∨ c = 10 then lex r (o + 1) else if hc : c = 35 then lex ((c :: r).drop (spanN notNl (c :: r))) (o + spanN notNl (c :: r)) else
    (tokS (c :: r), o, o + tokN (c :: r)) :: lex ((c :: r).drop (tokN (c :: r))) (o + tokN (c :: r))
termination_by l.length
decreasing_by
  · simp
  · subst hc
    rw [List.length_drop, List.length_cons]
    have : 1 ≤ spanN notNl (35 :: r) := by
      unfold spanN
      rw [if_pos (by decide)]
      omega
    omega
  · rw [List.length_drop, List.length_cons]
    have := tokN_pos (c := c) (r := r)
    omega
theorem lex_nil (o : Nat) : lex [] o = [] := by rw [lex]
theorem lex_sp {c : Nat} {r : List Nat} {o : Nat} (h : c = 32 ∨ c = 10) : lex (c :: r) o = lex r (o + 1) := by
  rw [lex]
  rw [if_pos h]
theorem lex_com {r : List Nat} {o : Nat} : lex (35 :: r) o = lex ((35 :: r).drop (spanN notNl (35 :: r))) (o + spanN notNl (35 :: r)) := by
  rw [lex]
  rw [if_neg (by decide), dif_pos rfl]
theorem lex_tok {c : Nat} {r : List Nat} {o : Nat} (h : ¬ (c = 32 ∨ c = 10)) (h2 : c ≠ 35) : lex (c :: r) o = (tokS (c :: r), o, o + tokN (c :: r)) :: lex ((c :: r).drop (tokN (c :: r))) (o + tokN (c :: r)) := by
  rw [lex]
  rw [if_neg h, dif_neg h2]
theorem com_pos {r : List Nat} : 1 ≤ spanN notNl (35 :: r) := by
  unfold spanN
  rw [if_pos (by decide)]
  omega
/-- one rule for what is shown of all texts -/
theorem lex_ind {M : List Nat → Prop} (h0 : M []) (h1 : ∀ c r, (c = 32 ∨ c = 10) → M r → M (c :: r)) (h2 : ∀ r, M ((35 :: r).drop (spanN notNl (35 :: r))) → M (35 :: r))
    (h3 : ∀ c r, ¬ (c = 32 ∨ c = 10) → c ≠ 35 → M ((c :: r).drop (tokN (c :: r))) → M (c :: r)) : ∀ (n : Nat) (l : List Nat), l.length ≤ n → M l
  | _, [], _ => h0
  | 0, c :: r, h => absurd h (Nat.not_succ_le_zero _)
  | n + 1, c :: r, h => by
    have hr : r.length ≤ n := Nat.le_of_succ_le_succ h
    by_cases a : c = 32 ∨ c = 10
    · exact h1 c r a (lex_ind h0 h1 h2 h3 n r hr)
    · by_cases b : c = 35
      · subst b
        refine h2 r (lex_ind h0 h1 h2 h3 n _ ?_)
        have := com_pos (r := r)
        rw [List.length_drop, List.length_cons]
        omega
      · refine h3 c r a b (lex_ind h0 h1 h2 h3 n _ ?_)
        have := tokN_pos (c := c) (r := r)
        rw [List.length_drop, List.length_cons]
        omega
theorem lex_bounds (l : List Nat) : ∀ (o : Nat) (t : Tk), t ∈ lex l o → o ≤ t.2.1 ∧ t.2.1 < t.2.2 ∧ t.2.2 ≤ o + l.length := by
  refine lex_ind (M := fun l => ∀ (o : Nat) (t : Tk), t ∈ lex l o → o ≤ t.2.1 ∧ t.2.1 < t.2.2 ∧ t.2.2 ≤ o + l.length) ?_ ?_ ?_ ?_ l.length l (Nat.le_refl _)
  · intro o t h
    rw [lex_nil] at h
    cases h
  · intro c r a ih o t h
    rw [lex_sp a] at h
    have := ih _ _ h
    rw [List.length_cons]
    omega
  · intro r ih o t h
    rw [lex_com] at h
    have := ih _ _ h
    rw [List.length_drop] at this
    have := spanN_le notNl (35 :: r)
    omega
  · intro c r a b ih o t h
    rw [lex_tok a b] at h
    have hp := tokN_pos (c := c) (r := r)
    have hl := tokN_le (c := c) (r := r)
    rcases List.mem_cons.mp h with e | h
    · rw [e]
      show o ≤ o ∧ o < o + tokN (c :: r) ∧ o + tokN (c :: r) ≤ o + (c :: r).length
      omega
    · have := ih _ _ h
      rw [List.length_drop] at this
      omega
/-- places ascend -/
theorem lex_asc (l : List Nat) : ∀ o : Nat, (lex l o).Pairwise fun s t => s.2.2 ≤ t.2.1 := by
  refine lex_ind (M := fun l => ∀ o : Nat, (lex l o).Pairwise fun s t => s.2.2 ≤ t.2.1) ?_ ?_ ?_ ?_ l.length l (Nat.le_refl _)
  · intro o
    rw [lex_nil]
    exact .nil
  · intro c r a ih o
    rw [lex_sp a]
    exact ih _
  · intro r ih o
    rw [lex_com]
    exact ih _
  · intro c r a b ih o
    rw [lex_tok a b]
    exact .cons (fun t ht => (lex_bounds _ _ t ht).1) (ih _)
theorem take_drop_comm {α : Type} (l : List α) (n m : Nat) : (l.take (n + m)).drop n = (l.drop n).take m := by
  rw [List.drop_take]
  congr 1
  omega
/-- a text that is cut behind its k-th token has its first k + 1 tokens -/
theorem lex_cut (l : List Nat) : ∀ (o k : Nat) (t : Tk), (lex l o)[k]? = some t → lex (l.take (t.2.2 - o)) o = (lex l o).take (k + 1) := by
  refine lex_ind (M := fun l => ∀ (o k : Nat) (t : Tk), (lex l o)[k]? = some t → lex (l.take (t.2.2 - o)) o = (lex l o).take (k + 1)) ?_ ?_ ?_ ?_ l.length l (Nat.le_refl _)
  · intro o k t h
    rw [lex_nil] at h
    simp at h
  · intro c r a ih o k t h
    rw [lex_sp a] at h ⊢
    have hb := lex_bounds _ _ t (List.mem_of_getElem? h)
    have e : t.2.2 - o = (t.2.2 - (o + 1)) + 1 := by omega
    rw [e, List.take_succ_cons, lex_sp a]
    exact ih _ _ _ h
  · intro r ih o k t h
    rw [lex_com] at h
    have hb := lex_bounds _ _ t (List.mem_of_getElem? h)
    have hp := com_pos (r := r)
    have hs := spanN_take notNl (35 :: r) (t.2.2 - o) (by omega)
    have e : t.2.2 - o = spanN notNl (35 :: r) + (t.2.2 - (o + spanN notNl (35 :: r))) := by omega
    have e2 : t.2.2 - o = (t.2.2 - o - 1) + 1 := by omega
    have e3 : (35 :: r).take (t.2.2 - o) = 35 :: r.take (t.2.2 - o - 1) := by rw [e2, List.take_succ_cons]; rfl
    rw [e3] at hs ⊢
    rw [lex_com (o := o), lex_com (o := o), hs, ← e3]
    have e4 : ((35 :: r).take (t.2.2 - o)).drop (spanN notNl (35 :: r)) = ((35 :: r).drop (spanN notNl (35 :: r))).take (t.2.2 - (o + spanN notNl (35 :: r))) := by
      rw [e, take_drop_comm]
    rw [e4]
    exact ih _ _ _ h
  · intro c r a b ih o k t h
    rw [lex_tok a b] at h
    have hp := tokN_pos (c := c) (r := r)
    have hl := tokN_le (c := c) (r := r)
    have ht : tokN (c :: r) ≤ t.2.2 - o := by
      cases k with
      | zero =>
        have e : (tokS (c :: r), o, o + tokN (c :: r)) = t := by simpa using h
        rw [← e]
        show _ ≤ o + tokN (c :: r) - o
        omega
      | succ k =>
        have h' : (lex ((c :: r).drop (tokN (c :: r))) (o + tokN (c :: r)))[k]? = some t := by simpa using h
        have := lex_bounds _ _ t (List.mem_of_getElem? h')
        omega
    obtain ⟨q1, q2⟩ := tok_take (c := c) (r := r) (m := t.2.2 - o) ht
    have e2 : t.2.2 - o = (t.2.2 - o - 1) + 1 := by omega
    have e3 : (c :: r).take (t.2.2 - o) = c :: r.take (t.2.2 - o - 1) := by rw [e2, List.take_succ_cons]; rfl
    rw [e3] at q1 q2 ⊢
    rw [lex_tok (o := o) a b, lex_tok (o := o) a b, q1, q2, ← e3]
    have e4 : ((c :: r).take (t.2.2 - o)).drop (tokN (c :: r)) = ((c :: r).drop (tokN (c :: r))).take (t.2.2 - (o + tokN (c :: r))) := by
      have e : t.2.2 - o = tokN (c :: r) + (t.2.2 - (o + tokN (c :: r))) := by omega
      rw [e, take_drop_comm]
    rw [e4, List.take_succ_cons]
    congr 1
    cases k with
    | zero =>
      have e : (tokS (c :: r), o, o + tokN (c :: r)) = t := by simpa using h
      rw [← e]
      show lex (List.take (o + tokN (c :: r) - (o + tokN (c :: r))) _) _ = _
      rw [Nat.sub_self, List.take_zero, List.take_zero, lex_nil]
    | succ k => exact ih _ _ _ (by simpa using h)
end K10
/-! How many tokens a text can have. -/
namespace K10
open PySem
/-- a token may begin at c behind p -/
def starts (p c : Nat) : Bool := !(decide (c = 32) || decide (c = 10) || decide (c = 35)) && (!(isLet p && isNam c) && !(isDig p && isDig c))
def bnd (p : Nat) : List Nat → Nat
  | [] => 0
  | c :: r => (if starts p c = true then 1 else 0) + bnd c r
def lastD (p : Nat) : List Nat → Nat
  | [] => p
  | c :: r => lastD c r
theorem bnd_app : ∀ (a b : List Nat) (p : Nat), bnd p (a ++ b) = bnd p a + bnd (lastD p a) b
  | [], b, p => (Nat.zero_add _).symm
  | c :: r, b, p => by
    show (if starts p c = true then 1 else 0) + bnd c (r ++ b) = (if starts p c = true then 1 else 0) + bnd c r + bnd (lastD c r) b
    rw [bnd_app r b c]
    omega
theorem starts_32 {p c : Nat} (h : starts p c = true) : starts 32 c = true := by
  unfold starts at h ⊢
  simp only [Bool.and_eq_true] at h ⊢
  exact ⟨h.1, rfl, rfl⟩
theorem bnd_32 : ∀ (l : List Nat) (p : Nat), bnd p l ≤ bnd 32 l
  | [], _ => Nat.le_refl _
  | c :: r, p => by
    show (if starts p c = true then 1 else 0) + bnd c r ≤ (if starts 32 c = true then 1 else 0) + bnd c r
    by_cases h : starts p c = true
    · rw [if_pos h, if_pos (starts_32 h)]
      exact Nat.le_refl _
    · rw [if_neg h]
      omega
theorem bnd_glue (a b : List Nat) : bnd 32 (a ++ b) ≤ bnd 32 a + bnd 32 b := by
  rw [bnd_app]
  have := bnd_32 b (lastD 32 a)
  omega
theorem lastD_all {q : Nat → Bool} : ∀ (l : List Nat) (p : Nat), l ≠ [] → (∀ c ∈ l, q c = true) → q (lastD p l) = true
  | [c], p, _, h => h c List.mem_cons_self
  | c :: d :: r, p, _, h => lastD_all (d :: r) c (List.cons_ne_nil _ _) fun x hx => h x (List.mem_cons_of_mem _ hx)
  | [], _, h, _ => absurd rfl h
theorem span_mem {q : Nat → Bool} : ∀ (l : List Nat), ∀ c ∈ l.take (spanN q l), q c = true
  | [], c, h => by simp at h
  | a :: l, c, h => by
    unfold spanN at h
    split at h
    · rename_i ha
      rw [List.take_succ_cons] at h
      rcases List.mem_cons.mp h with e | h
      · rw [e]
        exact ha
      · exact span_mem l c h
    · rw [List.take_zero] at h
      cases h
/-- behind a token none goes on -/
def Fresh (p : Nat) (l : List Nat) : Prop := ∀ d r, l = d :: r → starts p d = true ∨ d = 32 ∨ d = 10 ∨ d = 35
theorem starts_of {p d : Nat} (h1 : isLet p = true → isNam d = false) (h2 : isDig p = true → isDig d = false) : starts p d = true ∨ d = 32 ∨ d = 10 ∨ d = 35 := by
  by_cases a : d = 32
  · exact .inr (.inl a)
  · by_cases b : d = 10
    · exact .inr (.inr (.inl b))
    · by_cases c : d = 35
      · exact .inr (.inr (.inr c))
      · refine .inl ?_
        unfold starts
        rw [decide_eq_false a, decide_eq_false b, decide_eq_false c]
        cases x : isLet p with
        | true =>
          rw [h1 x]
          cases y : isDig p with
          | true => rw [h2 y]; rfl
          | false => rfl
        | false =>
          cases y : isDig p with
          | true => rw [h2 y]; rfl
          | false => rfl
theorem dig_nam {c : Nat} (h : isNam c = false) : isDig c = false := by
  cases e : isDig c with
  | false => rfl
  | true =>
    unfold isNam at h
    rw [e] at h
    simp at h
theorem dig_let {c : Nat} (h : isDig c = true) : isLet c = false := by
  unfold isDig at h
  unfold isLet
  simp at h ⊢
  omega
theorem fresh_tok {c : Nat} {r : List Nat} (p : Nat) : Fresh (lastD p ((c :: r).take (tokN (c :: r)))) ((c :: r).drop (tokN (c :: r))) := by
  intro d r' hd
  have ne : (c :: r).take (tokN (c :: r)) ≠ [] := fun e => by
    have l := congrArg List.length e
    have := tokN_pos (c := c) (r := r)
    rw [List.length_take, List.length_cons, List.length_nil] at l
    omega
  by_cases h1 : isLet c = true
  · have en : tokN (c :: r) = spanN isNam (c :: r) := by rw [tokN_cons]; rw [if_pos h1]
    rw [en] at hd
    have hn := spanN_head isNam _ _ _ hd
    exact starts_of (fun _ => hn) fun _ => dig_nam hn
  · by_cases h2 : isDig c = true
    · have en : tokN (c :: r) = spanN isDig (c :: r) := by rw [tokN_cons]; rw [if_neg h1, if_pos h2]
      rw [en] at hd ne ⊢
      have hn := spanN_head isDig _ _ _ hd
      have hq : isDig (lastD p ((c :: r).take (spanN isDig (c :: r)))) = true := lastD_all _ _ ne (span_mem _)
      refine starts_of (fun z => ?_) fun _ => hn
      rw [dig_let hq] at z
      cases z
    · have hc : isLet c = false := Bool.eq_false_iff.mpr h1
      have hd' : isDig c = false := Bool.eq_false_iff.mpr h2
      have en : tokN (c :: r) = if (c :: r).take 2 = [61, 61] then 2 else 1 := by rw [tokN_cons]; rw [if_neg h1, if_neg h2]
      rw [en]
      by_cases h3 : (c :: r).take 2 = [61, 61]
      · rw [if_pos h3, h3]
        exact starts_of (fun z => absurd (show isLet 61 = true from z) (by decide)) fun z => absurd (show isDig 61 = true from z) (by decide)
      · rw [if_neg h3]
        refine starts_of (fun z => ?_) fun z => ?_
        · have z' : isLet c = true := z
          rw [hc] at z'
          cases z'
        · have z' : isDig c = true := z
          rw [hd'] at z'
          cases z'
theorem bnd_split (l : List Nat) (n p : Nat) : bnd p l = bnd p (l.take n) + bnd (lastD p (l.take n)) (l.drop n) := by
  rw [← bnd_app, List.take_append_drop]
theorem lex_bnd (l : List Nat) : ∀ (o p : Nat), Fresh p l → (lex l o).length ≤ bnd p l := by
  refine lex_ind (M := fun l => ∀ (o p : Nat), Fresh p l → (lex l o).length ≤ bnd p l) ?_ ?_ ?_ ?_ l.length l (Nat.le_refl _)
  · intro o p _
    rw [lex_nil]
    exact Nat.zero_le _
  · intro c r a ih o p _
    rw [lex_sp a]
    have h := ih (o + 1) c fun d r' _ => starts_of (fun z => by rcases a with a | a <;> rw [a] at z <;> exact absurd z (by decide)) fun z => by rcases a with a | a <;> rw [a] at z <;> exact absurd z (by decide)
    show _ ≤ _ + bnd c r
    omega
  · intro r ih o p _
    rw [lex_com]
    have h := ih (o + spanN notNl (35 :: r)) (lastD p ((35 :: r).take (spanN notNl (35 :: r)))) fun d r' hd => by
      have := spanN_head notNl _ _ _ hd
      unfold notNl at this
      simp at this
      exact .inr (.inr (.inl this))
    rw [bnd_split _ (spanN notNl (35 :: r)) p]
    omega
  · intro c r a b ih o p hf
    rw [lex_tok a b, List.length_cons]
    have h := ih (o + tokN (c :: r)) _ (fresh_tok p)
    rw [bnd_split _ (tokN (c :: r)) p]
    have hs : starts p c = true := by
      rcases hf c r rfl with z | z | z | z
      · exact z
      · exact absurd (Or.inl z) a
      · exact absurd (Or.inr z) a
      · exact absurd z b
    have h1 : 1 ≤ bnd p ((c :: r).take (tokN (c :: r))) := by
      obtain ⟨m, hm⟩ : ∃ m, tokN (c :: r) = m + 1 := ⟨tokN (c :: r) - 1, by have := tokN_pos (c := c) (r := r); omega⟩
      rw [hm, List.take_succ_cons]
      show 1 ≤ (if starts p c = true then 1 else 0) + _
      rw [if_pos hs]
      omega
    omega
/-- how many tokens -/
def cnt (l : List Nat) : Nat := (lex l 0).length
theorem cnt_off (l : List Nat) : ∀ o, (lex l o).length = cnt l := by
  have key : ∀ o o', (lex l o).length = (lex l o').length := by
    refine lex_ind (M := fun l => ∀ o o', (lex l o).length = (lex l o').length) ?_ ?_ ?_ ?_ l.length l (Nat.le_refl _)
    · intro o o'
      rw [lex_nil, lex_nil]
    · intro c r a ih o o'
      rw [lex_sp a, lex_sp a]
      exact ih _ _
    · intro r ih o o'
      rw [lex_com, lex_com]
      exact ih _ _
    · intro c r a b ih o o'
      rw [lex_tok a b, lex_tok a b, List.length_cons, List.length_cons, ih _ (o' + tokN (c :: r))]
  exact fun o => key o 0
theorem cnt_bnd (l : List Nat) : cnt l ≤ bnd 32 l := lex_bnd l 0 32 fun d r _ => starts_of (fun z => absurd z (by decide)) fun z => absurd z (by decide)
theorem cnt_nil : cnt [] = 0 := by unfold cnt; rw [lex_nil]; rfl
theorem cnt_sp {c : Nat} {r : List Nat} (h : c = 32 ∨ c = 10) : cnt (c :: r) = cnt r := by unfold cnt; rw [lex_sp h]; exact cnt_off r _
theorem cnt_com {r : List Nat} : cnt (35 :: r) = cnt ((35 :: r).drop (spanN notNl (35 :: r))) := by
  have e : cnt (35 :: r) = (lex ((35 :: r).drop (spanN notNl (35 :: r))) (0 + spanN notNl (35 :: r))).length := by
    show (lex (35 :: r) 0).length = _
    rw [lex_com]
  rw [e]
  exact cnt_off _ _
theorem cnt_tok {c : Nat} {r : List Nat} (h : ¬ (c = 32 ∨ c = 10)) (h2 : c ≠ 35) : cnt (c :: r) = cnt ((c :: r).drop (tokN (c :: r))) + 1 := by
  have e : cnt (c :: r) = (lex ((c :: r).drop (tokN (c :: r))) (0 + tokN (c :: r))).length + 1 := by
    show (lex (c :: r) 0).length = _
    rw [lex_tok h h2, List.length_cons]
  rw [e, cnt_off]
theorem span_more {q : Nat → Bool} : ∀ (n : Nat) (l : List Nat), n ≤ l.length → (∀ c ∈ l.take n, q c = true) → spanN q l = n + spanN q (l.drop n)
  | 0, l, _, _ => by rw [List.drop_zero, Nat.zero_add]
  | n + 1, [], h, _ => absurd h (Nat.not_succ_le_zero _)
  | n + 1, c :: l, h, hq => by
    rw [List.take_succ_cons] at hq
    have ih := span_more n l (Nat.le_of_succ_le_succ h) fun x hx => hq x (List.mem_cons_of_mem _ hx)
    rw [List.drop_succ_cons]
    have : spanN q (c :: l) = spanN q l + 1 := if_pos (hq c List.mem_cons_self)
    rw [this, ih]
    omega
theorem nam_nl {c : Nat} (h : isNam c = true) : notNl c = true := by
  unfold notNl
  by_cases e : c = 10
  · rw [e] at h
    exact absurd h (by decide)
  · rw [decide_eq_false e]
    rfl
theorem dig_nl {c : Nat} (h : isDig c = true) : notNl c = true := by
  unfold notNl
  by_cases e : c = 10
  · rw [e] at h
    exact absurd h (by decide)
  · rw [decide_eq_false e]
    rfl
theorem tok_nl {c : Nat} {r : List Nat} (a : ¬ (c = 32 ∨ c = 10)) : ∀ x ∈ (c :: r).take (tokN (c :: r)), notNl x = true := by
  by_cases h1 : isLet c = true
  · have en : tokN (c :: r) = spanN isNam (c :: r) := by rw [tokN_cons]; rw [if_pos h1]
    rw [en]
    exact fun x hx => nam_nl (span_mem _ x hx)
  · by_cases h2 : isDig c = true
    · have en : tokN (c :: r) = spanN isDig (c :: r) := by rw [tokN_cons]; rw [if_neg h1, if_pos h2]
      rw [en]
      exact fun x hx => dig_nl (span_mem _ x hx)
    · have en : tokN (c :: r) = if (c :: r).take 2 = [61, 61] then 2 else 1 := by rw [tokN_cons]; rw [if_neg h1, if_neg h2]
      rw [en]
      by_cases h3 : (c :: r).take 2 = [61, 61]
      · rw [if_pos h3, h3]
        intro x hx
        have e : x = 61 := by simpa using hx
        rw [e]
        decide
      · rw [if_neg h3]
        intro x hx
        have e : x = c := by simpa using hx
        rw [e]
        unfold notNl
        rw [decide_eq_false fun z => a (.inr z)]
        rfl
/-- to pass over the rest of the line finds no more tokens -/
theorem cnt_skip (l : List Nat) : cnt (l.drop (spanN notNl l)) ≤ cnt l := by
  refine lex_ind (M := fun l => cnt (l.drop (spanN notNl l)) ≤ cnt l) ?_ ?_ ?_ ?_ l.length l (Nat.le_refl _)
  · exact Nat.le_refl _
  · intro c r a ih
    rw [cnt_sp a]
    rcases a with a | a
    · subst a
      have e : spanN notNl (32 :: r) = spanN notNl r + 1 := if_pos (by decide)
      rw [e, List.drop_succ_cons]
      exact ih
    · subst a
      have e : spanN notNl (10 :: r) = 0 := if_neg (by decide)
      rw [e, List.drop_zero, cnt_sp (.inr rfl)]
      exact Nat.le_refl _
  · intro r _
    rw [cnt_com]
    exact Nat.le_refl _
  · intro c r a b ih
    rw [cnt_tok a b, span_more (tokN (c :: r)) (c :: r) tokN_le (tok_nl a), ← List.drop_drop]
    omega
theorem span_app {q : Nat → Bool} : ∀ (a x : List Nat), (spanN q a < a.length → spanN q (a ++ x) = spanN q a) ∧ (spanN q a = a.length → spanN q (a ++ x) = a.length + spanN q x)
  | [], x => ⟨fun h => absurd h (Nat.not_lt_zero _), fun _ => by rw [List.nil_append, List.length_nil, Nat.zero_add]⟩
  | c :: a, x => by
    obtain ⟨i1, i2⟩ := span_app (q := q) a x
    show ((if q c = true then spanN q a + 1 else 0) < a.length + 1 → (if q c = true then spanN q (a ++ x) + 1 else 0) = (if q c = true then spanN q a + 1 else 0)) ∧
      ((if q c = true then spanN q a + 1 else 0) = a.length + 1 → (if q c = true then spanN q (a ++ x) + 1 else 0) = a.length + 1 + spanN q x)
    by_cases h : q c = true
    · rw [if_pos h, if_pos h]
      exact ⟨fun z => by rw [i1 (by omega)], fun z => by rw [i2 (by omega)]; omega⟩
    · rw [if_neg h, if_neg h]
      exact ⟨fun _ => rfl, fun z => by omega⟩
theorem span_stop {q : Nat → Bool} (a : List Nat) {d : Nat} (x : List Nat) (h : q d = false) : spanN q (a ++ d :: x) ≤ a.length := by
  obtain ⟨i1, i2⟩ := span_app (q := q) a (d :: x)
  have hl := spanN_le q a
  by_cases e : spanN q a = a.length
  · rw [i2 e]
    have : spanN q (d :: x) = 0 := if_neg (by rw [h]; decide)
    omega
  · rw [i1 (by omega)]
    exact hl
theorem tok_stop {c : Nat} {r x : List Nat} : tokN (c :: r ++ 32 :: x) ≤ (c :: r).length := by
  show tokN (c :: (r ++ 32 :: x)) ≤ _
  rw [tokN_cons]
  split
  · exact span_stop (c :: r) x (by decide)
  · split
    · exact span_stop (c :: r) x (by decide)
    · split
      · rename_i h
        cases r with
        | nil =>
          have h' : [c, 32] = [61, 61] := h
          simp at h'
        | cons d r =>
          rw [List.length_cons, List.length_cons]
          omega
      · rw [List.length_cons]
        omega
theorem cnt_glue (a x : List Nat) : cnt (a ++ 32 :: x) ≤ cnt a + cnt x := by
  refine lex_ind (M := fun a => cnt (a ++ 32 :: x) ≤ cnt a + cnt x) ?_ ?_ ?_ ?_ a.length a (Nat.le_refl _)
  · rw [List.nil_append, cnt_sp (.inl rfl), cnt_nil]
    omega
  · intro c r h ih
    rw [List.cons_append, cnt_sp h, cnt_sp h]
    exact ih
  · intro r ih
    obtain ⟨i1, i2⟩ := span_app (q := notNl) (35 :: r) (32 :: x)
    have hl := spanN_le notNl (35 :: r)
    rw [List.cons_append, cnt_com, cnt_com]
    rw [List.cons_append] at i1 i2
    by_cases e : spanN notNl (35 :: r) = (35 :: r).length
    · have e2 : spanN notNl (32 :: x) = spanN notNl x + 1 := if_pos (by decide)
      rw [i2 e, e2]
      have e3 : (35 :: (r ++ 32 :: x)).drop ((35 :: r).length + (spanN notNl x + 1)) = x.drop (spanN notNl x) := by
        rw [← List.drop_drop, ← List.cons_append, List.drop_left, List.drop_succ_cons]
      rw [e3]
      have := cnt_skip x
      omega
    · rw [i1 (by omega), ← List.cons_append, List.drop_append_of_le_length hl]
      exact ih
  · intro c r h b ih
    have hs := tok_stop (c := c) (r := r) (x := x)
    have ht := (tok_take (c := c) (r := r ++ 32 :: x) (m := (c :: r).length) hs).1
    rw [← List.cons_append, List.take_left] at ht
    rw [List.cons_append, cnt_tok h b, cnt_tok h b, ← List.cons_append, ← ht, List.drop_append_of_le_length tokN_le]
    omega
/-- what stands ahead of the k-th token, behind it -/
theorem lex_ahead (l : List Nat) : ∀ (o k : Nat) (t : Tk), (lex l o)[k]? = some t → cnt (l.take (t.2.1 - o)) ≤ k ∧ cnt (l.drop (t.2.2 - o)) + (k + 1) = cnt l ∧ cnt (l.drop (t.2.1 - o)) + k = cnt l := by
  refine lex_ind (M := fun l => ∀ (o k : Nat) (t : Tk), (lex l o)[k]? = some t → cnt (l.take (t.2.1 - o)) ≤ k ∧ cnt (l.drop (t.2.2 - o)) + (k + 1) = cnt l ∧ cnt (l.drop (t.2.1 - o)) + k = cnt l) ?_ ?_ ?_ ?_ l.length l (Nat.le_refl _)
  · intro o k t h
    rw [lex_nil] at h
    simp at h
  · intro c r a ih o k t h
    rw [lex_sp a] at h
    have hb := lex_bounds _ _ t (List.mem_of_getElem? h)
    obtain ⟨q1, q2, q3⟩ := ih _ _ _ h
    have e1 : t.2.1 - o = (t.2.1 - (o + 1)) + 1 := by omega
    have e2 : t.2.2 - o = (t.2.2 - (o + 1)) + 1 := by omega
    rw [e1, e2, List.take_succ_cons, List.drop_succ_cons, List.drop_succ_cons, cnt_sp a, cnt_sp a]
    exact ⟨q1, q2, q3⟩
  · intro r ih o k t h
    rw [lex_com] at h
    have hb := lex_bounds _ _ t (List.mem_of_getElem? h)
    obtain ⟨q1, q2, q3⟩ := ih _ _ _ h
    have hp := com_pos (r := r)
    have e1 : t.2.1 - o = spanN notNl (35 :: r) + (t.2.1 - (o + spanN notNl (35 :: r))) := by omega
    have e2 : t.2.2 - o = spanN notNl (35 :: r) + (t.2.2 - (o + spanN notNl (35 :: r))) := by omega
    rw [← cnt_com] at q2 q3
    rw [List.drop_drop] at q2 q3
    rw [← e1] at q3
    rw [← e2] at q2
    refine ⟨?_, q2, q3⟩
    have hs := spanN_take notNl (35 :: r) (t.2.1 - o) (by omega)
    have e4 : t.2.1 - o = (t.2.1 - o - 1) + 1 := by omega
    have e3 : (35 :: r).take (t.2.1 - o) = 35 :: r.take (t.2.1 - o - 1) := by rw [e4, List.take_succ_cons]; rfl
    rw [e3] at hs ⊢
    rw [cnt_com, hs, ← e3, e1, take_drop_comm]
    exact q1
  · intro c r a b ih o k t h
    rw [lex_tok a b] at h
    have hp := tokN_pos (c := c) (r := r)
    cases k with
    | zero =>
      have e : (tokS (c :: r), o, o + tokN (c :: r)) = t := by simpa using h
      rw [← e]
      show cnt ((c :: r).take (o - o)) ≤ 0 ∧ cnt ((c :: r).drop (o + tokN (c :: r) - o)) + (0 + 1) = cnt (c :: r) ∧ cnt ((c :: r).drop (o - o)) + 0 = cnt (c :: r)
      rw [Nat.sub_self, List.take_zero, cnt_nil, List.drop_zero, Nat.add_sub_cancel_left, cnt_tok a b]
      exact ⟨Nat.le_refl _, rfl, rfl⟩
    | succ k =>
      have h' : (lex ((c :: r).drop (tokN (c :: r))) (o + tokN (c :: r)))[k]? = some t := by simpa using h
      have hb := lex_bounds _ _ t (List.mem_of_getElem? h')
      obtain ⟨q1, q2, q3⟩ := ih _ _ _ h'
      have e1 : t.2.1 - o = tokN (c :: r) + (t.2.1 - (o + tokN (c :: r))) := by omega
      have e2 : t.2.2 - o = tokN (c :: r) + (t.2.2 - (o + tokN (c :: r))) := by omega
      rw [List.drop_drop] at q2 q3
      rw [← e1] at q3
      rw [← e2] at q2
      rw [cnt_tok a b]
      refine ⟨?_, by omega, by omega⟩
      have ht := (tok_take (c := c) (r := r) (m := t.2.1 - o) (by omega)).1
      have e4 : t.2.1 - o = (t.2.1 - o - 1) + 1 := by omega
      have e3 : (c :: r).take (t.2.1 - o) = c :: r.take (t.2.1 - o - 1) := by rw [e4, List.take_succ_cons]; rfl
      rw [e3] at ht ⊢
      rw [cnt_tok a b, ht, ← e3, e1, take_drop_comm]
      omega
end K10
/-! The text by places: each def's statement, its slots (parameters first). Printed by gen_hd.py. -/
namespace K10
open PySem PySem.Spec PyProof.Rows L2
def topS (i : Nat) : Stmt := PySem.Challenge.pw_samenames_k10_first_wrong_token.main.body.getD i (.Pass ⟨0, 0, 0, 0⟩)
abbrev s_sp_init : Stmt := inClass (topS 2) 0
abbrev s_run_end : Stmt := topS 9
abbrev s_token_at : Stmt := topS 10
abbrev s_tokens_between : Stmt := topS 11
abbrev s_tokens : Stmt := topS 12
abbrev s_number_value : Stmt := topS 13
abbrev s_r_init : Stmt := inClass (topS 20) 0
abbrev s_r_place : Stmt := inClass (topS 20) 1
abbrev s_r_need : Stmt := inClass (topS 20) 2
abbrev s_r_sort_now : Stmt := inClass (topS 20) 3
abbrev s_r_fixed : Stmt := inClass (topS 20) 4
abbrev s_r_last_end : Stmt := inClass (topS 20) 5
abbrev s_r_take : Stmt := inClass (topS 20) 6
abbrev s_r_try_take : Stmt := inClass (topS 20) 7
abbrev s_r_mark : Stmt := inClass (topS 20) 8
abbrev s_r_marks : Stmt := inClass (topS 20) 9
abbrev s_r_finish : Stmt := inClass (topS 20) 10
abbrev s_r_field : Stmt := inClass (topS 20) 11
abbrev s_r_fields : Stmt := inClass (topS 20) 12
abbrev s_r_bound : Stmt := inClass (topS 20) 13
abbrev s_r_begin : Stmt := inClass (topS 20) 14
abbrev s_r_value : Stmt := inClass (topS 20) 15
abbrev s_r_let_value : Stmt := inClass (topS 20) 16
abbrev s_r_if_value : Stmt := inClass (topS 20) 17
abbrev s_r_loop_value : Stmt := inClass (topS 20) 18
abbrev s_r_either : Stmt := inClass (topS 20) 19
abbrev s_r_negated : Stmt := inClass (topS 20) 20
abbrev s_r_compared : Stmt := inClass (topS 20) 21
abbrev s_r_chain : Stmt := inClass (topS 20) 22
abbrev s_r_signed : Stmt := inClass (topS 20) 23
abbrev s_r_reached : Stmt := inClass (topS 20) 24
abbrev s_r_simple : Stmt := inClass (topS 20) 25
abbrev s_r_arguments : Stmt := inClass (topS 20) 26
abbrev s_read_import : Stmt := topS 22
abbrev s_read_data : Stmt := topS 23
abbrev s_read_trait : Stmt := topS 24
abbrev s_read_impl : Stmt := topS 25
abbrev s_read_bounds : Stmt := topS 26
abbrev s_read_def : Stmt := topS 27
abbrev s_read_item : Stmt := topS 29
abbrev s_g_tape : Stmt := topS 31
abbrev s_g_take : Stmt := topS 32
abbrev s_g_is_integer : Stmt := topS 33
abbrev s_g_same_items : Stmt := topS 34
abbrev s_g_same : Stmt := topS 35
abbrev s_g_put : Stmt := topS 36
abbrev s_g_gap : Stmt := topS 37
abbrev s_g_token_out : Stmt := topS 38
abbrev s_g_some_name : Stmt := topS 39
abbrev s_g_tree : Stmt := topS 40
abbrev s_g_leaf : Stmt := topS 41
abbrev s_g_call : Stmt := topS 42
abbrev s_g_reach : Stmt := topS 43
abbrev s_g_prefix : Stmt := topS 44
abbrev s_g_binary : Stmt := topS 45
abbrev s_g_wide : Stmt := topS 46
abbrev s_g_mark : Stmt := topS 47
abbrev s_g_list : Stmt := topS 48
abbrev s_g_brackets : Stmt := topS 49
abbrev s_g_def : Stmt := topS 50
abbrev s_g_item : Stmt := topS 51
abbrev s_g_is_letter : Stmt := topS 52
abbrev s_g_is_digit : Stmt := topS 53
abbrev s_g_run : Stmt := topS 54
abbrev s_g_token : Stmt := topS 55
abbrev s_g_tokens : Stmt := topS 56
abbrev s_g_read : Stmt := topS 57
abbrev s_g_spoilt : Stmt := topS 58
abbrev s_law : Stmt := topS 59
theorem c_sp_init : FnScope ["self", "start", "end"] ["self", "start", "end"] (defScope s_sp_init) := ⟨rfl, rfl, rfl, by decide +kernel, rfl, by decide +kernel, by decide +kernel⟩
theorem c_run_end : FnScope ["text", "start", "allowed", "end"] ["text", "start", "allowed"] (defScope s_run_end) := ⟨rfl, rfl, rfl, by decide +kernel, rfl, by decide +kernel, by decide +kernel⟩
theorem c_token_at : FnScope ["text", "start", "char", "end"] ["text", "start"] (defScope s_token_at) := ⟨rfl, rfl, rfl, by decide +kernel, rfl, by decide +kernel, by decide +kernel⟩
theorem c_tokens_between : FnScope ["text", "start", "end", "result", "at", "line_end", "token"] ["text", "start", "end"] (defScope s_tokens_between) := ⟨rfl, rfl, rfl, by decide +kernel, rfl, by decide +kernel, by decide +kernel⟩
theorem c_tokens : FnScope ["text"] ["text"] (defScope s_tokens) := ⟨rfl, rfl, rfl, by decide +kernel, rfl, by decide +kernel, by decide +kernel⟩
theorem c_number_value : FnScope ["digits", "value", "digit"] ["digits"] (defScope s_number_value) := ⟨rfl, rfl, rfl, by decide +kernel, rfl, by decide +kernel, by decide +kernel⟩
theorem c_r_init : FnScope ["self", "text"] ["self", "text"] (defScope s_r_init) := ⟨rfl, rfl, rfl, by decide +kernel, rfl, by decide +kernel, by decide +kernel⟩
theorem c_r_place : FnScope ["self"] ["self"] (defScope s_r_place) := ⟨rfl, rfl, rfl, by decide +kernel, rfl, by decide +kernel, by decide +kernel⟩
theorem c_r_need : FnScope ["self", "condition", "start", "end"] ["self", "condition"] (defScope s_r_need) := ⟨rfl, rfl, rfl, by decide +kernel, rfl, by decide +kernel, by decide +kernel⟩
theorem c_r_sort_now : FnScope ["self"] ["self"] (defScope s_r_sort_now) := ⟨rfl, rfl, rfl, by decide +kernel, rfl, by decide +kernel, by decide +kernel⟩
theorem c_r_fixed : FnScope ["self", "start", "end"] ["self"] (defScope s_r_fixed) := ⟨rfl, rfl, rfl, by decide +kernel, rfl, by decide +kernel, by decide +kernel⟩
theorem c_r_last_end : FnScope ["self"] ["self"] (defScope s_r_last_end) := ⟨rfl, rfl, rfl, by decide +kernel, rfl, by decide +kernel, by decide +kernel⟩
theorem c_r_take : FnScope ["self", "expected"] ["self", "expected"] (defScope s_r_take) := ⟨rfl, rfl, rfl, by decide +kernel, rfl, by decide +kernel, by decide +kernel⟩
theorem c_r_try_take : FnScope ["self", "expected"] ["self", "expected"] (defScope s_r_try_take) := ⟨rfl, rfl, rfl, by decide +kernel, rfl, by decide +kernel, by decide +kernel⟩
theorem c_r_mark : FnScope ["self", "start", "end"] ["self"] (defScope s_r_mark) := ⟨rfl, rfl, rfl, by decide +kernel, rfl, by decide +kernel, by decide +kernel⟩
theorem c_r_marks : FnScope ["self", "result"] ["self"] (defScope s_r_marks) := ⟨rfl, rfl, rfl, by decide +kernel, rfl, by decide +kernel, by decide +kernel⟩
theorem c_r_finish : FnScope ["self"] ["self"] (defScope s_r_finish) := ⟨rfl, rfl, rfl, by decide +kernel, rfl, by decide +kernel, by decide +kernel⟩
theorem c_r_field : FnScope ["self", "mark"] ["self"] (defScope s_r_field) := ⟨rfl, rfl, rfl, by decide +kernel, rfl, by decide +kernel, by decide +kernel⟩
theorem c_r_fields : FnScope ["self", "result"] ["self"] (defScope s_r_fields) := ⟨rfl, rfl, rfl, by decide +kernel, rfl, by decide +kernel, by decide +kernel⟩
theorem c_r_bound : FnScope ["self", "mark"] ["self"] (defScope s_r_bound) := ⟨rfl, rfl, rfl, by decide +kernel, rfl, by decide +kernel, by decide +kernel⟩
theorem c_r_begin : FnScope ["self"] ["self"] (defScope s_r_begin) := ⟨rfl, rfl, rfl, by decide +kernel, rfl, by decide +kernel, by decide +kernel⟩
theorem c_r_value : FnScope ["self", "start", "tree"] ["self"] (defScope s_r_value) := ⟨rfl, rfl, rfl, by decide +kernel, rfl, by decide +kernel, by decide +kernel⟩
theorem c_r_let_value : FnScope ["self", "start", "name", "name_start", "first", "body"] ["self", "start"] (defScope s_r_let_value) := ⟨rfl, rfl, rfl, by decide +kernel, rfl, by decide +kernel, by decide +kernel⟩
theorem c_r_if_value : FnScope ["self", "start", "test", "yes", "no"] ["self", "start"] (defScope s_r_if_value) := ⟨rfl, rfl, rfl, by decide +kernel, rfl, by decide +kernel, by decide +kernel⟩
theorem c_r_loop_value : FnScope ["self", "start", "name", "name_start", "first", "count", "step"] ["self", "start"] (defScope s_r_loop_value) := ⟨rfl, rfl, rfl, by decide +kernel, rfl, by decide +kernel, by decide +kernel⟩
theorem c_r_either : FnScope ["self", "level", "left", "sign", "right"] ["self", "level"] (defScope s_r_either) := ⟨rfl, rfl, rfl, by decide +kernel, rfl, by decide +kernel, by decide +kernel⟩
theorem c_r_negated : FnScope ["self", "start", "inner"] ["self"] (defScope s_r_negated) := ⟨rfl, rfl, rfl, by decide +kernel, rfl, by decide +kernel, by decide +kernel⟩
theorem c_r_compared : FnScope ["self", "left", "sign", "right"] ["self"] (defScope s_r_compared) := ⟨rfl, rfl, rfl, by decide +kernel, rfl, by decide +kernel, by decide +kernel⟩
theorem c_r_chain : FnScope ["self", "signs", "left", "sign", "right"] ["self", "signs"] (defScope s_r_chain) := ⟨rfl, rfl, rfl, by decide +kernel, rfl, by decide +kernel, by decide +kernel⟩
theorem c_r_signed : FnScope ["self", "start", "inner"] ["self"] (defScope s_r_signed) := ⟨rfl, rfl, rfl, by decide +kernel, rfl, by decide +kernel, by decide +kernel⟩
theorem c_r_reached : FnScope ["self", "tree", "name", "_"] ["self"] (defScope s_r_reached) := ⟨rfl, rfl, rfl, by decide +kernel, rfl, by decide +kernel, by decide +kernel⟩
theorem c_r_simple : FnScope ["self", "start", "end", "inner", "name", "_", "found"] ["self"] (defScope s_r_simple) := ⟨rfl, rfl, rfl, by decide +kernel, rfl, by decide +kernel, by decide +kernel⟩
theorem c_r_arguments : FnScope ["self", "found"] ["self"] (defScope s_r_arguments) := ⟨rfl, rfl, rfl, by decide +kernel, rfl, by decide +kernel, by decide +kernel⟩
theorem c_read_import : FnScope ["reader", "module"] ["reader"] (defScope s_read_import) := ⟨rfl, rfl, rfl, by decide +kernel, rfl, by decide +kernel, by decide +kernel⟩
theorem c_read_data : FnScope ["reader", "mark"] ["reader"] (defScope s_read_data) := ⟨rfl, rfl, rfl, by decide +kernel, rfl, by decide +kernel, by decide +kernel⟩
theorem c_read_trait : FnScope ["reader", "mark", "method", "first", "fields", "found"] ["reader"] (defScope s_read_trait) := ⟨rfl, rfl, rfl, by decide +kernel, rfl, by decide +kernel, by decide +kernel⟩
theorem c_read_impl : FnScope ["reader", "trait", "target"] ["reader"] (defScope s_read_impl) := ⟨rfl, rfl, rfl, by decide +kernel, rfl, by decide +kernel, by decide +kernel⟩
theorem c_read_bounds : FnScope ["reader", "found"] ["reader"] (defScope s_read_bounds) := ⟨rfl, rfl, rfl, by decide +kernel, rfl, by decide +kernel, by decide +kernel⟩
theorem c_read_def : FnScope ["reader", "mark", "bounds", "fields", "result"] ["reader"] (defScope s_read_def) := ⟨rfl, rfl, rfl, by decide +kernel, rfl, by decide +kernel, by decide +kernel⟩
theorem c_read_item : FnScope ["text", "reader", "word", "read", "item"] ["text"] (defScope s_read_item) := ⟨rfl, rfl, rfl, by decide +kernel, rfl, by decide +kernel, by decide +kernel⟩
theorem c_g_tape : FnScope ["_law_script", "_law_cells", "_law_cell", "_law_seed"] ["_law_script"] (defScope s_g_tape) := ⟨rfl, rfl, rfl, by decide +kernel, rfl, by decide +kernel, by decide +kernel⟩
theorem c_g_take : FnScope ["_law_tape_here", "_law_many", "_law_drawn", "_law_mixed"] ["_law_tape_here", "_law_many"] (defScope s_g_take) := ⟨rfl, rfl, rfl, by decide +kernel, rfl, by decide +kernel, by decide +kernel⟩
theorem c_g_is_integer : FnScope ["_law_actual"] ["_law_actual"] (defScope s_g_is_integer) := ⟨rfl, rfl, rfl, by decide +kernel, rfl, by decide +kernel, by decide +kernel⟩
theorem c_g_same_items : FnScope ["_law_actual", "_law_expected", "_law_k"] ["_law_actual", "_law_expected"] (defScope s_g_same_items) := ⟨rfl, rfl, rfl, by decide +kernel, rfl, by decide +kernel, by decide +kernel⟩
theorem c_g_same : FnScope ["_law_actual", "_law_expected", "_law_key"] ["_law_actual", "_law_expected"] (defScope s_g_same) := ⟨rfl, rfl, rfl, by decide +kernel, rfl, by decide +kernel, by decide +kernel⟩
theorem c_g_put : FnScope ["_law_out", "_law_string"] ["_law_out", "_law_string"] (defScope s_g_put) := ⟨rfl, rfl, rfl, by decide +kernel, rfl, by decide +kernel, by decide +kernel⟩
theorem c_g_gap : FnScope ["_law_tape_here", "_law_out", "_law_needed", "_law_gaps", "_law_gap_here"] ["_law_tape_here", "_law_out", "_law_needed"] (defScope s_g_gap) := ⟨rfl, rfl, rfl, by decide +kernel, rfl, by decide +kernel, by decide +kernel⟩
theorem c_g_token_out : FnScope ["_law_tape_here", "_law_out", "_law_string", "_law_last", "_law_joins", "_law_letters", "_law_start"] ["_law_tape_here", "_law_out", "_law_string"] (defScope s_g_token_out) := ⟨rfl, rfl, rfl, by decide +kernel, rfl, by decide +kernel, by decide +kernel⟩
theorem c_g_some_name : FnScope ["_law_tape_here", "_law_names"] ["_law_tape_here"] (defScope s_g_some_name) := ⟨rfl, rfl, rfl, by decide +kernel, rfl, by decide +kernel, by decide +kernel⟩
theorem c_g_tree : FnScope ["_law_tape_here", "_law_out", "_law_depth", "_law_level", "_law_choice", "_law_name", "_law_start", "_law_inner", "_law_end"] ["_law_tape_here", "_law_out", "_law_depth", "_law_level"] (defScope s_g_tree) := ⟨rfl, rfl, rfl, by decide +kernel, rfl, by decide +kernel, by decide +kernel⟩
theorem c_g_leaf : FnScope ["_law_tape_here", "_law_out", "_law_choice", "_law_digits", "_law_start", "_law_word"] ["_law_tape_here", "_law_out", "_law_choice"] (defScope s_g_leaf) := ⟨rfl, rfl, rfl, by decide +kernel, rfl, by decide +kernel, by decide +kernel⟩
theorem c_g_call : FnScope ["_law_tape_here", "_law_out", "_law_depth", "_law_name", "_law_start", "_law_found", "_law_k", "_law_end"] ["_law_tape_here", "_law_out", "_law_depth"] (defScope s_g_call) := ⟨rfl, rfl, rfl, by decide +kernel, rfl, by decide +kernel, by decide +kernel⟩
theorem c_g_reach : FnScope ["_law_tape_here", "_law_out", "_law_depth", "_law_tree_here", "_law_k", "_law_name", "_law_end"] ["_law_tape_here", "_law_out", "_law_depth"] (defScope s_g_reach) := ⟨rfl, rfl, rfl, by decide +kernel, rfl, by decide +kernel, by decide +kernel⟩
theorem c_g_prefix : FnScope ["_law_tape_here", "_law_out", "_law_depth", "_law_word", "_law_sign", "_law_level", "_law_start", "_law_inner"] ["_law_tape_here", "_law_out", "_law_depth", "_law_word", "_law_sign", "_law_level"] (defScope s_g_prefix) := ⟨rfl, rfl, rfl, by decide +kernel, rfl, by decide +kernel, by decide +kernel⟩
theorem c_g_binary : FnScope ["_law_tape_here", "_law_out", "_law_depth", "_law_level", "_law_choice", "_law_signs", "_law_left", "_law_k", "_law_sign", "_law_right"] ["_law_tape_here", "_law_out", "_law_depth", "_law_level"] (defScope s_g_binary) := ⟨rfl, rfl, rfl, by decide +kernel, rfl, by decide +kernel, by decide +kernel⟩
theorem c_g_wide : FnScope ["_law_tape_here", "_law_out", "_law_depth", "_law_choice", "_law_start", "_law_test", "_law_yes", "_law_no", "_law_word", "_law_name", "_law_name_start", "_law_first", "_law_count", "_law_step", "_law_body"] ["_law_tape_here", "_law_out", "_law_depth", "_law_choice"] (defScope s_g_wide) := ⟨rfl, rfl, rfl, by decide +kernel, rfl, by decide +kernel, by decide +kernel⟩
theorem c_g_mark : FnScope ["_law_tape_here", "_law_out", "_law_name"] ["_law_tape_here", "_law_out"] (defScope s_g_mark) := ⟨rfl, rfl, rfl, by decide +kernel, rfl, by decide +kernel, by decide +kernel⟩
theorem c_g_list : FnScope ["_law_tape_here", "_law_out", "_law_many", "_law_colon", "_law_found", "_law_k", "_law_mark_here", "_law_other"] ["_law_tape_here", "_law_out", "_law_many", "_law_colon"] (defScope s_g_list) := ⟨rfl, rfl, rfl, by decide +kernel, rfl, by decide +kernel, by decide +kernel⟩
theorem c_g_brackets : FnScope ["_law_tape_here", "_law_out", "_law_first", "_law_result", "_law_mark_here", "_law_many"] ["_law_tape_here", "_law_out", "_law_first"] (defScope s_g_brackets) := ⟨rfl, rfl, rfl, by decide +kernel, rfl, by decide +kernel, by decide +kernel⟩
theorem c_g_def : FnScope ["_law_tape_here", "_law_out", "_law_mark_here", "_law_bounds", "_law_fields", "_law_result"] ["_law_tape_here", "_law_out"] (defScope s_g_def) := ⟨rfl, rfl, rfl, by decide +kernel, rfl, by decide +kernel, by decide +kernel⟩
theorem c_g_item : FnScope ["_law_tape_here", "_law_out", "_law_word", "_law_first", "_law_target", "_law_method", "_law_mark_here", "_law_fields"] ["_law_tape_here", "_law_out"] (defScope s_g_item) := ⟨rfl, rfl, rfl, by decide +kernel, rfl, by decide +kernel, by decide +kernel⟩
theorem c_g_is_letter : FnScope ["_law_char"] ["_law_char"] (defScope s_g_is_letter) := ⟨rfl, rfl, rfl, by decide +kernel, rfl, by decide +kernel, by decide +kernel⟩
theorem c_g_is_digit : FnScope ["_law_char"] ["_law_char"] (defScope s_g_is_digit) := ⟨rfl, rfl, rfl, by decide +kernel, rfl, by decide +kernel, by decide +kernel⟩
theorem c_g_run : FnScope ["_law_text", "_law_at", "_law_end", "_law_char"] ["_law_text", "_law_at"] (defScope s_g_run) := ⟨rfl, rfl, rfl, by decide +kernel, rfl, by decide +kernel, by decide +kernel⟩
theorem c_g_token : FnScope ["_law_text", "_law_at", "_law_words", "_law_char", "_law_end"] ["_law_text", "_law_at"] (defScope s_g_token) := ⟨rfl, rfl, rfl, by decide +kernel, rfl, by decide +kernel, by decide +kernel⟩
theorem c_g_tokens : FnScope ["_law_text", "_law_result", "_law_behind", "_law_comment", "_law_at", "_law_char"] ["_law_text"] (defScope s_g_tokens) := ⟨rfl, rfl, rfl, by decide +kernel, rfl, by decide +kernel, by decide +kernel⟩
theorem c_g_read : FnScope ["_law_text", "e"] ["_law_text"] (defScope s_g_read) := ⟨rfl, rfl, rfl, by decide +kernel, rfl, by decide +kernel, by decide +kernel⟩
theorem c_g_spoilt : FnScope ["_law_tape_here", "_law_text", "_law_found", "_law_at", "_law_sort", "_law_start", "_law_end", "_law_words", "_law_word", "_law_choice"] ["_law_tape_here", "_law_text"] (defScope s_g_spoilt) := ⟨rfl, rfl, rfl, by decide +kernel, rfl, by decide +kernel, by decide +kernel⟩
theorem c_law : FnScope ["_law_script", "_law_tape_here", "_law_out", "_law_text", "_law_found", "_law_place", "_law_places", "_law_sort", "_law_start", "_law_end", "_law_number", "_law_before"] ["_law_script"] (defScope s_law) := ⟨rfl, rfl, rfl, by decide +kernel, rfl, by decide +kernel, by decide +kernel⟩
end K10
/-! Callables by name, methods by name; room that is counted call by call (a deep recursion wants it). -/
namespace K10
open PySem PySem.Spec PyProof.Rows L2
/-- the def that the module's name x holds keeps sp -/
structure Cl (P : Program) (w : World) (K : PySem.W.Frag) (mg : Str → Option Value) (base : Heap) (CX : CXT) (k : Nat) (x : Str) (ps : List Str) (sp : Sp) : Prop where
  ex : ∃ (f : Addr) (fd : FuncData), FnOk P w K mg base CX k f fd ps sp ∧ mg x = some (.ref f) ∧ PySem.W.keepIn K (.ref f) = true ∧ Binds K fd ps []
/-- the method m of the class at C keeps sp -/
structure Mt (P : Program) (w : World) (K : PySem.W.Frag) (mg : Str → Option Value) (base : Heap) (CX : CXT) (C : Addr) (k : Nat) (m : Str) (ps : List Str) (sp : Sp) : Prop where
  ex : ∃ (f : Addr) (fd : FuncData), FnOk P w K mg base CX k f fd ps sp ∧ Cls K C ∧ Meth K C m f ∧ Binds K fd ps []
section
variable {X : Cx} {CX : CXT} {k j : Nat} {C : Addr} {ps : List Str} {sp : Sp} {E : XK} {x m : Str} {p pos apos : Pos} {e o : Expr} {es : List Expr} {ta : TE} {t : TA}
theorem pe_f (c : Cl X.prog X.w X.K X.mg X.base CX k x ps sp) (hr : Room j X.A) (hk : k ≤ j) (hx : Passes CX X E) (ha : PA X (e :: es) t) (hg : Gl X x := by rfl) (hdb : (x == ("__debug__" : Str)) = false := by decide)
    (he : starEach (e :: es) X.env = (false, eval e X.env) :: starEach es X.env := by rfl) (hpl : (backTo pos (starEach es X.env)).any (·.1) = false := by rfl) : PE X (.Call (.Name x p) (e :: es) [] pos) (tCall sp [] E t) := by
  obtain ⟨f, fd, F, hm, kp, b⟩ := c.ex
  exact pe_call F (hr.mono hk) hg hm kp b .nil hx ha hdb he hpl
theorem pe_m {pl : Sem Bool} (c : Mt X.prog X.w X.K X.mg X.base CX C k m ps sp) (hr : Room j X.A) (hk : k ≤ j) (hx : Passes CX X E) (he : PE X o ta) (ha : PA X (e :: es) t) (hst : starEach (e :: es) X.env = (false, eval e X.env) :: starEach es X.env := by rfl)
    (hpl : (backTo pos (starEach es X.env)).any (·.1) = false := by rfl) (ht : eval (.Call (.Attribute o m apos) (e :: es) [] pos) X.env = (do
      let v ← eval o X.env; standAt apos.atName; let (f, first) ← holding [v] (getMethod v m pl); callWith pos f first (backTo pos (starEach (e :: es) X.env)) (backToKw pos (keywordEach [] X.env))) := by rfl) :
    PE X (.Call (.Attribute o m apos) (e :: es) [] pos) (tMeth C m sp [] E ta t) := by
  obtain ⟨f, fd, F, hc, hm, b⟩ := c.ex
  exact pe_meth (pl := pl) he hc hm F (hr.mono hk) b .nil hx ha hst hpl ht
theorem pe_m0 {pl : Sem Bool} (c : Mt X.prog X.w X.K X.mg X.base CX C k m ps sp) (hr : Room j X.A) (hk : k ≤ j) (hx : Passes CX X E) (he : PE X o ta) (ht : eval (.Call (.Attribute o m apos) [] [] pos) X.env = (do
      let v ← eval o X.env; standAt apos.atName; let (f, first) ← holding [v] (getMethod v m pl); callWith pos f first (backTo pos (starEach [] X.env)) (backToKw pos (keywordEach [] X.env))) := by rfl) :
    PE X (.Call (.Attribute o m apos) [] [] pos) (tMeth C m sp [] E ta tNil) := by
  obtain ⟨f, fd, F, hc, hm, b⟩ := c.ex
  exact pe_meth0 (pl := pl) he hc hm F (hr.mono hk) b .nil hx ht
end
/-- a constant of the module -/
theorem pe_k {X : Cx} {x : Str} {v : V} {pos : Pos} (h : ∃ u, X.mg x = some u ∧ RelV v u) (hg : Gl X x := by rfl) (hd : (x == ("__debug__" : Str)) = false := by decide) : PE X (.Name x pos) (tC v) := by
  obtain ⟨u, hm, r⟩ := h
  exact pe_glob hg hm r hd
/-- what a body that may raise hands on -/
theorem passE {P : Program} {w : World} {K : PySem.W.Frag} {mg : Str → Option Value} {base : Heap} {N : List Str} {qual : Str} {scope : Scope} {f : Addr} {cd : Value} {A : Around} {outer : List Env} {s : Shared} {H : Hp} {E : XK} :
    Passes (L2.CX P w) (cxOf (L2.CX P w) P w K mg base N qual scope f cd A outer s H E) E := passes_call (W := fun cls d _ H => E cls d H) (takes_of rfl rfl rfl rfl) fun _ _ _ _ h => h
/-! ### room, call by call -/
structure RoomD (d : Nat) (A : Around) : Prop where
  no : A.handled = none
  deep : A.depth + d + 45 < recursionLimit
  cun : A.units + 4 * d + 400 < cLine
theorem RoomD.down {d : Nat} {A : Around} (r : RoomD (d + 1) A) (env : Env) : RoomD d (A.deeper env) :=
  ⟨r.no, by have := r.deep; show A.depth + 1 + d + 45 < _; omega, by have := r.cun; show A.units + 3 + 4 * d + 400 < _; omega⟩
theorem RoomD.room {d : Nat} {A : Around} (r : RoomD d A) : Room 10 A := ⟨r.no, by have := r.deep; omega, by have := r.cun; omega⟩
theorem RoomD.less {d d' : Nat} {A : Around} (r : RoomD d A) (h : d' ≤ d) : RoomD d' A := ⟨r.no, by have := r.deep; omega, by have := r.cun; omega⟩
theorem roomD_of {k d : Nat} {A : Around} (r : Room k A) (h : d + 40 ≤ 3 * k) (h2 : 4 * d + 200 ≤ 16 * k) : RoomD d A := ⟨r.hd, by have := r.dp; omega, by have := r.un; omega⟩
/-- a def's promise under such room -/
structure Fn3 (P : Program) (w : World) (K : PySem.W.Frag) (mg : Str → Option Value) (base : Heap) (CX : CXT) (d : Nat) (f : Addr) (fd : FuncData) (ps : List Str) (sp : Sp) : Prop where
  many : ∀ vs H Q E, sp vs H Q E → vs.length = ps.length
  goes : ∀ (A : Around) (outer : List Env) (s : Shared) (H : Hp) (args : Args) (us : List Value) (vs : List V) (Q : VK) (E : XK), RoomD d A → Env0 P w K mg base A outer s H → BindsTo s fd args (ps.zip us) → Vals vs us →
    sp vs H Q E → codeAny (model P w) A (.call (.ref f) args) (CR CX outer P w H s Q E) s
theorem Fn3.fnOk {P : Program} {w : World} {K : PySem.W.Frag} {mg : Str → Option Value} {base : Heap} {CX : CXT} {d k : Nat} {f : Addr} {fd : FuncData} {ps : List Str} {sp : Sp} (F : Fn3 P w K mg base CX d f fd ps sp) (h : d + 40 ≤ 3 * k) (h2 : 4 * d + 200 ≤ 16 * k) :
    FnOk P w K mg base CX k f fd ps sp := ⟨F.many, fun A outer s H args us vs Q E r e b v q => F.goes A outer s H args us vs Q E (roomD_of r h h2) e b v q⟩
structure Mt3 (P : Program) (w : World) (K : PySem.W.Frag) (mg : Str → Option Value) (base : Heap) (CX : CXT) (C : Addr) (d : Nat) (m : Str) (ps : List Str) (sp : Sp) : Prop where
  ex : ∃ (f : Addr) (fd : FuncData), Fn3 P w K mg base CX d f fd ps sp ∧ Cls K C ∧ Meth K C m f ∧ Binds K fd ps []
theorem Mt3.mt {P : Program} {w : World} {K : PySem.W.Frag} {mg : Str → Option Value} {base : Heap} {CX : CXT} {C : Addr} {d k : Nat} {m : Str} {ps : List Str} {sp : Sp} (c : Mt3 P w K mg base CX C d m ps sp) (h : d + 40 ≤ 3 * k) (h2 : 4 * d + 200 ≤ 16 * k) : Mt P w K mg base CX C k m ps sp := by
  obtain ⟨f, fd, F, hc, hm, b⟩ := c.ex
  exact ⟨f, fd, F.fnOk h h2, hc, hm, b⟩
section
variable {X : Cx} {CX : CXT} {d : Nat} {f C : Addr} {fd : FuncData} {ps : List Str} {sp : Sp} {E : XK} {m : Str} {pos apos : Pos} {e o : Expr} {es : List Expr} {ta : TE} {t : TA}
theorem run3 {pins : List (Addr × Obj)} {σ : L2.St} {H : Hp} {s : Shared} {Q : VK} {us : List Value} {vs : List V} (F : Fn3 X.prog X.w X.K X.mg X.base CX d f fd ps sp) (hr : RoomD d X.A) (b : Binds X.K fd ps []) (hx : Passes CX X E)
    (J : Inv X pins σ H s) (r : Vals vs us) (h : sp vs H Q E) : wpAny (model X.prog X.w) X.A (call (.ref f) us) (EP X pins σ Q) X.xe s := by
  have hl : (us ++ []).length = ps.length := by rw [List.append_nil, ← Paired.length r]; exact F.many _ _ _ _ h
  have bt := b s us J.kIn hl
  rw [List.append_nil] at bt
  refine wpAny_call (codeAny_mono (F.goes X.A X.stack s H ⟨us, []⟩ us vs Q E hr J.env0 bt r h) fun z s2 hz => ?_)
  match z, hz with
  | .error u, hz => exact hx pins σ H s u s2 J hz
  | .ok (.ret u), hz => exact J.after hz
  | .ok .next, hz => exact hz.elim
  | .ok .brk, hz => exact hz.elim
  | .ok .cont, hz => exact hz.elim
theorem pe_m3 {pl : Sem Bool} (c : Mt3 X.prog X.w X.K X.mg X.base CX C d m ps sp) (hr : RoomD d X.A) (hx : Passes CX X E) (he : PE X o ta) (ha : PA X (e :: es) t) (hst : starEach (e :: es) X.env = (false, eval e X.env) :: starEach es X.env := by rfl)
    (hpl : (backTo pos (starEach es X.env)).any (·.1) = false := by rfl) (ht : eval (.Call (.Attribute o m apos) (e :: es) [] pos) X.env = (do
      let v ← eval o X.env; standAt apos.atName; let (f, first) ← holding [v] (getMethod v m pl); callWith pos f first (backTo pos (starEach (e :: es) X.env)) (backToKw pos (keywordEach [] X.env))) := by rfl) :
    PE X (.Call (.Attribute o m apos) (e :: es) [] pos) (tMeth C m sp [] E ta t) := by
  obtain ⟨f, fd, F, hc, hm, b⟩ := c.ex
  refine ⟨fun pins s σ H Q J h => PySem.W.methodCall_KW (pl := pl) (thn (he.run pins s σ H _ J h) fun u s1 hh => ?_) ht⟩
  obtain ⟨y, H1, J1, ry, a, dx, fs, ey, ea, l, q⟩ := hh
  subst ey
  cases (show u = Value.ref a from ry)
  refine getmeth_ok J1 ea hc hm l (PySem.W.callWith_K (first := [.ref a]) (h₀ := X.base) J1.ok.mod.kin hm.kp (thn (ha.run pos pins s1 σ H1 _ J1 q) fun us s2 hh => ?_) hst hpl)
  obtain ⟨vs, H2, J2, r, q2⟩ := hh
  refine ⟨J2.kIn, run3 (us := .ref a :: us) (vs := .ref a :: vs) F hr b hx J2 (.cons rfl r) ?_⟩
  rw [List.append_nil] at q2
  exact q2
theorem pe_m30 {pl : Sem Bool} (c : Mt3 X.prog X.w X.K X.mg X.base CX C d m ps sp) (hr : RoomD d X.A) (hx : Passes CX X E) (he : PE X o ta) (ht : eval (.Call (.Attribute o m apos) [] [] pos) X.env = (do
      let v ← eval o X.env; standAt apos.atName; let (f, first) ← holding [v] (getMethod v m pl); callWith pos f first (backTo pos (starEach [] X.env)) (backToKw pos (keywordEach [] X.env))) := by rfl) :
    PE X (.Call (.Attribute o m apos) [] [] pos) (tMeth C m sp [] E ta tNil) := by
  obtain ⟨f, fd, F, hc, hm, b⟩ := c.ex
  refine ⟨fun pins s σ H Q J h => PySem.W.methodCall_KW (pl := pl) (thn (he.run pins s σ H _ J h) fun u s1 hh => ?_) ht⟩
  obtain ⟨y, H1, J1, ry, a, dx, fs, ey, ea, l, q⟩ := hh
  subst ey
  cases (show u = Value.ref a from ry)
  exact getmeth_ok J1 ea hc hm l (PySem.W.callWith_K0 (first := [.ref a]) J1.kIn hm.kp (run3 (us := [.ref a]) (vs := [.ref a]) F hr b hx J1 (.cons rfl .nil) q))
end
/-- a def under such room, by its body -/
theorem fn3_of {CX : CXT} {P : Program} {w : World} {K : PySem.W.Frag} {mg : Str → Option Value} {base : Heap} {d : Nat} {f : Addr} {x qual : Str} {params : Arguments} {body : List Stmt} {scope : Scope} {fd : FuncData} {N ps : List Str} {sp : Sp}
    (F : FunD K x qual params body scope [] [] f fd) (S : FnScope N ps scope) (many : ∀ vs H Q E, sp vs H Q E → vs.length = ps.length)
    (hbody : ∀ (cdv : Value) (A : Around) (outer : List Env) (s : Shared) (H : Hp) (vs : List V) (Q : VK) (E : XK), RoomD d (A.deeper (envOfC qual scope s.heap.objs.size f cdv)) → sp vs H Q E →
      ∃ t, PSs (cxOf CX P w K mg base N qual scope f cdv A outer s H E) body t ∧ t { nx := fun _ H' => Q .non H', rt := Q } (start N vs) H) : Fn3 P w K mg base CX (d + 1) f fd ps sp := by
  obtain ⟨oc, od, dV, kV, doc, pm, an, cdv, ct, osl, rfl, look, code, _, _⟩ := F.ex
  refine ⟨many, fun A outer s H args us vs Q E hr e b r q => ?_⟩
  have inK : K.In s.heap := e.mod.kin.keeps fun z o y => (e.bs z o y).1
  have far : s.heap.NoLimit := e.mod.nolimit.keeps fun z o y => (e.bs z o y).1
  have kinds : ∀ z ∈ ps.zip us, scope.names.lookup z.1 = some .local ∨ (scope.names.lookup z.1 = some .cell ∧ ((cellsFrom (s.heap.objs.size + 1) scope.names []).lookup z.1).isSome = true) := by
    intro z hz
    cases S.par z.1 (List.of_mem_zip (a := z.1) (b := z.2) hz).1 with
    | inl y => exact .inl y
    | inr y => exact .inr ⟨y, PySem.W.cellsFrom_some _ _ _ (.inl y)⟩
  have room : A.depth < recursionLimit := by have := hr.deep; omega
  refine codeAny_call_function room (inK _ _ look) rfl S.co S.gen rfl (PySem.W.codeRec_of inK code) (b _ _ _ _ (wpAny_newFunctionEnv_cells S.kind kinds fun env he s1 y => ?_))
  subst he
  obtain ⟨t, ht, ht2⟩ := hbody cdv A outer s H vs Q E (hr.down _) q
  have J := inv_start (CX := CX) (N := N) (E := E) (cd := cdv) (f := f) (qual := qual) S hr.no e (many _ _ _ _ q) r y
  refine ⟨far.keeps y.toInCall.keep, codeAny_func (wpAny_mono (ht.run [] s1 _ H _ J ht2) (fun fl s2 hs => ?_) fun _ _ z => z)⟩
  have fin : ∀ {σ2 : L2.St} {H2 : Hp} {v : V} {u : Value}, Inv (cxOf CX P w K mg base N qual scope f cdv A outer s H E) [] σ2 H2 s2 → RelV v u → Q v H2 → CE outer P w H s Q u s2 :=
    fun {σ2 H2 v u} I rv z => ⟨v, H2, I.os, I.bare, I.base, I.hok, rv, z⟩
  match fl, hs with
  | .ret u, ⟨v, _, H2, I, rv, z⟩ => exact fin I rv z
  | .next, ⟨_, H2, I, z⟩ => exact fin (v := V.non) (u := Value.none) I rfl z
  | .brk, ⟨_, _, _, z⟩ => exact z.elim
  | .cont, ⟨_, _, _, z⟩ => exact z.elim
end K10
/-! The lexer's defs keep the mirror's promises. -/
namespace K10
open PySem PySem.Spec PyProof.Rows L2
/-! ### texts as lists of signs -/
def tx (l : List Nat) : Str := ⟨l.toArray⟩
theorem tx_cl (s : String) : tx (cl s) = Str.ofString s := by
  show (⟨(Str.ofString s).cps.toList.toArray⟩ : Str) = Str.ofString s
  rw [Array.toArray_toList]
theorem tx_of (z : Str) : tx z.cps.toList = z := by
  show (⟨z.cps.toList.toArray⟩ : Str) = z
  rw [Array.toArray_toList]
theorem tx_len (l : List Nat) : (tx l).length = l.length := rfl
theorem tx_inj {a b : List Nat} (h : tx a = tx b) : a = b := by
  have h1 : (tx a).cps.toList = (tx b).cps.toList := by rw [h]
  exact h1
theorem tx_list (l : List Nat) : (tx l).cps.toList = l := rfl
theorem line_of {n : Nat} (h : n ≤ 100000) : n ≤ sizeLine := by rw [sizeLine_eq]; omega
theorem six_nat (n d k : Nat) : HT.sIx n d (some (k : Int)) = min k n := HT.sIx_nat n d k
theorem drop_min (l : List Nat) (a : Nat) : l.drop (min a l.length) = l.drop a := by
  by_cases h : a ≤ l.length
  · rw [Nat.min_eq_left h]
  · rw [Nat.min_eq_right (by omega), List.drop_eq_nil_of_le (Nat.le_refl _), List.drop_eq_nil_of_le (by omega)]
theorem cut_tx (l : List Nat) (a b : Nat) : cutS (tx l) (some (a : Int)) (some (b : Int)) = tx ((l.drop a).take (b - a)) := by
  show (⟨((l.drop (HT.sIx l.length 0 (some (a : Int)))).take (HT.sIx l.length l.length (some (b : Int)) - HT.sIx l.length 0 (some (a : Int)))).toArray⟩ : Str) = tx ((l.drop a).take (b - a))
  rw [six_nat, six_nat, drop_min]
  have e : (l.drop a).take (min b l.length - min a l.length) = (l.drop a).take (b - a) := by
    by_cases h : b ≤ l.length
    · by_cases h2 : a ≤ l.length
      · rw [Nat.min_eq_left h, Nat.min_eq_left h2]
      · rw [List.drop_eq_nil_of_le (by omega), List.take_nil, List.take_nil]
    · by_cases h2 : a ≤ l.length
      · rw [Nat.min_eq_right (by omega), Nat.min_eq_left h2, List.take_of_length_le (by rw [List.length_drop]; omega), List.take_of_length_le (by rw [List.length_drop]; omega)]
      · rw [List.drop_eq_nil_of_le (by omega), List.take_nil, List.take_nil]
  rw [e]
  rfl
theorem cut_from (l : List Nat) (a : Nat) : cutS (tx l) (some (a : Int)) none = tx (l.drop a) := by
  show (⟨((l.drop (HT.sIx l.length 0 (some (a : Int)))).take (l.length - HT.sIx l.length 0 (some (a : Int)))).toArray⟩ : Str) = tx (l.drop a)
  rw [six_nat, drop_min, List.take_of_length_le (by rw [List.length_drop]; omega)]
  rfl
theorem cut_to (l : List Nat) (b : Nat) : cutS (tx l) none (some (b : Int)) = tx (l.take b) := by
  show (⟨((l.drop 0).take (HT.sIx l.length l.length (some (b : Int)) - 0)).toArray⟩ : Str) = tx (l.take b)
  rw [six_nat, List.drop_zero, Nat.sub_zero]
  have e : l.take (min b l.length) = l.take b := by
    by_cases h : b ≤ l.length
    · rw [Nat.min_eq_left h]
    · rw [Nat.min_eq_right (by omega), List.take_of_length_le (Nat.le_refl _), List.take_of_length_le (by omega)]
  rw [e]
  rfl
theorem dec_sg (c d : Nat) : decide (V.str ⟨#[c]⟩ = V.str ⟨#[d]⟩) = decide (c = d) := by
  by_cases h : c = d
  · rw [h, decide_eq_true rfl, decide_eq_true rfl]
  · rw [decide_eq_false h]
    refine decide_eq_false fun e => h ?_
    have e2 := V.str.inj e
    have e3 := congrArg (fun z : Str => z.cps.toList) e2
    simpa using e3
theorem dec_tx (a b : List Nat) : decide (V.str (tx a) = V.str (tx b)) = decide (a = b) := by
  by_cases h : a = b
  · rw [h, decide_eq_true rfl, decide_eq_true rfl]
  · rw [decide_eq_false h]
    exact decide_eq_false fun e => h (tx_inj (V.str.inj e))
/-- an if whose test is known -/
theorem iftt {c : Bool} {A B : Prop} (hc : c = true) (h : A) : if c = true then A else B := by
  rw [if_pos hc]
  exact h
theorem iffF {c : Bool} {A B : Prop} (hc : c = false) (h : B) : if c = true then A else B := by
  rw [hc, if_neg Bool.false_ne_true]
  exact h
theorem same_new {H H1 : Hp} {p : Addr} (s : Same H H1) (h : H1 p = none) (o : HO) : Same H (upd H1 p o) := fun b u q => by rw [upd_ne (ne_of_none (s b u q) h)]; exact s b u q
theorem same_mut {H H1 : Hp} {p : Addr} (s : Same H H1) (h : H p = none) (o : HO) : Same H (upd H1 p o) := fun b u q => by rw [upd_ne (ne_of_none q h)]; exact s b u q
/-! ### what the written part says -/
structure Tx (K : PySem.W.Frag) (mg : Str → Option Value) : Prop where
  len : mg "len" = none
  letters : ∃ u, mg "LETTERS" = some u ∧ RelV (.str (tx letterL)) u
  digits : ∃ u, mg "DIGITS" = some u ∧ RelV (.str (tx digitL)) u
  names : ∃ u, mg "NAME_CHARACTERS" = some u ∧ RelV (.str (tx nameL)) u
  signs : ∃ u, mg "SIGNS" = some u ∧ RelV (.str (tx signL)) u
  words : ∃ a, mg "WORDS" = some (.ref a) ∧ ∀ H, SqT K H a (words.map fun x => V.str (tx x))
section
variable {P : Program} {w : World} {K : PySem.W.Frag} {mg : Str → Option Value} {base : Heap}
abbrev FnP (K : PySem.W.Frag) (x : Str) (st : Stmt) (f : Addr) (fd : FuncData) : Prop := FunD K x x (defArgs st) (defBody st) (defScope st) [] [] f fd
/-- how many of the set q are passed from the place on -/
def spRunEnd : Sp := fun vs H Q _ => ∃ (l al : List Nat) (s : Nat), vs = [.str (tx l), .int (s : Int), .str (tx al)] ∧ l.length ≤ 100000 ∧ s ≤ l.length ∧ Q (.int ((s + spanN (fun c => decide (c ∈ al)) (l.drop s) : Nat) : Int)) H
theorem drop_cons {l : List Nat} {e : Nat} {c : Nat} (h : l[e]? = some c) : l.drop e = c :: l.drop (e + 1) := by
  obtain ⟨h1, h2⟩ := List.getElem?_eq_some_iff.mp h
  rw [List.drop_eq_getElem_cons h1, h2]
theorem get_some {l : List Nat} {e : Nat} (h : e < l.length) : ∃ c, l[e]? = some c := ⟨l[e], List.getElem?_eq_getElem h⟩
theorem ok_run_end (T : Tx K mg) {f : Addr} {fd : FuncData} (F : FnP K "run_end" s_run_end f fd) : FnOk P w K mg base CX0 1 f fd ["text", "start", "allowed"] spRunEnd := by
  refine F.ok c_run_end (fun vs H Q E h => ?_) (fun cdv A outer s H vs Q E hr h => ?_)
  · obtain ⟨l, al, s, rfl, _⟩ := h
    rfl
  obtain ⟨l, al, n, rfl, hl, hn, q⟩ := h
  refine ⟨_, PSs.nox (pss_cons (ps_set (i := 3) c_run_end.nd rfl (Or.inl rfl) (pv 1)) (pss_cons (ps_while PassesOwn.never
    (PW.pt (pw_and (pt_cmpR op_lt (pv 3) (pe_callB call_len_str (by rfl) T.len boot_len (pa_cons (pv 0) pa_nil)) (nomark _)) (pw_and1 (pt_cmpR op_in_sign (pe_ix ix_str (pv 0) (pv 3) (fun _ _ => rfl)) (pv 2) rfl))))
    (pss_one (ps_aug (i := 3) c_run_end.nd rfl (Or.inl rfl) pe_int ip_add))) (pss_one (ps_ret (pv 3))))), ?_⟩
  refine ⟨_, rfl, fun m σ H' => ∃ e : Nat, m = l.length - e ∧ σ = [some (.str (tx l)), some (.int n), some (.str (tx al)), some (.int (e : Int))] ∧ H' = H ∧ e ≤ l.length ∧
    e + spanN (fun c => decide (c ∈ al)) (l.drop e) = n + spanN (fun c => decide (c ∈ al)) (l.drop n), ⟨l.length - n, n, rfl, rfl, rfl, hn, rfl⟩, ?_⟩
  rintro m σ H' ⟨e, rfl, rfl, rfl, he, hs⟩
  refine ⟨_, rfl, _, rfl, _, rfl, line_of hl, _, _, rfl, rfl, _, rfl, ?_⟩
  by_cases c1 : e < l.length
  · refine iftt (decide_eq_true (show (e : Int) < ((tx l).length : Int) by rw [tx_len]; omega)) ?_
    obtain ⟨c, hc⟩ := get_some c1
    refine ⟨_, rfl, _, rfl, _, _, _, rfl, rfl, line_of hl, atI_nat (xs := (tx l).cps.toList) hc, _, rfl, c, _, rfl, rfl, _, rfl, ?_⟩
    have ec : spanN (fun c => decide (c ∈ al)) (l.drop e) = if decide (c ∈ al) = true then spanN (fun c => decide (c ∈ al)) (l.drop (e + 1)) + 1 else 0 := by rw [drop_cons hc]; rfl
    by_cases c2 : c ∈ al
    · refine iftt (decide_eq_true c2) ?_
      refine ⟨_, fun _ _ z => z, _, rfl, _, _, rfl, rfl, ?_⟩
      rw [if_pos (decide_eq_true c2)] at ec
      exact ⟨l.length - (e + 1), by omega, e + 1, rfl, rfl, rfl, c1, by omega⟩
    · refine iffF (decide_eq_false c2) ?_
      rw [if_neg (by rw [decide_eq_false c2]; decide)] at ec
      refine ⟨_, rfl, ?_⟩
      rw [ec] at hs
      rw [← hs] at q
      exact q
  · refine iffF (decide_eq_false (show ¬ (e : Int) < ((tx l).length : Int) by rw [tx_len]; omega)) ?_
    have e2 : e = l.length := by omega
    have ec : spanN (fun c => decide (c ∈ al)) (l.drop e) = 0 := by rw [List.drop_eq_nil_of_le (by omega)]; rfl
    rw [ec] at hs
    rw [← hs] at q
    exact ⟨_, rfl, q⟩
/-! ### a token -/
def tkV (t : Tk) : HO := .tup [.str (Str.ofString t.1), .int (t.2.1 : Int), .int (t.2.2 : Int)]
def spTokenAt : Sp := fun vs H Q _ => ∃ (l : List Nat) (s : Nat), vs = [.str (tx l), .int (s : Int)] ∧ l.length ≤ 100000 ∧ s < l.length ∧
  ∀ p H', Same H H' → H' p = some (tkV (tokS (l.drop s), s, s + tokN (l.drop s))) → Q (.ref p) H'
theorem inV_words {x : List Nat} : ∀ ws : List (List Nat), inV (.str (tx x)) (ws.map fun y => V.str (tx y)) = decide (x ∈ ws)
  | [] => rfl
  | y :: r => by
    have ih := inV_words (x := x) r
    unfold inV at ih ⊢
    rw [List.map_cons, List.any_cons, ih]
    have e : eqV (.str (tx y)) (.str (tx x)) = decide (x = y) := by
      have h := dec_tx y x
      show decide (tx y = tx x) = _
      have h2 : decide (tx y = tx x) = decide (V.str (tx y) = V.str (tx x)) := by
        by_cases z : tx y = tx x
        · rw [z]
          simp
        · rw [decide_eq_false z, decide_eq_false fun q => z (V.str.inj q)]
      rw [h2, h]
      by_cases z : x = y
      · rw [z]
      · rw [decide_eq_false z, decide_eq_false fun q => z q.symm]
    first
      | (rw [e]; by_cases z : x = y <;> simp [z])
      | (simp [e, List.mem_cons])
theorem mem_letF : (fun c => decide (c ∈ letterL)) = isLet := funext mem_let
theorem mem_namF : (fun c => decide (c ∈ nameL)) = isNam := funext mem_nam
theorem mem_digF : (fun c => decide (c ∈ digitL)) = isDig := funext mem_dig
theorem cut_two (l : List Nat) (s : Nat) : cutS (tx l) (some (s : Int)) (some ((s : Int) + 2)) = tx ((l.drop s).take 2) := by
  have h := cut_tx l s (s + 2)
  have e : ((s + 2 : Nat) : Int) = (s : Int) + 2 := by omega
  rw [e] at h
  rw [h]
  congr 2
  omega
theorem eqeq : (Str.ofString "==" : Str) = tx [61, 61] := by decide +kernel
theorem wordsFlat : (words.map fun x => V.str (tx x)).all flatV = true := by decide +kernel
theorem ok_token_at (T : Tx K mg) {f : Addr} {fd : FuncData} (F : FnP K "token_at" s_token_at f fd) (CR : Cl P w K mg base CX0 1 "run_end" ["text", "start", "allowed"] spRunEnd) : FnOk P w K mg base CX0 2 f fd ["text", "start"] spTokenAt := by
  refine F.ok c_token_at (fun vs H Q E h => ?_) (fun cdv A outer s H vs Q E hr h => ?_)
  · obtain ⟨l, s, rfl, _⟩ := h
    rfl
  obtain ⟨l, n, rfl, hl, hn, q⟩ := h
  obtain ⟨wa, gw, hw⟩ := T.words
  have ctx := c_token_at.nd
  refine ⟨_, PSs.nox (pss_cons (ps_set (i := 2) c_token_at.nd rfl (Or.inl rfl) (pe_ix ix_str (pv 0) (pv 1) (fun _ _ => rfl)))
    (pss_cons (ps_if (pt_cmpR op_in_sign (pv 2) (pe_k T.letters) rfl)
      (pss_cons (ps_set (i := 3) c_token_at.nd rfl (Or.inl rfl) (pe_f CR hr (by decide) pass0 (pa_cons (pv 0) (pa_cons (pv 1) (pa_cons (pe_k T.names) pa_nil)))))
        (pss_cons (ps_if (pt_cmpR op_in_seq (pe_slice sl_str (pv 0) (po_some (pv 1)) (po_some (pv 3))) (pe_glob (v := .ref wa) (by rfl) gw rfl) rfl) (pss_one (ps_ret (pe_tup (pa_cons pe_str (pa_cons (pv 1) (pa_cons (pv 3) pa_nil)))))) pss_nil)
          (pss_one (ps_ret (pe_tup (pa_cons pe_str (pa_cons (pv 1) (pa_cons (pv 3) pa_nil)))))))) pss_nil)
    (pss_cons (ps_if (pt_cmpR op_in_sign (pv 2) (pe_k T.digits) rfl)
      (pss_one (ps_ret (pe_tup (pa_cons pe_str (pa_cons (pv 1) (pa_cons (pe_f CR hr (by decide) pass0 (pa_cons (pv 0) (pa_cons (pv 1) (pa_cons (pe_k T.digits) pa_nil)))) pa_nil)))))) pss_nil)
    (pss_cons (ps_if (pt_cmpR op_eq (pe_slice sl_str (pv 0) (po_some (pv 1)) (po_some (pe_op op_add (pv 1) pe_int))) pe_str (nomark _))
      (pss_one (ps_ret (pe_tup (pa_cons pe_str (pa_cons (pv 1) (pa_cons (pe_op op_add (pv 1) pe_int) pa_nil)))))) pss_nil)
    (pss_cons (ps_if (pt_cmpR op_in_sign (pv 2) (pe_k T.signs) rfl)
      (pss_one (ps_ret (pe_tup (pa_cons pe_str (pa_cons (pv 1) (pa_cons (pe_op op_add (pv 1) pe_int) pa_nil)))))) pss_nil)
    (pss_one (ps_ret (pe_tup (pa_cons pe_str (pa_cons (pv 1) (pa_cons (pe_op op_add (pv 1) pe_int) pa_nil))))))))))), ?_⟩
  obtain ⟨c, hc⟩ := get_some hn
  have ed := drop_cons hc
  have size3 : 3 ≤ sizeLine := by decide
  rw [ed] at q
  refine ⟨_, rfl, _, rfl, _, _, _, rfl, rfl, line_of hl, atI_nat (xs := (tx l).cps.toList) hc, ?_⟩
  refine ⟨_, rfl, c, _, rfl, rfl, _, rfl, ?_⟩
  rw [tx_list, mem_let]
  by_cases c1 : isLet c = true
  · refine iftt c1 ?_
    refine ⟨_, rfl, _, rfl, l, nameL, n, rfl, hl, Nat.le_of_lt hn, ?_⟩
    rw [mem_namF, ed]
    refine ⟨_, rfl, _, rfl, _, rfl, _, rfl, _, rfl, _, rfl, line_of hl, ?_⟩
    rw [cut_tx, ed]
    have e1 : n + spanN isNam (c :: l.drop (n + 1)) - n = spanN isNam (c :: l.drop (n + 1)) := by omega
    rw [e1]
    refine ⟨wa, _, rfl, .inr (hw _), rfl, wordsFlat, _, rfl, ?_⟩
    rw [if_neg Bool.false_ne_true, inV_words]
    rw [tokN_cons, if_pos c1, tokS_cons, if_pos c1] at q
    by_cases c2 : (c :: l.drop (n + 1)).take (spanN isNam (c :: l.drop (n + 1))) ∈ words
    · refine iftt (decide_eq_true c2) ?_
      rw [if_pos c2] at q
      exact ⟨_, rfl, _, rfl, size3, fun p hp => q p _ (same_new (Same.refl _) hp _) upd_same⟩
    · refine iffF (decide_eq_false c2) ?_
      rw [if_neg c2] at q
      exact ⟨_, rfl, _, rfl, size3, fun p hp => q p _ (same_new (Same.refl _) hp _) upd_same⟩
  · refine iffF (Bool.eq_false_iff.mpr c1) ?_
    rw [tokN_cons, if_neg c1, tokS_cons, if_neg c1] at q
    refine ⟨_, rfl, c, _, rfl, rfl, _, rfl, ?_⟩
    rw [tx_list, mem_dig]
    by_cases c2 : isDig c = true
    · refine iftt c2 ?_
      rw [if_pos c2, if_pos c2] at q
      refine ⟨_, rfl, _, rfl, _, rfl, l, digitL, n, rfl, hl, Nat.le_of_lt hn, ?_⟩
      rw [mem_digF, ed]
      exact ⟨size3, fun p hp => q p _ (same_new (Same.refl _) hp _) upd_same⟩
    · refine iffF (Bool.eq_false_iff.mpr c2) ?_
      rw [if_neg c2, if_neg c2] at q
      refine ⟨_, rfl, _, rfl, _, rfl, _, rfl, _, _, rfl, rfl, _, rfl, _, rfl, line_of hl, ?_⟩
      rw [cut_two, eqeq, ed]
      refine ⟨rfl, _, rfl, ?_⟩
      rw [dec_tx]
      by_cases c3 : (c :: l.drop (n + 1)).take 2 = [61, 61]
      · refine iftt (decide_eq_true c3) ?_
        rw [if_pos c3, if_pos c3] at q
        exact ⟨_, rfl, _, rfl, _, _, rfl, rfl, size3, fun p hp => q p _ (same_new (Same.refl _) hp _) upd_same⟩
      · refine iffF (decide_eq_false c3) ?_
        rw [if_neg c3, if_neg c3] at q
        refine ⟨_, rfl, c, _, rfl, rfl, _, rfl, ?_⟩
        rw [tx_list]
        by_cases c4 : c ∈ signL
        · refine iftt (decide_eq_true c4) ?_
          rw [if_pos c4] at q
          exact ⟨_, rfl, _, rfl, _, _, rfl, rfl, size3, fun p hp => q p _ (same_new (Same.refl _) hp _) upd_same⟩
        · refine iffF (decide_eq_false c4) ?_
          rw [if_neg c4] at q
          exact ⟨_, rfl, _, rfl, _, _, rfl, rfl, size3, fun p hp => q p _ (same_new (Same.refl _) hp _) upd_same⟩
end
end K10
namespace K10
open PySem PySem.Spec PyProof.Rows L2
section
variable {P : Program} {w : World} {K : PySem.W.Frag} {mg : Str → Option Value} {base : Heap}
theorem getD_at {l : List Nat} {v c : Nat} (h : l[v]? = some c) : (tx l).cps.getD v 0 = c := by
  show l.toArray.getD v 0 = c
  rw [Array.getD_eq_getD_getElem?, List.getElem?_toArray, h]
  rfl
theorem span_to {l : List Nat} {e k : Nat} (he : e ≤ k) (hk : k ≤ l.length) (h1 : ∀ v, e ≤ v → v < k → (tx l).cps.getD v 0 ≠ 10) (h2 : k = l.length ∨ (tx l).cps.getD k 0 = 10) : spanN notNl (l.drop e) = k - e := by
  have hm : ∀ c ∈ (l.drop e).take (k - e), notNl c = true := fun c hc => by
    obtain ⟨j, hj⟩ := List.getElem?_of_mem hc
    have hlt : j < k - e := by
      have := (List.getElem?_eq_some_iff.mp hj).1
      rw [List.length_take] at this
      omega
    rw [List.getElem?_take_of_lt hlt, List.getElem?_drop] at hj
    have hne := h1 (e + j) (by omega) (by omega)
    rw [getD_at hj] at hne
    unfold notNl
    rw [decide_eq_false hne]
    rfl
  have hs := span_more (q := notNl) (k - e) (l.drop e) (by rw [List.length_drop]; omega) hm
  rw [List.drop_drop] at hs
  have ek : e + (k - e) = k := by omega
  rw [ek] at hs
  rw [hs]
  rcases h2 with h2 | h2
  · rw [h2, List.drop_eq_nil_of_le (Nat.le_refl _)]
    rfl
  · by_cases hk2 : k = l.length
    · rw [hk2, List.drop_eq_nil_of_le (Nat.le_refl _)]
      rfl
    · obtain ⟨c, hc⟩ := get_some (l := l) (e := k) (by omega)
      rw [getD_at hc] at h2
      rw [drop_cons hc, h2]
      rfl
theorem from_nat (n e : Nat) : fromIndex n (e : Int) = e := by
  unfold fromIndex
  rw [if_neg (by omega)]
  omega
theorem find_nl {l : List Nat} {e : Nat} (he : e ≤ l.length) : (Txt.find3 (tx l) ⟨#[10]⟩ (e : Int) = -1 ∧ e + spanN notNl (l.drop e) = l.length) ∨ (0 ≤ Txt.find3 (tx l) ⟨#[10]⟩ (e : Int) ∧ Txt.find3 (tx l) ⟨#[10]⟩ (e : Int) = ((e + spanN notNl (l.drop e) : Nat) : Int)) := by
  rcases StrLaws.find3_spec (tx l) 10 (e : Int) with ⟨h1, h2⟩ | ⟨k, h1, h2, h3, h4, h5⟩
  · refine .inl ⟨h1, ?_⟩
    rw [span_to (k := l.length) he (Nat.le_refl _) (fun v a b => h2 v (by rw [from_nat]; exact a) b) (.inl rfl)]
    omega
  · rw [from_nat] at h2 h5
    have h3' : k < l.length := h3
    rw [h1, span_to (k := k) h2 (by omega) h5 (.inr h4)]
    refine .inr ⟨by omega, ?_⟩
    have : e + (k - e) = k := by omega
    rw [this]
/-- at the addresses as stand the tokens ts -/
def ToksAt (H : Hp) (as : List Addr) (ts : List Tk) : Prop := as.length = ts.length ∧ ∀ (i : Nat) (a : Addr) (t : Tk), as[i]? = some a → ts[i]? = some t → H a = some (tkV t)
theorem ToksAt.same {H H' : Hp} {as : List Addr} {ts : List Tk} (h : ToksAt H as ts) (s : Same H H') : ToksAt H' as ts := ⟨h.1, fun i a t h1 h2 => s _ _ (h.2 i a t h1 h2)⟩
theorem ToksAt.but {H H' : Hp} {r : Addr} {as : List Addr} {ts : List Tk} (h : ToksAt H as ts) (hr : ∀ xs, H r ≠ some (.tup xs)) (s : ∀ b o, b ≠ r → H b = some o → H' b = some o) : ToksAt H' as ts :=
  ⟨h.1, fun i a t h1 h2 => s _ _ (fun e => hr _ (by rw [← e]; exact h.2 i a t h1 h2)) (h.2 i a t h1 h2)⟩
theorem ToksAt.more {H : Hp} {as : List Addr} {ts : List Tk} {a : Addr} {t : Tk} (h : ToksAt H as ts) (ha : H a = some (tkV t)) : ToksAt H (as ++ [a]) (ts ++ [t]) := by
  refine ⟨by rw [List.length_append, List.length_append, h.1]; rfl, fun i b u h1 h2 => ?_⟩
  by_cases hi : i < as.length
  · rw [List.getElem?_append_left hi] at h1
    rw [List.getElem?_append_left (by rw [← h.1]; exact hi)] at h2
    exact h.2 i b u h1 h2
  · have e1 : i = as.length := by
      have := (List.getElem?_eq_some_iff.mp h1).1
      rw [List.length_append] at this
      have e : ([a] : List Addr).length = 1 := rfl
      omega
    subst e1
    rw [List.getElem?_append_right (Nat.le_refl _), Nat.sub_self] at h1
    rw [h.1, List.getElem?_append_right (Nat.le_refl _), Nat.sub_self] at h2
    have e2 : a = b := Option.some.inj h1
    have e3 : t = u := Option.some.inj h2
    rw [← e2, ← e3]
    exact ha
def spTokensB : Sp := fun vs H Q _ => ∃ l : List Nat, vs = [.str (tx l), .int 0, .int (l.length : Int)] ∧ l.length ≤ 100000 ∧
  ∀ r as H', Same H H' → H' r = some (.lst (as.map V.ref)) → ToksAt H' as (lex l 0) → Q (.ref r) H'
theorem sg32 : (Str.ofString " " : Str) = ⟨#[32]⟩ := by decide +kernel
theorem sg10 : (Str.ofString "\n" : Str) = ⟨#[10]⟩ := by decide +kernel
theorem sg35 : (Str.ofString "#" : Str) = ⟨#[35]⟩ := by decide +kernel
theorem tok_room {l : List Nat} (h : l.length ≤ 100000) {done rest : List Tk} (hd : done ++ rest = lex l 0) : done.length ≤ 100000 := by
  have h1 := cnt_bnd l
  have h2 : ∀ (x : List Nat) (p : Nat), bnd p x ≤ x.length := by
    intro x
    induction x with
    | nil => intro p; exact Nat.le_refl _
    | cons c r ih =>
      intro p
      have := ih c
      show (if starts p c = true then 1 else 0) + bnd c r ≤ r.length + 1
      split <;> omega
  have h3 := h2 l 32
  have h4 : (lex l 0).length = cnt l := rfl
  rw [← hd, List.length_append] at h4
  omega
theorem ok_tokens_b (T : Tx K mg) {f : Addr} {fd : FuncData} (F : FnP K "tokens_between" s_tokens_between f fd) (CT : Cl P w K mg base CX0 2 "token_at" ["text", "start"] spTokenAt) : FnOk P w K mg base CX0 3 f fd ["text", "start", "end"] spTokensB := by
  refine F.ok c_tokens_between (fun vs H Q E h => ?_) (fun cdv A outer s H vs Q E hr h => ?_)
  · obtain ⟨l, rfl, _⟩ := h
    rfl
  obtain ⟨l, rfl, hl, q⟩ := h
  refine ⟨_, PSs.nox (pss_cons (ps_set (i := 3) c_tokens_between.nd rfl (Or.inl rfl) (pe_lst pa_nil)) (pss_cons (ps_set (i := 4) c_tokens_between.nd rfl (Or.inl rfl) (pv 1))
    (pss_cons (ps_while PassesOwn.never (pt_cmpR op_lt (pv 4) (pv 2) (nomark _))
      (pss_one (ps_if (PW.pt (pw_or (pt_cmpR op_eq (pe_ix ix_str (pv 0) (pv 4) (fun _ _ => rfl)) pe_str (nomark _)) (pw_or1 (pt_cmpR op_eq (pe_ix ix_str (pv 0) (pv 4) (fun _ _ => rfl)) pe_str (nomark _)))))
        (pss_one (ps_aug (i := 4) c_tokens_between.nd rfl (Or.inl rfl) pe_int ip_add))
        (pss_one (ps_if (pt_cmpR op_eq (pe_ix ix_str (pv 0) (pv 4) (fun _ _ => rfl)) pe_str (nomark _))
          (pss_cons (ps_set (i := 5) c_tokens_between.nd rfl (Or.inl rfl) (pe_bm PySem.F.plainAttrs_str PySem.F.slot_str_find PySem.F.type_str_find mt_find3 (pv 0) (pa_cons pe_str (pa_cons (pv 4) pa_nil))))
            (pss_one (ps_set (i := 4) c_tokens_between.nd rfl (Or.inl rfl) (pe_ifExp (pt_cmpR op_lt (pv 5) pe_int (nomark _)) (pv 2) (pv 5)))))
          (pss_cons (ps_set (i := 6) c_tokens_between.nd rfl (Or.inl rfl) (pe_f CT hr (by decide) pass0 (pa_cons (pv 0) (pa_cons (pv 4) pa_nil))))
            (pss_cons (ps_expr (pe_bm PySem.F.plainAttrs_list PySem.F.slot_list_append PySem.F.type_list_append mt_append (pv 3) (pa_cons (pv 6) pa_nil)))
              (pss_one (ps_set (i := 4) c_tokens_between.nd rfl (Or.inl rfl) (pe_ix ix_tup (pv 6) pe_int (fun _ _ => rfl))))))))))) (pss_one (ps_ret (pv 3)))))), ?_⟩
  refine ⟨(by show 0 ≤ sizeLine; decide), fun p hp => ?_⟩
  have s0 : Same H (upd H p (.lst [])) := same_new (Same.refl H) hp _
  refine ⟨_, rfl, fun m σ H' => ∃ (e : Nat) (as : List Addr) (done : List Tk) (v5 v6 : Option V), m = l.length - e ∧ σ = [some (.str (tx l)), some (.int 0), some (.int l.length), some (.ref p), some (.int (e : Int)), v5, v6] ∧ Same H H' ∧
    H' p = some (.lst (as.map V.ref)) ∧ ToksAt H' as done ∧ done ++ lex (l.drop e) e = lex l 0 ∧ e ≤ l.length, ⟨l.length - 0, 0, [], [], none, none, rfl, rfl, s0, upd_same, ⟨rfl, fun i a t h => by simp at h⟩, rfl, Nat.zero_le _⟩, ?_⟩
  rintro m σ H' ⟨e, as, done, v5, v6, rfl, rfl, s1, hL, hT, hd, he⟩
  refine ⟨_, rfl, _, rfl, _, _, rfl, rfl, _, rfl, ?_⟩
  by_cases c1 : e < l.length
  · refine iftt (decide_eq_true (show (e : Int) < (l.length : Int) by omega)) ?_
    obtain ⟨c, hc⟩ := get_some c1
    have ed := drop_cons hc
    have at_ : atI (tx l).cps.toList (e : Int) = some c := atI_nat (xs := (tx l).cps.toList) hc
    refine ⟨_, fun _ _ z => z, ?_⟩
    refine ⟨_, rfl, _, rfl, _, _, _, rfl, rfl, line_of hl, at_, rfl, _, rfl, ?_⟩
    rw [sg32, dec_sg]
    by_cases c2 : c = 32
    · refine iftt (decide_eq_true c2) (iftt rfl ?_)
      rw [ed, lex_sp (.inl c2)] at hd
      exact ⟨_, rfl, _, _, rfl, rfl, l.length - (e + 1), by omega, e + 1, as, done, v5, v6, rfl, rfl, s1, hL, hT, hd, c1⟩
    refine iffF (decide_eq_false c2) ?_
    refine ⟨_, rfl, _, rfl, _, _, _, rfl, rfl, line_of hl, at_, rfl, _, rfl, ?_⟩
    rw [sg10, dec_sg]
    by_cases c3 : c = 10
    · refine iftt (decide_eq_true c3) ?_
      rw [ed, lex_sp (.inr c3)] at hd
      exact ⟨_, rfl, _, _, rfl, rfl, l.length - (e + 1), by omega, e + 1, as, done, v5, v6, rfl, rfl, s1, hL, hT, hd, c1⟩
    refine iffF (decide_eq_false c3) ?_
    refine ⟨_, rfl, _, rfl, _, _, _, rfl, rfl, line_of hl, at_, rfl, _, rfl, ?_⟩
    rw [sg35, dec_sg]
    by_cases c4 : c = 35
    · refine iftt (decide_eq_true c4) ?_
      subst c4
      rw [ed, lex_com, ← ed, List.drop_drop] at hd
      have hsp : 1 ≤ spanN notNl (l.drop e) := by rw [ed]; exact com_pos
      have hsl : e + spanN notNl (l.drop e) ≤ l.length := by
        have := spanN_le notNl (l.drop e)
        rw [List.length_drop] at this
        omega
      refine ⟨_, rfl, rfl, _, rfl, _, _, _, rfl, rfl, ?_⟩
      refine ⟨_, rfl, _, _, rfl, rfl, _, rfl, ?_⟩
      rcases find_nl (l := l) (e := e) he with ⟨f1, f2⟩ | ⟨f1, f2⟩
      · refine iftt (decide_eq_true (by rw [f1]; decide)) ?_
        rw [f2] at hd
        exact ⟨_, rfl, l.length - l.length, by omega, l.length, as, done, _, v6, rfl, rfl, s1, hL, hT, hd, Nat.le_refl _⟩
      · refine iffF (decide_eq_false (by omega)) ?_
        refine ⟨_, rfl, l.length - (e + spanN notNl (l.drop e)), by omega, e + spanN notNl (l.drop e), as, done, some (.int (Txt.find3 (tx l) ⟨#[10]⟩ (e : Int))), v6, rfl, ?_, s1, hL, hT, hd, hsl⟩
        rw [← f2]
        rfl
    · refine iffF (decide_eq_false c4) ?_
      rw [ed, lex_tok (fun z => z.elim c2 c3) c4, ← ed, List.drop_drop] at hd
      have htp : 1 ≤ tokN (l.drop e) := by rw [ed]; exact tokN_pos
      have htl : e + tokN (l.drop e) ≤ l.length := by
        have : tokN (l.drop e) ≤ (l.drop e).length := by rw [ed]; exact tokN_le
        rw [List.length_drop] at this
        omega
      refine ⟨_, rfl, _, rfl, l, e, rfl, hl, c1, fun a H2 s2 ha => ?_⟩
      have hL2 := s2 _ _ hL
      have room : (as.map V.ref).length < sizeLine := by
        rw [List.length_map, hT.1, sizeLine_eq]
        have := tok_room hl hd
        omega
      refine ⟨_, rfl, Or.inl ⟨rfl, _, SqL.of hL2⟩, _, rfl, p, _, _, rfl, rfl, hL2, room, ?_⟩
      have nap : a ≠ p := ne_of ha hL2 (by intro z; cases z)
      have ha2 : upd H2 p (.lst (as.map V.ref ++ [V.ref a])) a = some (tkV (tokS (l.drop e), e, e + tokN (l.drop e))) := by rw [upd_ne nap]; exact ha
      have hT2 : ToksAt (upd H2 p (.lst (as.map V.ref ++ [V.ref a]))) (as ++ [a]) (done ++ [(tokS (l.drop e), e, e + tokN (l.drop e))]) :=
        ((hT.same s2).but (r := p) (fun xs z => by rw [hL2] at z; cases z) fun b o hb z => by rw [upd_ne hb]; exact z).more ha2
      refine ⟨_, rfl, a, _, 2, _, rfl, rfl, SqT.of ha2, (by rfl), ?_⟩
      refine ⟨l.length - (e + tokN (l.drop e)), by omega, e + tokN (l.drop e), as ++ [a], done ++ [(tokS (l.drop e), e, e + tokN (l.drop e))], v5, _, rfl, rfl, same_mut (s1.trans s2) hp _, ?_, hT2, by rw [List.append_assoc]; exact hd, htl⟩
      rw [upd_same, List.map_append]
      rfl
  · refine iffF (decide_eq_false (show ¬ (e : Int) < (l.length : Int) by omega)) ?_
    have e2 : l.drop e = [] := List.drop_eq_nil_of_le (by omega)
    rw [e2, lex_nil, List.append_nil] at hd
    rw [hd] at hT
    exact ⟨_, rfl, q p as H' s1 hL hT⟩
def spTokens : Sp := fun vs H Q _ => ∃ l : List Nat, vs = [.str (tx l)] ∧ l.length ≤ 100000 ∧ ∀ r as H', Same H H' → H' r = some (.lst (as.map V.ref)) → ToksAt H' as (lex l 0) → Q (.ref r) H'
theorem ok_tokens (T : Tx K mg) {f : Addr} {fd : FuncData} (F : FnP K "tokens" s_tokens f fd) (CB : Cl P w K mg base CX0 3 "tokens_between" ["text", "start", "end"] spTokensB) : FnOk P w K mg base CX0 4 f fd ["text"] spTokens := by
  refine F.ok c_tokens (fun vs H Q E h => ?_) (fun cdv A outer s H vs Q E hr h => ?_)
  · obtain ⟨l, rfl, _⟩ := h
    rfl
  obtain ⟨l, rfl, hl, q⟩ := h
  refine ⟨_, PSs.nox (pss_one (ps_ret (pe_f CB hr (by decide) pass0 (pa_cons (pv 0) (pa_cons pe_int (pa_cons (pe_callB call_len_str (by rfl) T.len boot_len (pa_cons (pv 0) pa_nil)) pa_nil)))))), ?_⟩
  exact ⟨_, rfl, _, rfl, _, rfl, line_of hl, l, rfl, hl, q⟩
end
end K10
namespace K10
open PySem PySem.Spec PyProof.Rows L2
/-- a for over a text, sign by sign -/
theorem for_tx {l : List Nat} {g : TG} {tb : TS} {D : Ends} {σ : L2.St} {H : Hp} (Pv : Nat → L2.St → Hp → Prop) (start : Pv 0 σ H)
    (turn : ∀ (i c : Nat) σ H, l[i]? = some c → Pv i σ H → g (.str ⟨#[c]⟩) σ H fun σ2 H2 => tb { D with nx := Pv (i + 1), ct := Pv (i + 1), bk := D.nx } σ2 H2) (last : ∀ σ H, Pv l.length σ H → D.nx σ H) :
    ∃ W : Nat → Nat → L2.St → Hp → Prop, (∃ m, W 0 m σ H) ∧ ∀ i m σ H, W i m σ H → ((Its (tx l)).stop i H ∧ D.nx σ H) ∨ ((Its (tx l)).go i H ∧ ∃ N : L2.St → Hp → Prop, (∀ σ' H', N σ' H' → ∃ m', m' < m ∧ W (i + 1) m' σ' H') ∧
      ∀ x H', (Its (tx l)).yld i H x H' → g x σ H' fun σ2 H2 => tb { D with nx := N, ct := N, bk := D.nx } σ2 H2) := by
  refine ⟨fun i m σ H => i ≤ l.length ∧ m + i = l.length ∧ Pv i σ H, ⟨l.length, Nat.zero_le _, rfl, start⟩, fun i m σ H hw => ?_⟩
  obtain ⟨hi, hm, p⟩ := hw
  by_cases c : i < l.length
  · refine .inr ⟨c, Pv (i + 1), fun σ' H' p' => ⟨m - 1, by omega, by omega, by omega, p'⟩, fun x H' y => ?_⟩
    obtain ⟨rfl, d, hd, rfl⟩ := y
    exact turn i d σ H' (by rw [← hd]; exact (List.getElem?_toArray ..).symm) p
  · have e : i = l.length := by omega
    subst e
    exact .inl ⟨Nat.le_refl _, last σ H p⟩
section
variable {P : Program} {w : World} {K : PySem.W.Frag} {mg : Str → Option Value} {base : Heap}
theorem digit_index {c : Nat} (h : isDig c = true) : ∃ i rest, Builtin.Str.occurrences (tx digitL) ⟨#[c]⟩ 0 (tx digitL).length 1 = i :: rest := by
  have key : ∀ d, d < 58 → isDig d = true → (Builtin.Str.occurrences (tx digitL) ⟨#[d]⟩ 0 (tx digitL).length 1).isEmpty = false := by decide +kernel
  have hc : c < 58 := by
    unfold isDig at h
    simp at h
    omega
  have q := key c hc h
  cases e : Builtin.Str.occurrences (tx digitL) ⟨#[c]⟩ 0 (tx digitL).length 1 with
  | nil => rw [e] at q; cases q
  | cons i r => exact ⟨i, r, rfl⟩
def spNumber : Sp := fun vs H Q _ => ∃ l : List Nat, vs = [.str (tx l)] ∧ (∀ c ∈ l, isDig c = true) ∧ ∀ n : Int, Q (.int n) H
theorem ok_number (T : Tx K mg) {f : Addr} {fd : FuncData} (F : FnP K "number_value" s_number_value f fd) : FnOk P w K mg base CX0 1 f fd ["digits"] spNumber := by
  refine F.ok c_number_value (fun vs H Q E h => ?_) (fun cdv A outer s H vs Q E hr h => ?_)
  · obtain ⟨l, rfl, _⟩ := h
    rfl
  obtain ⟨l, rfl, hl, q⟩ := h
  refine ⟨_, PSs.nox (pss_cons (ps_set (i := 1) c_number_value.nd rfl (Or.inl rfl) pe_int) (pss_cons (ps_for PassesOwn.never rfl (pi_str (pv 0)) (pg_name (i := 2) c_number_value.nd rfl (Or.inl rfl))
    (pss_one (ps_set (i := 1) c_number_value.nd rfl (Or.inl rfl) (pe_op op_mod (pe_op op_add (pe_op op_mul (pv 1) pe_int) (pe_bm PySem.F.plainAttrs_str PySem.F.slot_str_index PySem.F.type_str_index mt_sindex (pe_k T.digits) (pa_cons (pv 2) pa_nil))) pe_int))))
    (pss_one (ps_ret (pv 1))))), ?_⟩
  refine ⟨_, rfl, _, rfl, for_tx (l := l) (fun i σ H' => ∃ (n : Int) (v : Option V), σ = [some (.str (tx l)), some (.int n), v] ∧ H' = H ∧ 0 ≤ n ∧ n < 4294967296) ⟨0, none, rfl, rfl, by omega, by omega⟩ ?_ ?_⟩
  · rintro i c σ H' hc ⟨n, v, rfl, rfl, h0, h1⟩
    obtain ⟨k, rest, ho⟩ := digit_index (hl c (List.mem_of_getElem? hc))
    refine ⟨_, rfl, _, _, rfl, rfl, .inl ⟨by omega, by omega⟩, rfl, _, rfl, _, _, k, rest, rfl, rfl, ho, _, _, rfl, rfl, _, _, rfl, rfl, (by show (0 : Int) < 4294967296; decide), ?_⟩
    exact ⟨_, _, rfl, rfl, Int.emod_nonneg _ (by decide), Int.emod_lt_of_pos _ (by decide)⟩
  · rintro σ H' ⟨n, v, rfl, rfl, _, _⟩
    exact ⟨_, rfl, q n⟩
end
end K10
/-! The reader as it stands in the heap; what its methods promise over the parser's mirror. -/
namespace K10
open PySem PySem.Spec PyProof.Rows L2
/-- what is seen of a token of the text l -/
def kdOf (l : List Nat) (t : Tk) : Kd := (Str.ofString t.1, if t.1 = "word" ∨ t.1 = "sign" then tx ((l.drop t.2.1).take (t.2.2 - t.2.1)) else Str.ofString "")
def kinds (l : List Nat) : List Kd := (lex l 0).map (kdOf l)
theorem kinds_len (l : List Nat) : (kinds l).length = (lex l 0).length := List.length_map _
/-- the place of the token at i, or behind the last one -/
def plc (ts : List Tk) (i : Nat) : Nat × Nat := match ts[i]? with
  | some t => (t.2.1, t.2.2)
  | none => match ts.getLast? with
    | some t => (t.2.2, t.2.2)
    | none => (0, 0)
/-- a reader: its text, its own dict, its list of tokens, where they stand -/
structure Rdr where
  l : List Nat
  dx : Addr
  tl : Addr
  as : List Addr
abbrev Rdr.ts (R : Rdr) : List Tk := lex R.l 0
abbrev Rdr.ks (R : Rdr) : List Kd := kinds R.l
def rfs (R : Rdr) (i d : Nat) : List (Str × V) := [("text", .str (tx R.l)), ("tokens", .ref R.tl), ("at", .int (i : Int)), ("depth", .int (d : Int))]
/-- the reader at r stands at token i, at depth d -/
structure RdAt (C : Addr) (H : Hp) (r : Addr) (R : Rdr) (i d : Nat) : Prop where
  obj : H r = some (.ins C R.dx (rfs R i d))
  lst : H R.tl = some (.lst (R.as.map V.ref))
  tok : ToksAt H R.as R.ts
  le : i ≤ R.ts.length
  ne : R.ts ≠ []
  short : R.l.length ≤ 100000
  few : R.ts.length ≤ 300
/-- all but r stands -/
def But (r : Addr) (H H' : Hp) : Prop := ∀ b o, b ≠ r → H b = some o → H' b = some o
theorem But.refl (r : Addr) (H : Hp) : But r H H := fun _ _ _ e => e
theorem But.trans {r : Addr} {H H1 H2 : Hp} (a : But r H H1) (b : But r H1 H2) : But r H H2 := fun x o n e => b x o n (a x o n e)
theorem But.of {r : Addr} {H H' : Hp} (s : Same H H') : But r H H' := fun b o _ e => s b o e
theorem but_upd {r : Addr} {H : Hp} {o : HO} : But r H (upd H r o) := fun b u n e => by rw [upd_ne n]; exact e
theorem RdAt.same {C : Addr} {H H' : Hp} {r : Addr} {R : Rdr} {i d : Nat} (h : RdAt C H r R i d) (s : Same H H') : RdAt C H' r R i d := ⟨s _ _ h.obj, s _ _ h.lst, h.tok.same s, h.le, h.ne, h.short, h.few⟩
theorem RdAt.put {C : Addr} {H : Hp} {r : Addr} {R : Rdr} {i d i' d' : Nat} (h : RdAt C H r R i d) (hi : i' ≤ R.ts.length) : RdAt C (upd H r (.ins C R.dx (rfs R i' d'))) r R i' d' :=
  ⟨upd_same, by rw [upd_ne (ne_of h.lst h.obj (by intro z; cases z))]; exact h.lst, h.tok.but (r := r) (fun xs z => by rw [h.obj] at z; cases z) fun b o n e => by rw [upd_ne n]; exact e, hi, h.ne, h.short, h.few⟩
theorem rfs_at (R : Rdr) (i d j : Nat) : putF "at" (.int (j : Int)) (rfs R i d) = rfs R j d := rfl
theorem rfs_depth (R : Rdr) (i d j : Nat) : putF "depth" (.int (j : Int)) (rfs R i d) = rfs R i j := rfl
theorem rfs_no (R : Rdr) (i d : Nat) {m : Str} (h1 : ¬ m = "text") (h2 : ¬ m = "tokens") (h3 : ¬ m = "at") (h4 : ¬ m = "depth") : (rfs R i d).lookup m = none := by
  unfold rfs
  have e1 : (m == ("text" : Str)) = false := by simpa using h1
  have e2 : (m == ("tokens" : Str)) = false := by simpa using h2
  have e3 : (m == ("at" : Str)) = false := by simpa using h3
  have e4 : (m == ("depth" : Str)) = false := by simpa using h4
  simp [List.lookup, e1, e2, e3, e4]
/-! ### promises -/
/-- what lies at d behind a failure at token b -/
def ErrAt (H : Hp) (dd : Addr) (R : Rdr) (b : Nat) : Prop := H dd = some (.xd [("end", .int ((plc R.ts b).2 : Int)), ("start", .int ((plc R.ts b).1 : Int))])
def Out {α : Type} (C SP : Addr) (r : Addr) (R : Rdr) (d : Nat) (H : Hp) (val : α → V → Hp → Prop) (Q : VK) (E : XK) : Option α × Nat → Prop
  | (some a, b) => ∀ v H', But r H H' → RdAt C H' r R b d → val a v H' → Q v H'
  | (none, b) => ∀ dd H', But r H H' → ErrAt H' dd R b → E (.ref SP) (some dd) H'
def spM {α : Type} (C SP : Addr) (val : α → V → Hp → Prop) (p : P α) : Sp := fun vs H Q E => ∃ (r : Addr) (R : Rdr) (i d : Nat), vs = [.ref r] ∧ RdAt C H r R i d ∧ Out C SP r R d H val Q E (run R.ks p i)
/-- .. of one more argument, a text -/
def spM1 {α : Type} (C SP : Addr) (val : α → V → Hp → Prop) (p : Str → P α) : Sp := fun vs H Q E => ∃ (r : Addr) (R : Rdr) (i d : Nat) (e : Str), vs = [.ref r, .str e] ∧ e ≠ Str.ofString "" ∧ RdAt C H r R i d ∧ Out C SP r R d H val Q E (run R.ks (p e) i)
/-- .. where n more may begin within -/
def spD {α : Type} (C SP : Addr) (val : α → V → Hp → Prop) (p : P α) (n : Nat) : Sp := fun vs H Q E => ∃ (r : Addr) (R : Rdr) (i d : Nat), vs = [.ref r] ∧ d + n = 30 ∧ RdAt C H r R i d ∧ Out C SP r R d H val Q E (run R.ks p i)
def vNon : Unit → V → Hp → Prop := fun _ v _ => v = .non
def vBool : Bool → V → Hp → Prop := fun b v _ => v = .bl b
def vAny : Unit → V → Hp → Prop := fun _ _ _ => True
def vMark : Unit → V → Hp → Prop := fun _ v H => ∃ p z n, v = .ref p ∧ H p = some (.tup [.str z, .int n])
def vTree : Unit → V → Hp → Prop := fun _ v H => ∃ p x0 x1 x2 xs, v = .ref p ∧ H p = some (.tup (x0 :: x1 :: x2 :: xs))
/-- a part of the way: the callee takes the program's first part -/
theorem step {α β : Type} {C SP r : Addr} {R : Rdr} {d d1 : Nat} {H H1 : Hp} {val : β → V → Hp → Prop} {val1 : α → V → Hp → Prop} {Q Q1 : VK} {E : XK} {p : P α} {f : α → P β} {i : Nat}
    (hq : Out C SP r R d H val Q E (run R.ks (p.bind f) i)) (hb : But r H H1)
    (k : ∀ a b v H', run R.ks p i = (some a, b) → But r H H' → But r H1 H' → RdAt C H' r R b d1 → val1 a v H' → Out C SP r R d H val Q E (run R.ks (f a) b) → Q1 v H') : Out C SP r R d1 H1 val1 Q1 E (run R.ks p i) := by
  rw [run_bind] at hq
  cases e : run R.ks p i with
  | mk o b =>
    rw [e] at hq
    cases o with
    | none => exact fun dd H' hb' he => hq dd H' (hb.trans hb') he
    | some a => exact fun v H' hb' hr hv => k a b v H' e (hb.trans hb') hb' hr hv hq
/-- the last part -/
theorem last {α : Type} {C SP r : Addr} {R : Rdr} {d d1 : Nat} {H H1 : Hp} {val : α → V → Hp → Prop} {val1 : α → V → Hp → Prop} {Q Q1 : VK} {E : XK} {p : P α} {i : Nat}
    (hq : Out C SP r R d H val Q E (run R.ks p i)) (hb : But r H H1)
    (k : ∀ a b v H', run R.ks p i = (some a, b) → But r H H' → But r H1 H' → RdAt C H' r R b d1 → val1 a v H' → (∀ v2 H2, But r H H2 → RdAt C H2 r R b d → val a v2 H2 → Q v2 H2) → Q1 v H') : Out C SP r R d1 H1 val1 Q1 E (run R.ks p i) := by
  cases e : run R.ks p i with
  | mk o b =>
    rw [e] at hq
    cases o with
    | none => exact fun dd H' hb' he => hq dd H' (hb.trans hb') he
    | some a => exact fun v H' hb' hr hv => k a b v H' e (hb.trans hb') hb' hr hv hq
/-- what the text says of the class -/
structure Rx (K : PySem.W.Frag) (mg : Str → Option Value) (C SP fI : Addr) : Prop where
  tx : Tx K mg
  cls : Cls K C
  nText : NoAttr K C "text"
  nTokens : NoAttr K C "tokens"
  nAt : NoAttr K C "at"
  nDepth : NoAttr K C "depth"
  mostT : ∃ u, mg "MOST_TOKENS" = some u ∧ RelV (.int 300) u
  mostD : ∃ u, mg "MOST_DEPTH" = some u ∧ RelV (.int 30) u
  tuple : mg "tuple" = none
  levels : ∃ a b c, mg "LEVELS" = some (.ref a) ∧ (∀ H, SqT K H a [.ref b, .ref c]) ∧ (∀ H, SqT K H b [.str "or"]) ∧ ∀ H, SqT K H c [.str "and"]
  sums : ∃ a, mg "SUMS" = some (.ref a) ∧ ∀ H, SqT K H a [.str "+", .str "-"]
  prods : ∃ a, mg "PRODUCTS" = some (.ref a) ∧ ∀ H, SqT K H a [.str "*", .str "/"]
  gSP : mg "SyntaxProblem" = some (.ref SP)
  oex : OexC K SP
  nStart : PySem.W.findIn K (.ref SP) "start" = some none
  nEnd : PySem.W.findIn K (.ref SP) "end" = some none
  init : PySem.W.findIn K (.ref SP) "__init__" = some (some (.ref fI))
  tInit : PySem.W.typeIn K (.ref fI) = some (.type "function")
section
variable {K : PySem.W.Frag} {mg : Str → Option Value} {C SP fI r : Addr} {H : Hp} {R : Rdr} {i d : Nat}
theorem RdAt.seq (h : RdAt C H r R i d) : SqL K H R.tl (R.as.map V.ref) := SqL.of h.lst
theorem RdAt.len (h : RdAt C H r R i d) : (R.as.map V.ref).length = R.ts.length := by rw [List.length_map]; exact h.tok.1
/-- where token j stands -/
theorem RdAt.at_ (h : RdAt C H r R i d) {j : Nat} {t : Tk} (e : R.ts[j]? = some t) : ∃ a, (R.as.map V.ref)[j]? = some (.ref a) ∧ H a = some (tkV t) := by
  have hj : j < R.as.length := by
    rw [h.tok.1]
    exact (List.getElem?_eq_some_iff.mp e).1
  refine ⟨R.as[j], by rw [List.getElem?_map, List.getElem?_eq_getElem hj]; rfl, h.tok.2 j _ t (List.getElem?_eq_getElem hj) e⟩
end
/-! ### rules of the reader's own expressions; slot 0 holds the reader -/
theorem pe_w {X : Cx} {e : Expr} {t t' : TE} (h : PE X e t) (m : ∀ σ H Q, t' σ H Q → t σ H Q) : PE X e t' := ⟨fun pins s σ H Q I q => h.run pins s σ H Q I (m _ _ _ q)⟩
theorem pt_w {X : Cx} {e : Expr} {t t' : TT} (h : PT X e t) (m : ∀ σ H Q, t' σ H Q → t σ H Q) : PT X e t' := ⟨fun pins s σ H Q I q => h.run pins s σ H Q I (m _ _ _ q)⟩
def tRd (C : Addr) (g : Rdr → Nat → Nat → V) : TE := fun σ H Q => ∃ r R i d, σ[0]? = some (some (.ref r)) ∧ RdAt C H r R i d ∧ Q (g R i d) H
def tRdB (C : Addr) (g : Rdr → Nat → Nat → Bool) : TT := fun σ H Q => ∃ r R i d, σ[0]? = some (some (.ref r)) ∧ RdAt C H r R i d ∧ Q (g R i d) H
section
variable {X : Cx} {C SP fI : Addr} {o : Expr} {pos : Pos}
theorem pe_at (T : Rx X.K X.mg C SP fI) (ho : PE X o (tVar 0)) (hb : attributeBase o "at" X.env (eval o X.env) = eval o X.env := by rfl) : PE X (.Attribute o "at" pos) (tRd C fun _ i _ => .int (i : Int)) :=
  pe_w (pe_fld ho hb) fun σ H Q ⟨r, R, i, d, hs, h, q⟩ => ⟨_, hs, r, C, R.dx, _, _, rfl, h.obj, T.cls, T.nAt, rfl, q⟩
theorem pe_text (T : Rx X.K X.mg C SP fI) (ho : PE X o (tVar 0)) (hb : attributeBase o "text" X.env (eval o X.env) = eval o X.env := by rfl) : PE X (.Attribute o "text" pos) (tRd C fun R _ _ => .str (tx R.l)) :=
  pe_w (pe_fld ho hb) fun σ H Q ⟨r, R, i, d, hs, h, q⟩ => ⟨_, hs, r, C, R.dx, _, _, rfl, h.obj, T.cls, T.nText, rfl, q⟩
theorem pe_toks (T : Rx X.K X.mg C SP fI) (ho : PE X o (tVar 0)) (hb : attributeBase o "tokens" X.env (eval o X.env) = eval o X.env := by rfl) : PE X (.Attribute o "tokens" pos) (tRd C fun R _ _ => .ref R.tl) :=
  pe_w (pe_fld ho hb) fun σ H Q ⟨r, R, i, d, hs, h, q⟩ => ⟨_, hs, r, C, R.dx, _, _, rfl, h.obj, T.cls, T.nTokens, rfl, q⟩
theorem pe_depth (T : Rx X.K X.mg C SP fI) (ho : PE X o (tVar 0)) (hb : attributeBase o "depth" X.env (eval o X.env) = eval o X.env := by rfl) : PE X (.Attribute o "depth" pos) (tRd C fun _ _ d => .int (d : Int)) :=
  pe_w (pe_fld ho hb) fun σ H Q ⟨r, R, i, d, hs, h, q⟩ => ⟨_, hs, r, C, R.dx, _, _, rfl, h.obj, T.cls, T.nDepth, rfl, q⟩
/-- len(self.tokens) -/
theorem pe_many {p2 p3 : Pos} (T : Rx X.K X.mg C SP fI) (ho : PE X o (tVar 0)) (hg : Gl X "len" := by rfl) (he : starEach [.Attribute o "tokens" pos] X.env = (false, eval (.Attribute o "tokens" pos) X.env) :: starEach [] X.env := by rfl)
    (hb : attributeBase o "tokens" X.env (eval o X.env) = eval o X.env := by rfl) : PE X (.Call (.Name "len" p2) [.Attribute o "tokens" pos] [] p3) (tRd C fun R _ _ => .int (R.ts.length : Int)) :=
  pe_w (pe_callB call_len_seq hg T.tx.len boot_len (pa_cons (pe_toks T ho hb) pa_nil he) (by decide) (by decide) he rfl) fun σ H Q ⟨r, R, i, d, hs, h, q⟩ => ⟨r, R, i, d, hs, h, R.tl, _, rfl, .inl h.seq, by rw [h.len]; exact q⟩
/-- self.at < len(self.tokens), self.at >= .. -/
theorem pe_ge {p2 p3 p4 : Pos} {pos2 : Pos} (T : Rx X.K X.mg C SP fI) (h1 : PE X o (tRd C fun _ i _ => .int (i : Int))) {e2 : Expr} (h2 : PE X e2 (tRd C fun R _ _ => .int (R.ts.length : Int))) : PE X (.Compare o [.GtE] [e2] pos) (tRd C fun R i _ => .bl (decide (R.ts.length ≤ i))) :=
  pe_w (pe_cmpR op_ge h1 h2 (nomark _)) fun σ H Q ⟨r, R, i, d, hs, h, q⟩ => ⟨r, R, i, d, hs, h, r, R, i, d, hs, h, _, _, rfl, rfl, by
    have e : decide ((R.ts.length : Int) ≤ (i : Int)) = decide (R.ts.length ≤ i) := by
      by_cases c : R.ts.length ≤ i
      · rw [decide_eq_true c, decide_eq_true (by omega)]
      · rw [decide_eq_false c, decide_eq_false (by omega)]
    show Q (.bl (decide ((R.ts.length : Int) ≤ (i : Int)))) H
    rw [e]
    exact q⟩
theorem pt_lt {e2 : Expr} (h1 : PE X o (tRd C fun _ i _ => .int (i : Int))) (h2 : PE X e2 (tRd C fun R _ _ => .int (R.ts.length : Int))) : PT X (.Compare o [.Lt] [e2] pos) (tRdB C fun R i _ => decide (i < R.ts.length)) :=
  pt_w (pt_cmpR op_lt h1 h2 (nomark _)) fun σ H Q ⟨r, R, i, d, hs, h, q⟩ => ⟨r, R, i, d, hs, h, r, R, i, d, hs, h, _, _, rfl, rfl, _, rfl, by
    have e : decide ((i : Int) < (R.ts.length : Int)) = decide (i < R.ts.length) := by
      by_cases c : i < R.ts.length
      · rw [decide_eq_true c, decide_eq_true (by omega)]
      · rw [decide_eq_false c, decide_eq_false (by omega)]
    rw [e]
    exact q⟩
/-- the k-th part of the token that stands next -/
def tTok (C : Addr) (k : Nat) : TE := fun σ H Q => ∃ r R i d t v, σ[0]? = some (some (.ref r)) ∧ RdAt C H r R i d ∧ R.ts[i]? = some t ∧ ([.str (Str.ofString t.1), .int (t.2.1 : Int), .int (t.2.2 : Int)] : List V)[k]? = some v ∧ Q v H
theorem pe_tok {k : Nat} {a b c : Expr} {p1 p2 : Pos} (h1 : PE X a (tRd C fun R _ _ => .ref R.tl)) (h2 : PE X b (tRd C fun _ i _ => .int (i : Int))) (h3 : PE X c (tC (.int (k : Int)))) (s1 : PlainIx b) (s2 : PlainIx c) : PE X (.Subscript (.Subscript a b p1) c p2) (tTok C k) :=
  pe_w (pe_ix ix_tup (pe_ix ix_list h1 h2 s1) h3 s2) fun σ H Q ⟨r, R, i, d, t, v, hs, h, ht, hv, q⟩ => by
    obtain ⟨x, e1, e2⟩ := h.at_ ht
    exact ⟨r, R, i, d, hs, h, r, R, i, d, hs, h, R.tl, _, i, .ref x, rfl, rfl, h.seq, atI_nat e1, x, _, k, v, rfl, rfl, SqT.of e2, atI_nat hv, q⟩
end
/-- self.m() -/
def tSM {α : Type} (C SP : Addr) (val : α → V → Hp → Prop) (p : P α) (E : XK) : TE := fun σ H Q => ∃ r R i d, σ[0]? = some (some (.ref r)) ∧ RdAt C H r R i d ∧ Out C SP r R d H val Q E (run R.ks p i)
/-- .. of any promise over the reader -/
def spG (C : Addr) (Φ : Addr → Rdr → Nat → Nat → Hp → VK → XK → Prop) : Sp := fun vs H Q E => ∃ (r : Addr) (R : Rdr) (i d : Nat), vs = [.ref r] ∧ RdAt C H r R i d ∧ Φ r R i d H Q E
def tG (C : Addr) (Φ : Addr → Rdr → Nat → Nat → Hp → VK → XK → Prop) (E : XK) : TE := fun σ H Q => ∃ r R i d, σ[0]? = some (some (.ref r)) ∧ RdAt C H r R i d ∧ Φ r R i d H Q E
/-- self.need(..) -/
def ΦNeed (SP r : Addr) (R : Rdr) (i : Nat) (b : Bool) (H : Hp) (Q : VK) (E : XK) : Prop := (b = true → Q .non H) ∧ (b = false → ∀ dd H', Same H H' → ErrAt H' dd R i → E (.ref SP) (some dd) H')
def spNeed (C SP : Addr) : Sp := fun vs H Q E => ∃ (r : Addr) (R : Rdr) (i d : Nat) (b : Bool), vs = [.ref r, .bl b] ∧ RdAt C H r R i d ∧ ΦNeed SP r R i b H Q E
def tNeed (C SP : Addr) (ta : TE) (E : XK) : TE := fun σ H Q => ∃ r R i d, σ[0]? = some (some (.ref r)) ∧ RdAt C H r R i d ∧ ta σ H fun y H2 => spNeed C SP [.ref r, y] H2 Q E
/-- self.m('e') -/
def tSM1 {α : Type} (C SP : Addr) (val : α → V → Hp → Prop) (p : P α) (E : XK) : TE := tSM C SP val p E
def NoM (m : Str) : Prop := ∀ R i d, (rfs R i d).lookup m = none
section
variable {X : Cx} {CX : CXT} {α : Type} {C SP : Addr} {k j d n : Nat} {E : XK} {val : α → V → Hp → Prop} {p : P α} {f : Str → P α} {m e : Str} {o a : Expr} {pos apos : Pos}
theorem pe_sm {pl : Sem Bool} (c : Mt X.prog X.w X.K X.mg X.base CX C k m ["self"] (spM C SP val p)) (no : NoM m) (hr : Room j X.A) (hk : k ≤ j) (hx : Passes CX X E) (ho : PE X o (tVar 0)) (ht : eval (.Call (.Attribute o m apos) [] [] pos) X.env = (do
      let v ← eval o X.env; standAt apos.atName; let (f, first) ← holding [v] (getMethod v m pl); callWith pos f first (backTo pos (starEach [] X.env)) (backToKw pos (keywordEach [] X.env))) := by rfl) : PE X (.Call (.Attribute o m apos) [] [] pos) (tSM C SP val p E) :=
  pe_w (pe_m0 c hr hk hx ho ht) fun σ H Q ⟨r, R, i, d, hs, h, q⟩ => ⟨_, hs, r, R.dx, _, rfl, h.obj, no R i d, r, R, i, d, rfl, h, q⟩
theorem pe_sg {pl : Sem Bool} {Φ : Addr → Rdr → Nat → Nat → Hp → VK → XK → Prop} (c : Mt X.prog X.w X.K X.mg X.base CX C k m ["self"] (spG C Φ)) (no : NoM m) (hr : Room j X.A) (hk : k ≤ j) (hx : Passes CX X E) (ho : PE X o (tVar 0)) (ht : eval (.Call (.Attribute o m apos) [] [] pos) X.env = (do
      let v ← eval o X.env; standAt apos.atName; let (f, first) ← holding [v] (getMethod v m pl); callWith pos f first (backTo pos (starEach [] X.env)) (backToKw pos (keywordEach [] X.env))) := by rfl) : PE X (.Call (.Attribute o m apos) [] [] pos) (tG C Φ E) :=
  pe_w (pe_m0 c hr hk hx ho ht) fun σ H Q ⟨r, R, i, d, hs, h, q⟩ => ⟨_, hs, r, R.dx, _, rfl, h.obj, no R i d, r, R, i, d, rfl, h, q⟩
theorem pe_need {pl : Sem Bool} {ta : TE} (c : Mt X.prog X.w X.K X.mg X.base CX C k m ["self", "condition"] (spNeed C SP)) (no : NoM m) (hr : Room j X.A) (hk : k ≤ j) (hx : Passes CX X E) (ho : PE X o (tVar 0)) (ha : PE X a ta)
    (hst : starEach [a] X.env = (false, eval a X.env) :: starEach [] X.env := by rfl) (ht : eval (.Call (.Attribute o m apos) [a] [] pos) X.env = (do
      let v ← eval o X.env; standAt apos.atName; let (f, first) ← holding [v] (getMethod v m pl); callWith pos f first (backTo pos (starEach [a] X.env)) (backToKw pos (keywordEach [] X.env))) := by rfl) :
    PE X (.Call (.Attribute o m apos) [a] [] pos) (tNeed C SP ta E) :=
  pe_w (pe_m c hr hk hx ho (pa_cons ha pa_nil hst) hst rfl ht) fun σ H Q ⟨r, R, i, d, hs, h, q⟩ => ⟨_, hs, r, R.dx, _, rfl, h.obj, no R i d, q⟩
theorem pe_sm3 {pl : Sem Bool} (c : Mt3 X.prog X.w X.K X.mg X.base CX C k m ["self"] (spD C SP val p n)) (no : NoM m) (hr : RoomD k X.A) (hx : Passes CX X E) (ho : PE X o (tVar 0)) (ht : eval (.Call (.Attribute o m apos) [] [] pos) X.env = (do
      let v ← eval o X.env; standAt apos.atName; let (f, first) ← holding [v] (getMethod v m pl); callWith pos f first (backTo pos (starEach [] X.env)) (backToKw pos (keywordEach [] X.env))) := by rfl) :
    PE X (.Call (.Attribute o m apos) [] [] pos) (fun σ H Q => ∃ r R i d, d + n = 30 ∧ σ[0]? = some (some (.ref r)) ∧ RdAt C H r R i d ∧ Out C SP r R d H val Q E (run R.ks p i)) :=
  pe_w (pe_m30 c hr hx ho ht) fun σ H Q ⟨r, R, i, d, hd, hs, h, q⟩ => ⟨_, hs, r, R.dx, _, rfl, h.obj, no R i d, r, R, i, d, rfl, hd, h, q⟩
theorem pe_sm1 {pl : Sem Bool} {pe : Pos} {je : Nat} (c : Mt X.prog X.w X.K X.mg X.base CX C k m ["self", "expected"] (spM1 C SP val f)) (no : NoM m) (ne : e ≠ Str.ofString "") (hr : Room j X.A) (hk : k ≤ j) (hx : Passes CX X E) (ho : PE X o (tVar 0))
    (hst : starEach [.Constant (.str e) je pe] X.env = (false, eval (.Constant (.str e) je pe) X.env) :: starEach [] X.env := by rfl) (ht : eval (.Call (.Attribute o m apos) [.Constant (.str e) je pe] [] pos) X.env = (do
      let v ← eval o X.env; standAt apos.atName; let (f, first) ← holding [v] (getMethod v m pl); callWith pos f first (backTo pos (starEach [.Constant (.str e) je pe] X.env)) (backToKw pos (keywordEach [] X.env))) := by rfl) :
    PE X (.Call (.Attribute o m apos) [.Constant (.str e) je pe] [] pos) (tSM C SP val (f e) E) :=
  pe_w (pe_m c hr hk hx ho (pa_cons pe_str pa_nil hst) hst rfl ht) fun σ H Q ⟨r, R, i, d, hs, h, q⟩ => ⟨_, hs, r, R.dx, _, rfl, h.obj, no R i d, r, R, i, d, e, rfl, ne, h, q⟩
end
theorem kd_none {l : List Nat} {i : Nat} (h : ¬ i < (lex l 0).length) : kdAt (kinds l) i = (Str.ofString "", Str.ofString "") := by
  unfold kdAt
  rw [List.getElem?_eq_none (by rw [kinds_len]; omega)]
  rfl
theorem kd_some {l : List Nat} {i : Nat} {t : Tk} (h : (lex l 0)[i]? = some t) : kdAt (kinds l) i = kdOf l t := by
  unfold kdAt kinds
  rw [List.getElem?_map, h]
  rfl
theorem tk_get {ts : List Tk} {i : Nat} (h : i < ts.length) : ∃ t, ts[i]? = some t := ⟨ts[i], List.getElem?_eq_getElem h⟩
end K10
/-! The reader's small methods. -/
namespace K10
open PySem PySem.Spec PyProof.Rows L2
section
variable {P : Program} {w : World} {K : PySem.W.Frag} {mg : Str → Option Value} {base : Heap} {C SP fI : Addr}
abbrev FnM (K : PySem.W.Frag) (x qual : Str) (st : Stmt) (f : Addr) (fd : FuncData) : Prop := FunD K x qual (defArgs st) (defBody st) (defScope st) [] [] f fd
/-! ### the exception's __init__ -/
def spInit (SP : Addr) : Sp := fun vs H Q _ => ∃ (a : Addr) (s e : Int), vs = [.ref a, .int s, .int e] ∧ H a = some (exo a SP none) ∧
  ∀ dx, H dx = none → dx ≠ a → Q .non (upd (upd (upd H dx (exd dx [("start", .int s)])) a (exo a SP (some dx))) dx (exd dx [("end", .int e), ("start", .int s)]))
theorem ok_sp_init (T : Rx K mg C SP fI) {f : Addr} {fd : FuncData} (F : FnM K "__init__" "SyntaxProblem.__init__" s_sp_init f fd) : FnOk P w K mg base CX0 1 f fd ["self", "start", "end"] (spInit SP) := by
  refine F.ok c_sp_init (fun vs H Q E h => ?_) (fun cdv A outer s H vs Q E hr h => ?_)
  · obtain ⟨a, b, c, rfl, _⟩ := h
    rfl
  obtain ⟨a, b, c, rfl, ha, q⟩ := h
  refine ⟨_, PSs.nox (pss_cons (ps_ost (pv 0) (pv 1)) (pss_one (ps_ost (pv 0) (pv 2)))), ?_⟩
  refine ⟨_, rfl, _, rfl, a, SP, rfl, T.oex, T.nStart, .inl ⟨ha, fun dx h1 h2 => ?_⟩⟩
  refine ⟨_, rfl, _, rfl, a, SP, rfl, T.oex, T.nEnd, .inr ⟨dx, _, upd_same, by rw [upd_ne h2]; exact upd_same, by show 1 ≤ 900; decide, q dx h1 h2⟩⟩
/-! ### place, need -/
def ΦPlace : Addr → Rdr → Nat → Nat → Hp → VK → XK → Prop := fun r R i d H Q _ => ∀ p H', Same H H' → H' p = some (.tup [.int ((plc R.ts i).1 : Int), .int ((plc R.ts i).2 : Int)]) → Q (.ref p) H'
theorem size2 : 2 ≤ sizeLine := by decide
theorem plc_some {ts : List Tk} {i : Nat} {t : Tk} (h : ts[i]? = some t) : plc ts i = (t.2.1, t.2.2) := by unfold plc; rw [h]
theorem plc_none {ts : List Tk} {i : Nat} {t : Tk} (h : ¬ i < ts.length) (hl : ts.getLast? = some t) : plc ts i = (t.2.2, t.2.2) := by
  unfold plc
  rw [List.getElem?_eq_none (by omega), hl]
theorem last_of {ts : List Tk} (h : ts ≠ []) : ∃ t, ts.getLast? = some t ∧ ts[ts.length - 1]? = some t := by
  refine ⟨ts.getLast h, List.getLast?_eq_some_getLast h, ?_⟩
  rw [← List.getLast?_eq_getElem?]
  exact List.getLast?_eq_some_getLast h
theorem RdAt.last {H : Hp} {r : Addr} {R : Rdr} {i d : Nat} (h : RdAt C H r R i d) {t : Tk} (e : R.ts[R.ts.length - 1]? = some t) : ∃ a, atI (R.as.map V.ref) (-1) = some (.ref a) ∧ H a = some (tkV t) := by
  obtain ⟨a, e1, e2⟩ := h.at_ e
  refine ⟨a, ?_, e2⟩
  have hn : 0 < R.ts.length := List.length_pos_iff.mpr h.ne
  have hl := h.len
  unfold atI ixN
  rw [hl, if_neg (by decide), if_pos (by omega)]
  have ej : ((-1 : Int) + (R.ts.length : Int)).toNat = R.ts.length - 1 := by omega
  rw [ej]
  exact e1
theorem ok_place (T : Rx K mg C SP fI) {f : Addr} {fd : FuncData} (F : FnM K "place" "Reader.place" s_r_place f fd) : FnOk P w K mg base CX0 1 f fd ["self"] (spG C ΦPlace) := by
  refine F.ok c_r_place (fun vs H Q E h => ?_) (fun cdv A outer s H vs Q E hr h => ?_)
  · obtain ⟨r, R, i, d, rfl, _⟩ := h
    rfl
  obtain ⟨r, R, i, d, rfl, hR, q⟩ := h
  refine ⟨_, PSs.nox (pss_cons (ps_if (pt_lt (pe_at T (pv 0)) (pe_many T (pv 0)))
      (pss_one (ps_ret (pe_tup (pa_cons (pe_tok (k := 1) (pe_toks T (pv 0)) (pe_at T (pv 0)) pe_int (fun _ _ => rfl) (fun _ _ => rfl)) (pa_cons (pe_tok (k := 2) (pe_toks T (pv 0)) (pe_at T (pv 0)) pe_int (fun _ _ => rfl) (fun _ _ => rfl)) pa_nil))))) pss_nil)
    (pss_cons (ps_if (pt_not (pt_truth (pe_toks T (pv 0)) (by intro _; rfl))) (pss_one (ps_ret (pe_tup (pa_cons pe_int (pa_cons pe_int pa_nil))))) pss_nil)
    (pss_one (ps_ret (pe_tup (pa_cons (pe_ix ix_tup (pe_ix ix_list (pe_toks T (pv 0)) (pe_un un_neg pe_int) (fun _ _ => rfl)) pe_int (fun _ _ => rfl)) (pa_cons (pe_ix ix_tup (pe_ix ix_list (pe_toks T (pv 0)) (pe_un un_neg pe_int) (fun _ _ => rfl)) pe_int (fun _ _ => rfl)) pa_nil))))))), ?_⟩
  refine ⟨r, R, i, d, rfl, hR, ?_⟩
  by_cases c : i < R.ts.length
  · refine iftt (decide_eq_true c) ?_
    obtain ⟨t, ht⟩ := tk_get c
    refine ⟨r, R, i, d, t, _, rfl, hR, ht, rfl, r, R, i, d, t, _, rfl, hR, ht, rfl, size2, fun p hp => q p _ (same_new (Same.refl H) hp _) ?_⟩
    rw [upd_same, plc_some ht]
  · refine iffF (decide_eq_false c) ?_
    obtain ⟨t, h1, h2⟩ := last_of hR.ne
    obtain ⟨a, e1, e2⟩ := hR.last h2
    have he : (R.as.map V.ref).isEmpty = false := by
      have := hR.len
      have hn : 0 < R.ts.length := List.length_pos_iff.mpr hR.ne
      cases e : R.as.map V.ref with
      | nil => rw [e] at this; simp at this; omega
      | cons _ _ => rfl
    refine ⟨r, R, i, d, rfl, hR, true, .inl ⟨_, hR.seq, by rw [he]; rfl⟩, iffF rfl ?_⟩
    refine ⟨r, R, i, d, rfl, hR, _, rfl, R.tl, _, _, _, rfl, rfl, hR.seq, e1, a, _, 2, _, rfl, rfl, SqT.of e2, rfl, ?_⟩
    refine ⟨r, R, i, d, rfl, hR, _, rfl, R.tl, _, _, _, rfl, rfl, hR.seq, e1, a, _, 2, _, rfl, rfl, SqT.of e2, rfl, ?_⟩
    refine ⟨size2, fun p hp => q p _ (same_new (Same.refl H) hp _) ?_⟩
    rw [upd_same, plc_none c h1]
theorem noM_place : NoM "place" := fun R i d => rfs_no R i d (by decide +kernel) (by decide +kernel) (by decide +kernel) (by decide +kernel)
/-- the error that is made: what stands behind it -/
theorem ok_need (T : Rx K mg C SP fI) {f : Addr} {fd fdI : FuncData} (F : FnM K "need" "Reader.need" s_r_need f fd) (GI : FnOk P w K mg base CX0 1 fI fdI ["self", "start", "end"] (spInit SP)) (bI : Binds K fdI ["self", "start", "end"] [])
    (GP : Mt P w K mg base CX0 C 1 "place" ["self"] (spG C ΦPlace)) : FnOk P w K mg base (L2.CX P w) 3 f fd ["self", "condition"] (spNeed C SP) := by
  refine F.ok c_r_need (fun vs H Q E h => ?_) (fun cdv A outer s H vs Q E hr h => ?_)
  · obtain ⟨r, R, i, d, b, rfl, _⟩ := h
    rfl
  obtain ⟨r, R, i, d, b, rfl, hR, q1, q2⟩ := h
  refine ⟨_, pss_one (ps_if (pt_not (pt_val (pv 1)))
    (pss_cons (ps_asg (pe_sg GP noM_place hr (by decide) pass0 (pv 0)) (pg_tup (n := 2) rfl (pgs_cons (pg_name (i := 2) c_r_need.nd rfl (Or.inl rfl)) (pgs_cons (pg_name (i := 3) c_r_need.nd rfl (Or.inl rfl)) pgs_nil))))
      (pss_one (ps_raise rfl (takes_of rfl rfl rfl rfl) (pmk_oex (dvs := []) T.oex T.init T.tInit GI hr bI .nil pass0 (by rfl) T.gSP (pa_cons (pv 2) (pa_cons (pv 3) pa_nil)))))) pss_nil), ?_⟩
  refine ⟨_, rfl, b, rfl, ?_⟩
  cases b with
  | true => exact iffF rfl (q1 rfl)
  | false =>
    refine iftt rfl ?_
    refine ⟨r, R, i, d, rfl, hR, fun p H1 s1 hp => ?_⟩
    refine ⟨p, _, rfl, SqT.of hp, rfl, _, _, rfl, _, _, rfl, rfl, ?_⟩
    refine ⟨_, rfl, _, rfl, by show 2 ≤ 1000; decide, fun a ha => ?_⟩
    refine ⟨a, _, _, rfl, upd_same, fun dx hdx ne => ⟨rfl, dx, [("end", .int ((plc R.ts i).2 : Int)), ("start", .int ((plc R.ts i).1 : Int))], ?_, ?_, ?_, ?_⟩⟩
    · rw [upd_ne (Ne.symm ne), upd_same]
    · exact upd_same
    · rw [upd_ne ne] at hdx
      exact hdx
    · rw [upd_ne ne] at hdx
      refine q2 rfl dx _ (fun x o e => ?_) upd_same
      have e1 := s1 _ _ e
      have n1 : x ≠ dx := ne_of_none e1 hdx
      have n2 : x ≠ a := ne_of_none e1 ha
      rw [upd_ne n1, del_ne n2, upd_ne n1, upd_ne n2, upd_ne n1, upd_ne n2]
      exact e1
end
end K10
/-! The reader's small methods, further. -/
namespace K10
open PySem PySem.Spec PyProof.Rows L2
theorem tokS_cases (l : List Nat) : tokS l = "word" ∨ tokS l = "name" ∨ tokS l = "number" ∨ tokS l = "sign" ∨ tokS l = "wrong" := by
  cases l with
  | nil => exact .inr (.inr (.inr (.inr rfl)))
  | cons c r =>
    rw [tokS_cons]
    split
    · split
      · exact .inl rfl
      · exact .inr (.inl rfl)
    · split
      · exact .inr (.inr (.inl rfl))
      · split
        · exact .inr (.inr (.inr (.inl rfl)))
        · split
          · exact .inr (.inr (.inr (.inl rfl)))
          · exact .inr (.inr (.inr (.inr rfl)))
theorem lex_sort (l : List Nat) : ∀ (o : Nat) (t : Tk), t ∈ lex l o → t.1 = "word" ∨ t.1 = "name" ∨ t.1 = "number" ∨ t.1 = "sign" ∨ t.1 = "wrong" := by
  refine lex_ind (M := fun l => ∀ (o : Nat) (t : Tk), t ∈ lex l o → t.1 = "word" ∨ t.1 = "name" ∨ t.1 = "number" ∨ t.1 = "sign" ∨ t.1 = "wrong") ?_ ?_ ?_ ?_ l.length l (Nat.le_refl _)
  · intro o t h
    rw [lex_nil] at h
    cases h
  · intro c r a ih o t h
    rw [lex_sp a] at h
    exact ih _ _ h
  · intro r ih o t h
    rw [lex_com] at h
    exact ih _ _ h
  · intro c r a b ih o t h
    rw [lex_tok a b] at h
    rcases List.mem_cons.mp h with e | h
    · rw [e]
      exact tokS_cases (c :: r)
    · exact ih _ _ h
theorem S_def (s : String) : S s = Str.ofString s := rfl
theorem kd_in {ks : List Kd} {i : Nat} {e : Str} (h : (kdAt ks i).2 = e) (ne : e ≠ Str.ofString "") : i < ks.length := by
  by_cases c : i < ks.length
  · exact c
  · unfold kdAt at h
    rw [List.getElem?_eq_none (by omega)] at h
    exact absurd h.symm ne
theorem kd_in1 {ks : List Kd} {i : Nat} {e : Str} (h : (kdAt ks i).1 = e) (ne : e ≠ Str.ofString "") : i < ks.length := by
  by_cases c : i < ks.length
  · exact c
  · unfold kdAt at h
    rw [List.getElem?_eq_none (by omega)] at h
    exact absurd h.symm ne
theorem take_yes {ks : List Kd} {i : Nat} {e : Str} (h : (kdAt ks i).2 = e) (hi : i < ks.length) : run ks (takeP e) i = (some (), i + 1) := by
  show run ks (if (kdAt ks i).2 = e then P.adv (P.ret ()) else P.fail) i = _
  rw [if_pos h, run_adv hi]
  rfl
theorem take_no {ks : List Kd} {i : Nat} {e : Str} (h : ¬ (kdAt ks i).2 = e) : run ks (takeP e) i = (none, i) := by
  show run ks (if (kdAt ks i).2 = e then P.adv (P.ret ()) else P.fail) i = _
  rw [if_neg h]
  rfl
theorem try_yes {ks : List Kd} {i : Nat} {e : Str} (h : (kdAt ks i).2 = e) (hi : i < ks.length) : run ks (tryP e) i = (some true, i + 1) := by
  show run ks (if (kdAt ks i).2 = e then P.adv (P.ret true) else P.ret false) i = _
  rw [if_pos h, run_adv hi]
  rfl
theorem try_no {ks : List Kd} {i : Nat} {e : Str} (h : ¬ (kdAt ks i).2 = e) : run ks (tryP e) i = (some false, i) := by
  show run ks (if (kdAt ks i).2 = e then P.adv (P.ret true) else P.ret false) i = _
  rw [if_neg h]
  rfl
theorem mark_yes {ks : List Kd} {i : Nat} (h : (kdAt ks i).1 = S "name") (hi : i < ks.length) : run ks markP i = (some (), i + 1) := by
  show run ks (if (kdAt ks i).1 = S "name" then P.adv (P.ret ()) else P.fail) i = _
  rw [if_pos h, run_adv hi]
  rfl
theorem mark_no {ks : List Kd} {i : Nat} (h : ¬ (kdAt ks i).1 = S "name") : run ks markP i = (none, i) := by
  show run ks (if (kdAt ks i).1 = S "name" then P.adv (P.ret ()) else P.fail) i = _
  rw [if_neg h]
  rfl
theorem dec_str (a b : Str) : decide (V.str a = V.str b) = decide (a = b) := by
  by_cases h : a = b
  · rw [h, decide_eq_true rfl, decide_eq_true rfl]
  · rw [decide_eq_false h]
    exact decide_eq_false fun e => h (V.str.inj e)
section
variable {P : Program} {w : World} {K : PySem.W.Frag} {mg : Str → Option Value} {base : Heap} {C SP fI : Addr}
/-- what stands now: the sort, the word or sign -/
def ΦSort : Addr → Rdr → Nat → Nat → Hp → VK → XK → Prop := fun r R i d H Q _ => ∀ H', Same H H' → Q (.str (kdAt R.ks i).1) H'
def ΦFixed : Addr → Rdr → Nat → Nat → Hp → VK → XK → Prop := fun r R i d H Q _ => ∀ H', Same H H' → Q (.str (kdAt R.ks i).2) H'
theorem ok_sort_now (T : Rx K mg C SP fI) {f : Addr} {fd : FuncData} (F : FnM K "sort_now" "Reader.sort_now" s_r_sort_now f fd) : FnOk P w K mg base CX0 1 f fd ["self"] (spG C ΦSort) := by
  refine F.ok c_r_sort_now (fun vs H Q E h => ?_) (fun cdv A outer s H vs Q E hr h => ?_)
  · obtain ⟨r, R, i, d, rfl, _⟩ := h
    rfl
  obtain ⟨r, R, i, d, rfl, hR, q⟩ := h
  refine ⟨_, PSs.nox (pss_cons (ps_if (pt_lt (pe_at T (pv 0)) (pe_many T (pv 0))) (pss_one (ps_ret (pe_tok (k := 0) (pe_toks T (pv 0)) (pe_at T (pv 0)) pe_int (fun _ _ => rfl) (fun _ _ => rfl)))) pss_nil) (pss_one (ps_ret pe_str))), ?_⟩
  refine ⟨r, R, i, d, rfl, hR, ?_⟩
  by_cases c : i < R.ts.length
  · refine iftt (decide_eq_true c) ?_
    obtain ⟨t, ht⟩ := tk_get c
    have q' := q H (Same.refl H)
    rw [kd_some ht] at q'
    exact ⟨r, R, i, d, t, _, rfl, hR, ht, rfl, q'⟩
  · refine iffF (decide_eq_false c) ?_
    have q' := q H (Same.refl H)
    rw [kd_none c] at q'
    exact q'
theorem noM_sort : NoM "sort_now" := fun R i d => rfs_no R i d (by decide +kernel) (by decide +kernel) (by decide +kernel) (by decide +kernel)
theorem ok_fixed (T : Rx K mg C SP fI) {f : Addr} {fd : FuncData} (F : FnM K "fixed" "Reader.fixed" s_r_fixed f fd) (GS : Mt P w K mg base CX0 C 1 "sort_now" ["self"] (spG C ΦSort)) (GP : Mt P w K mg base CX0 C 1 "place" ["self"] (spG C ΦPlace)) :
    FnOk P w K mg base CX0 2 f fd ["self"] (spG C ΦFixed) := by
  refine F.ok c_r_fixed (fun vs H Q E h => ?_) (fun cdv A outer s H vs Q E hr h => ?_)
  · obtain ⟨r, R, i, d, rfl, _⟩ := h
    rfl
  obtain ⟨r, R, i, d, rfl, hR, q⟩ := h
  refine ⟨_, PSs.nox (pss_cons (ps_if (PW.pt (pw_or (pt_cmpR op_eq (pe_sg GS noM_sort hr (by decide) pass0 (pv 0)) pe_str (nomark _)) (pw_or1 (pt_cmpR op_eq (pe_sg GS noM_sort hr (by decide) pass0 (pv 0)) pe_str (nomark _)))))
      (pss_cons (ps_asg (pe_sg GP noM_place hr (by decide) pass0 (pv 0)) (pg_tup (n := 2) rfl (pgs_cons (pg_name (i := 1) c_r_fixed.nd rfl (Or.inl rfl)) (pgs_cons (pg_name (i := 2) c_r_fixed.nd rfl (Or.inl rfl)) pgs_nil))))
        (pss_one (ps_ret (pe_slice sl_str (pe_text T (pv 0)) (po_some (pv 1)) (po_some (pv 2)))))) pss_nil) (pss_one (ps_ret pe_str))), ?_⟩
  refine ⟨r, R, i, d, rfl, hR, fun H1 s1 => ⟨rfl, _, rfl, ?_⟩⟩
  rw [dec_str]
  have fin : ∀ H1, Same H H1 → ∀ t, R.ts[i]? = some t → (t.1 = "word" ∨ t.1 = "sign") →
      tSeq (tAsg (tG C ΦPlace (fun _ _ _ => False)) (gTup K 2 (gCons (gName 1) (gCons (gName 2) gNil)))) (tRet (tSl rSlS (tRd C fun R _ _ => .str (tx R.l)) (tPart (tVar 1)) (tPart (tVar 2)))) { nx := fun σ H' => (tRet (tC (.str (Str.ofString "")))) { nx := fun _ H' => Q .non H', rt := Q } σ H', rt := Q } [some (.ref r), none, none] H1 := by
    intro H1 s1 t ht hs
    refine ⟨r, R, i, d, rfl, hR.same s1, fun p H2 s2 hp => ?_⟩
    refine ⟨p, _, rfl, SqT.of hp, rfl, _, _, rfl, _, _, rfl, rfl, ?_⟩
    have hR2 := hR.same (s1.trans s2)
    refine ⟨r, R, i, d, rfl, hR2, _, rfl, _, rfl, _, rfl, _, rfl, _, rfl, line_of hR.short, ?_⟩
    have q' := q H2 (s1.trans s2)
    rw [kd_some ht] at q'
    have e : (kdOf R.l t).2 = tx ((R.l.drop t.2.1).take (t.2.2 - t.2.1)) := by
      unfold kdOf
      rw [if_pos hs]
    rw [e] at q'
    rw [plc_some ht, cut_tx]
    exact q'
  by_cases c : i < R.ts.length
  · obtain ⟨t, ht⟩ := tk_get c
    have e1 : (kdAt R.ks i).1 = Str.ofString t.1 := by rw [kd_some ht]; rfl
    rcases lex_sort R.l 0 t (List.mem_of_getElem? ht) with z | z | z | z | z
    · rw [e1, z]
      exact iftt (by decide +kernel) (iftt rfl (fin H1 s1 t ht (.inl z)))
    all_goals (rw [e1, z])
    all_goals refine iffF (by decide +kernel) ?_
    all_goals refine ⟨r, R, i, d, rfl, hR.same s1, fun H2 s2 => ⟨rfl, _, rfl, ?_⟩⟩
    all_goals rw [dec_str, e1, z]
    · refine iffF (by decide +kernel) ?_
      have q' := q H2 (s1.trans s2)
      rw [kd_some ht] at q'
      unfold kdOf at q'
      rw [z, if_neg (by decide)] at q'
      exact q'
    · refine iffF (by decide +kernel) ?_
      have q' := q H2 (s1.trans s2)
      rw [kd_some ht] at q'
      unfold kdOf at q'
      rw [z, if_neg (by decide)] at q'
      exact q'
    · exact iftt (by decide +kernel) (fin H2 (s1.trans s2) t ht (.inr z))
    · refine iffF (by decide +kernel) ?_
      have q' := q H2 (s1.trans s2)
      rw [kd_some ht] at q'
      unfold kdOf at q'
      rw [z, if_neg (by decide)] at q'
      exact q'
  · have e1 : kdAt R.ks i = (Str.ofString "", Str.ofString "") := kd_none c
    rw [e1]
    refine iffF (by decide +kernel) ?_
    refine ⟨r, R, i, d, rfl, hR.same s1, fun H2 s2 => ⟨rfl, _, rfl, ?_⟩⟩
    rw [dec_str, e1]
    refine iffF (by decide +kernel) ?_
    have q' := q H2 (s1.trans s2)
    rw [e1] at q'
    exact q'
theorem noM_fixed : NoM "fixed" := fun R i d => rfs_no R i d (by decide +kernel) (by decide +kernel) (by decide +kernel) (by decide +kernel)
theorem noM_need : NoM "need" := fun R i d => rfs_no R i d (by decide +kernel) (by decide +kernel) (by decide +kernel) (by decide +kernel)
/-- the end of the token that was taken last -/
def ΦLast : Addr → Rdr → Nat → Nat → Hp → VK → XK → Prop := fun r R i d H Q _ => ∀ n : Int, Q (.int n) H
theorem ok_last_end (T : Rx K mg C SP fI) {f : Addr} {fd : FuncData} (F : FnM K "last_end" "Reader.last_end" s_r_last_end f fd) : FnOk P w K mg base CX0 1 f fd ["self"] (spG C ΦLast) := by
  refine F.ok c_r_last_end (fun vs H Q E h => ?_) (fun cdv A outer s H vs Q E hr h => ?_)
  · obtain ⟨r, R, i, d, rfl, _⟩ := h
    rfl
  obtain ⟨r, R, i, d, rfl, hR, q⟩ := h
  refine ⟨_, PSs.nox (pss_one (ps_ret (pe_ix ix_tup (pe_ix ix_list (pe_toks T (pv 0)) (pe_op op_sub (pe_at T (pv 0)) pe_int) (fun _ _ => rfl)) pe_int (fun _ _ => rfl)))), ?_⟩
  have key : ∃ a t, atI (R.as.map V.ref) ((i : Int) - 1) = some (.ref a) ∧ H a = some (tkV t) := by
    cases i with
    | zero =>
      obtain ⟨t, h1, h2⟩ := last_of hR.ne
      obtain ⟨a, e1, e2⟩ := hR.last h2
      exact ⟨a, t, e1, e2⟩
    | succ j =>
      obtain ⟨t, ht⟩ := tk_get (ts := R.ts) (i := j) (by have := hR.le; omega)
      obtain ⟨a, e1, e2⟩ := hR.at_ ht
      refine ⟨a, t, ?_, e2⟩
      have e : (((j + 1 : Nat) : Int) - 1) = (j : Int) := by omega
      rw [e]
      exact atI_nat e1
  obtain ⟨a, t, e1, e2⟩ := key
  exact ⟨r, R, i, d, rfl, hR, r, R, i, d, rfl, hR, _, _, rfl, rfl, R.tl, _, _, _, rfl, rfl, hR.seq, e1, a, _, 2, _, rfl, rfl, SqT.of e2, rfl, q _⟩
theorem noM_last : NoM "last_end" := fun R i d => rfs_no R i d (by decide +kernel) (by decide +kernel) (by decide +kernel) (by decide +kernel)
/-- self.at += 1 -/
theorem st_adv {C' : Addr} (T : Rx K mg C SP fI) {D : Ends} {σ : L2.St} {H : Hp} {r : Addr} {R : Rdr} {i d : Nat} (hs : σ[0]? = some (some (.ref r))) (hR : RdAt C H r R i d) (hi : i < R.ts.length)
    (q : D.nx σ (upd H r (.ins C R.dx (rfs R (i + 1) d)))) : sFldAug K (tVar 0) (tC (.int 1)) rAdd "at" D σ H :=
  ⟨_, hs, r, C, R.dx, _, _, rfl, hR.obj, T.cls, T.nAt, rfl, i, 1, rfl, rfl, R.dx, _, hR.obj, by show 4 < 1000; decide, q⟩
theorem ok_take (T : Rx K mg C SP fI) {f : Addr} {fd : FuncData} (F : FnM K "take" "Reader.take" s_r_take f fd) (GN : Mt P w K mg base (L2.CX P w) C 3 "need" ["self", "condition"] (spNeed C SP)) (GF : Mt P w K mg base CX0 C 2 "fixed" ["self"] (spG C ΦFixed)) :
    FnOk P w K mg base (L2.CX P w) 4 f fd ["self", "expected"] (spM1 C SP vNon takeP) := by
  refine F.ok c_r_take (fun vs H Q E h => ?_) (fun cdv A outer s H vs Q E hr h => ?_)
  · obtain ⟨r, R, i, d, e, rfl, _⟩ := h
    rfl
  obtain ⟨r, R, i, d, e, rfl, ne, hR, q⟩ := h
  refine ⟨_, pss_cons (ps_expr (pe_need GN noM_need hr (by decide) passE (pv 0) (pe_cmpR op_eq (pe_sg GF noM_fixed hr (by decide) pass0 (pv 0)) (pv 1) (nomark _)))) (pss_one (ps_fldaug (pv 0) pe_int in_add)), ?_⟩
  refine ⟨r, R, i, d, rfl, hR, r, R, i, d, rfl, hR, fun H1 s1 => ⟨_, rfl, rfl, ?_⟩⟩
  have hR1 := hR.same s1
  refine ⟨r, R, i, d, _, rfl, hR1, fun hb => ?_, fun hb => ?_⟩
  · rw [dec_str] at hb
    have hb := of_decide_eq_true hb
    have hi := kd_in hb ne
    rw [take_yes hb hi] at q
    have hi' : i < R.ts.length := by rw [← kinds_len]; exact hi
    refine st_adv (C' := C) T rfl hR1 hi' ?_
    exact q .non _ ((But.of s1).trans but_upd) (hR1.put hi') rfl
  · rw [dec_str] at hb
    have hb := of_decide_eq_false hb
    rw [take_no hb] at q
    exact fun dd H' s2 he => q dd H' (But.of (s1.trans s2)) he
theorem noM_take : NoM "take" := fun R i d => rfs_no R i d (by decide +kernel) (by decide +kernel) (by decide +kernel) (by decide +kernel)
theorem ok_try_take (T : Rx K mg C SP fI) {f : Addr} {fd : FuncData} (F : FnM K "try_take" "Reader.try_take" s_r_try_take f fd) (GF : Mt P w K mg base CX0 C 2 "fixed" ["self"] (spG C ΦFixed)) :
    FnOk P w K mg base CX0 3 f fd ["self", "expected"] (spM1 C SP vBool tryP) := by
  refine F.ok c_r_try_take (fun vs H Q E h => ?_) (fun cdv A outer s H vs Q E hr h => ?_)
  · obtain ⟨r, R, i, d, e, rfl, _⟩ := h
    rfl
  obtain ⟨r, R, i, d, e, rfl, ne, hR, q⟩ := h
  refine ⟨_, PSs.nox (pss_cons (ps_if (pt_cmpR op_ne (pe_sg GF noM_fixed hr (by decide) pass0 (pv 0)) (pv 1) (nomark _)) (pss_one (ps_ret pe_bl)) pss_nil) (pss_cons (ps_fldaug (pv 0) pe_int in_add) (pss_one (ps_ret pe_bl)))), ?_⟩
  refine ⟨r, R, i, d, rfl, hR, fun H1 s1 => ⟨_, rfl, rfl, _, rfl, ?_⟩⟩
  have hR1 := hR.same s1
  rw [dec_str]
  by_cases c : (kdAt R.ks i).2 = e
  · refine iffF (by rw [decide_eq_true c]; rfl) ?_
    have hi := kd_in c ne
    rw [try_yes c hi] at q
    have hi' : i < R.ts.length := by rw [← kinds_len]; exact hi
    refine st_adv (C' := C) T rfl hR1 hi' ?_
    exact q _ _ ((But.of s1).trans but_upd) (hR1.put hi') rfl
  · refine iftt (by rw [decide_eq_false c]; rfl) ?_
    rw [try_no c] at q
    exact q _ _ (But.of s1) hR1 rfl
theorem noM_try : NoM "try_take" := fun R i d => rfs_no R i d (by decide +kernel) (by decide +kernel) (by decide +kernel) (by decide +kernel)
theorem ok_mark (T : Rx K mg C SP fI) {f : Addr} {fd : FuncData} (F : FnM K "mark" "Reader.mark" s_r_mark f fd) (GN : Mt P w K mg base (L2.CX P w) C 3 "need" ["self", "condition"] (spNeed C SP)) (GS : Mt P w K mg base CX0 C 1 "sort_now" ["self"] (spG C ΦSort))
    (GP : Mt P w K mg base CX0 C 1 "place" ["self"] (spG C ΦPlace)) : FnOk P w K mg base (L2.CX P w) 4 f fd ["self"] (spM C SP vMark markP) := by
  refine F.ok c_r_mark (fun vs H Q E h => ?_) (fun cdv A outer s H vs Q E hr h => ?_)
  · obtain ⟨r, R, i, d, rfl, _⟩ := h
    rfl
  obtain ⟨r, R, i, d, rfl, hR, q⟩ := h
  refine ⟨_, pss_cons (ps_expr (pe_need GN noM_need hr (by decide) passE (pv 0) (pe_cmpR op_eq (pe_sg GS noM_sort hr (by decide) pass0 (pv 0)) pe_str (nomark _))))
    (pss_cons (ps_asg (pe_sg GP noM_place hr (by decide) pass0 (pv 0)) (pg_tup (n := 2) rfl (pgs_cons (pg_name (i := 1) c_r_mark.nd rfl (Or.inl rfl)) (pgs_cons (pg_name (i := 2) c_r_mark.nd rfl (Or.inl rfl)) pgs_nil))))
    (pss_cons (ps_fldaug (pv 0) pe_int in_add) (pss_one (ps_ret (pe_tup (pa_cons (pe_slice sl_str (pe_text T (pv 0)) (po_some (pv 1)) (po_some (pv 2))) (pa_cons (pv 1) pa_nil))))))), ?_⟩
  refine ⟨r, R, i, d, rfl, hR, r, R, i, d, rfl, hR, fun H1 s1 => ⟨rfl, ?_⟩⟩
  have hR1 := hR.same s1
  refine ⟨r, R, i, d, _, rfl, hR1, fun hb => ?_, fun hb => ?_⟩
  · rw [dec_str] at hb
    have hb := of_decide_eq_true hb
    have hi := kd_in1 hb (by decide +kernel)
    rw [mark_yes hb hi] at q
    have hi' : i < R.ts.length := by rw [← kinds_len]; exact hi
    refine ⟨r, R, i, d, rfl, hR1, fun p H2 s2 hp => ?_⟩
    refine ⟨p, _, rfl, SqT.of hp, rfl, _, _, rfl, _, _, rfl, rfl, ?_⟩
    have hR2 := hR1.same s2
    refine st_adv (C' := C) T rfl hR2 hi' ?_
    have hR3 := hR2.put (d' := d) (i' := i + 1) hi'
    refine ⟨r, R, i + 1, d, rfl, hR3, _, rfl, _, rfl, _, rfl, _, rfl, _, rfl, line_of hR.short, _, rfl, size2, fun p2 hp2 => ?_⟩
    exact q _ _ (((But.of (s1.trans s2)).trans but_upd).trans (But.of (same_new (Same.refl _) hp2 _))) (hR3.same (same_new (Same.refl _) hp2 _)) ⟨p2, _, _, rfl, upd_same⟩
  · rw [dec_str] at hb
    have hb := of_decide_eq_false hb
    rw [mark_no hb] at q
    exact fun dd H' s2 he => q dd H' (But.of (s1.trans s2)) he
theorem noM_mark : NoM "mark" := fun R i d => rfs_no R i d (by decide +kernel) (by decide +kernel) (by decide +kernel) (by decide +kernel)
end
end K10
/-! Lists with commas between, finish, fields, bound, begin. -/
namespace K10
open PySem PySem.Spec PyProof.Rows L2
theorem bind_assoc' {α β γ : Type} : ∀ (p : P α) (g : α → P β) (f : β → P γ), (p.bind g).bind f = p.bind fun a => (g a).bind f
  | .ret _, _, _ => rfl
  | .fail, _, _ => rfl
  | .look k, g, f => by
    show P.look (fun x => ((k x).bind g).bind f) = P.look fun x => (k x).bind fun a => (g a).bind f
    congr 1
    funext x
    exact bind_assoc' (k x) g f
  | .adv p, g, f => by
    show P.adv ((p.bind g).bind f) = P.adv (p.bind fun a => (g a).bind f)
    rw [bind_assoc' p g f]
theorem bind_ret' {α : Type} : ∀ p : P α, p.bind P.ret = p
  | .ret _ => rfl
  | .fail => rfl
  | .look k => by
    show P.look (fun x => (k x).bind P.ret) = P.look k
    congr 1
    funext x
    exact bind_ret' (k x)
  | .adv p => by
    show P.adv (p.bind P.ret) = P.adv p
    rw [bind_ret' p]
/-- the object p is another list than the reader's -/
theorem RdAt.off {C : Addr} {H H' : Hp} {r p : Addr} {R : Rdr} {i d : Nat} {xs : List V} (h : RdAt C H r R i d) (hp : H p = some (.lst xs)) (hn : p ≠ R.tl) (s : ∀ b o, b ≠ p → H b = some o → H' b = some o) : RdAt C H' r R i d :=
  ⟨s _ _ (ne_of h.obj hp (by intro z; cases z)) h.obj, s _ _ (Ne.symm hn) h.lst, h.tok.but (r := p) (fun ys z => by rw [hp] at z; cases z) s, h.le, h.ne, h.short, h.few⟩
theorem off_tl {C : Addr} {H0 : Hp} {r p : Addr} {R : Rdr} {i d : Nat} (h : RdAt C H0 r R i d) (hp : H0 p = none) : p ≠ R.tl := fun e => by
  rw [e, h.lst] at hp
  cases hp
theorem but_put {r p : Addr} {H0 H1 : Hp} {o : HO} (hb : But r H0 H1) (hp : H0 p = none) : But r H0 (upd H1 p o) := fun b u n e => by
  rw [upd_ne (ne_of_none e hp)]
  exact hb b u n e
theorem upd_stay {p : Addr} {H1 : Hp} {o : HO} : ∀ b u, b ≠ p → H1 b = some u → upd H1 p o b = some u := fun b u n e => by rw [upd_ne n]; exact e
section
variable {P : Program} {w : World} {K : PySem.W.Frag} {mg : Str → Option Value} {base : Heap} {C SP fI : Addr}
theorem try_step {β : Type} {r : Addr} {R : Rdr} {i d d1 : Nat} {H0 H1 : Hp} {val : β → V → Hp → Prop} {Q Q1 : VK} {E E1 : XK} {e : Str} {f : Bool → K10.P β} (ne : e ≠ Str.ofString "") (hb : But r H0 H1)
    (hq : Out C SP r R d H0 val Q E (run R.ks ((tryP e).bind f) i))
    (ky : ∀ H', (kdAt R.ks i).2 = e → But r H0 H' → But r H1 H' → RdAt C H' r R (i + 1) d1 → Out C SP r R d H0 val Q E (run R.ks (f true) (i + 1)) → Q1 (.bl true) H')
    (kn : ∀ H', ¬ (kdAt R.ks i).2 = e → But r H0 H' → But r H1 H' → RdAt C H' r R i d1 → Out C SP r R d H0 val Q E (run R.ks (f false) i) → Q1 (.bl false) H') : Out C SP r R d1 H1 vBool Q1 E1 (run R.ks (tryP e) i) := by
  rw [run_bind] at hq
  by_cases c : (kdAt R.ks i).2 = e
  · have hi := kd_in c ne
    rw [try_yes c hi] at hq ⊢
    intro v H' hb' hr hv
    rw [show v = .bl true from hv]
    exact ky H' c (hb.trans hb') hb' hr hq
  · rw [try_no c] at hq ⊢
    intro v H' hb' hr hv
    rw [show v = .bl false from hv]
    exact kn H' c (hb.trans hb') hb' hr hq
/-- while self.try_take(e): xs.append(self.m()) -/
theorem loop_more {β : Type} {r p : Addr} {R : Rdr} {i0 d0 i n d d1 k : Nat} {H0 H1 : Hp} {val : β → V → Hp → Prop} {val1 : Unit → V → Hp → Prop} {Q : VK} {E : XK} {e : Str} {pm : K10.P Unit} {f : Unit → K10.P β} {tm : TE} {xs : List V} {D : Ends} {σ : L2.St}
    (ne : e ≠ Str.ofString "") (hs0 : σ[0]? = some (some (.ref r))) (hsk : σ[k]? = some (some (.ref p))) (h0 : RdAt C H0 r R i0 d0) (hp : H0 p = none)
    (hb : But r H0 H1) (hR : RdAt C H1 r R i d1) (hl : H1 p = some (.lst xs)) (hx : xs.length ≤ i) (hn : R.ts.length < n + i)
    (hq : Out C SP r R d H0 val Q E (run R.ks ((moreP e pm n).bind f) i))
    (hm : ∀ (H : Hp) (j : Nat) (Q1 : VK), RdAt C H r R j d1 → Out C SP r R d1 H val1 Q1 E (run R.ks pm j) → tm σ H Q1)
    (done : ∀ (H' : Hp) (j : Nat) (ys : List V), But r H0 H' → RdAt C H' r R j d1 → H' p = some (.lst ys) → Out C SP r R d H0 val Q E (run R.ks (f ()) j) → D.nx σ H') :
    tWhile (tB (tSM C SP vBool (tryP e) E0)) (tDrop (tBM K "list" rAppend (tVar k) (tCons tm tNil))) D σ H1 := by
  refine ⟨fun m σ' H' => ∃ (j : Nat) (ys : List V), σ' = σ ∧ But r H0 H' ∧ RdAt C H' r R j d1 ∧ H' p = some (.lst ys) ∧ ys.length ≤ j ∧ R.ts.length < m + j ∧ Out C SP r R d H0 val Q E (run R.ks ((moreP e pm m).bind f) j),
    ⟨n, i, xs, rfl, hb, hR, hl, hx, hn, hq⟩, ?_⟩
  rintro m σ' H2 ⟨j, ys, rfl, hb2, hR2, hl2, hx2, hn2, hq2⟩
  cases m with
  | zero =>
    have := hR2.le
    omega
  | succ m =>
    refine ⟨r, R, j, d1, hs0, hR2, ?_⟩
    have hq3 : Out C SP r R d H0 val Q E (run R.ks ((tryP e).bind fun b => (if b = true then pm.bind fun _ => moreP e pm m else K10.P.ret ()).bind f) j) := by
      rw [← bind_assoc']
      exact hq2
    refine try_step ne hb2 hq3 (fun H3 hk hb3 hb23 hR3 hq4 => ⟨true, rfl, iftt rfl ?_⟩) (fun H3 hk hb3 hb23 hR3 hq4 => ⟨false, rfl, iffF rfl ?_⟩)
    · rw [if_pos rfl, bind_assoc'] at hq4
      have np : p ≠ r := fun z => by
        rw [z, hR2.obj] at hl2
        cases hl2
      have hl3 := hb23 p _ np hl2
      refine ⟨_, fun _ _ z => z, _, hsk, Or.inl ⟨rfl, ys, SqL.of hl3⟩, hm H3 (j + 1) _ hR3 ?_⟩
      refine step hq4 hb3 fun a b v H4 he hb4 hb34 hR4 hv hq5 => ?_
      have hl4 := hb34 p _ np hl3
      have hj : j + 1 ≤ b := by
        have := run_le R.ks pm (j + 1)
        rw [he] at this
        exact this
      refine ⟨p, ys, v, rfl, rfl, hl4, ?_, ?_⟩
      · have h1 := hR4.few
        have h2 := hR2.le
        rw [sizeLine_eq]
        omega
      · refine ⟨m, Nat.lt_succ_self m, b, ys ++ [v], rfl, but_put hb4 hp, hR4.off hl4 (off_tl h0 hp) upd_stay, upd_same, ?_, by omega, hq5⟩
        rw [List.length_append]
        show ys.length + 1 ≤ b
        omega
    · exact done H3 j ys hb3 hR3 (hb23 p _ (fun z => by rw [z, hR2.obj] at hl2; cases hl2) hl2) hq4
theorem fuel_ok {R : Rdr} (h : R.ts.length ≤ 300) (i : Nat) : R.ts.length < fuel + i := by
  show R.ts.length < 301 + i
  omega
theorem fresh_of {r p : Addr} {R : Rdr} {i d : Nat} {H0 H1 : Hp} (hb : But r H0 H1) (hR : RdAt C H1 r R i d) (hp : H1 p = none) : H0 p = none := by
  cases e : H0 p with
  | none => rfl
  | some u =>
    have n : p ≠ r := fun z => by
      rw [z, hR.obj] at hp
      cases hp
    rw [hb p u n e] at hp
    cases hp
theorem noM_marks : NoM "marks" := fun R i d => rfs_no R i d (by decide +kernel) (by decide +kernel) (by decide +kernel) (by decide +kernel)
theorem noM_field : NoM "field" := fun R i d => rfs_no R i d (by decide +kernel) (by decide +kernel) (by decide +kernel) (by decide +kernel)
theorem noM_fields : NoM "fields" := fun R i d => rfs_no R i d (by decide +kernel) (by decide +kernel) (by decide +kernel) (by decide +kernel)
theorem noM_bound : NoM "bound" := fun R i d => rfs_no R i d (by decide +kernel) (by decide +kernel) (by decide +kernel) (by decide +kernel)
theorem noM_begin : NoM "begin" := fun R i d => rfs_no R i d (by decide +kernel) (by decide +kernel) (by decide +kernel) (by decide +kernel)
theorem noM_finish : NoM "finish" := fun R i d => rfs_no R i d (by decide +kernel) (by decide +kernel) (by decide +kernel) (by decide +kernel)
theorem size1 : 1 ≤ sizeLine := by decide
theorem mono_pos {ks : List Kd} {α : Type} {p : K10.P α} {i : Nat} {a : α} {b : Nat} (h : run ks p i = (some a, b)) : i ≤ b := by
  have := run_le ks p i
  rw [h] at this
  exact this
theorem mark_pos {ks : List Kd} {i b : Nat} (h : run ks markP i = (some (), b)) : b = i + 1 := by
  by_cases c : (kdAt ks i).1 = S "name"
  · rw [mark_yes c (kd_in1 c (by decide +kernel))] at h
    injection h with h1 h2
    exact h2.symm
  · rw [mark_no c] at h
    injection h with h1 h2
    cases h1
theorem adv_pos {ks : List Kd} {i b : Nat} {α β : Type} {p : K10.P α} {f : α → K10.P β} {a : β} (h1 : ∀ a b, run ks p i = (some a, b) → i + 1 ≤ b) (h : run ks (p.bind f) i = (some a, b)) : i + 1 ≤ b := by
  rw [run_bind] at h
  cases e : run ks p i with
  | mk o c =>
    rw [e] at h
    cases o with
    | none => cases h
    | some x =>
      have := h1 x c e
      have := mono_pos h
      omega
theorem ok_marks (T : Rx K mg C SP fI) {f : Addr} {fd : FuncData} (F : FnM K "marks" "Reader.marks" s_r_marks f fd) (GM : Mt P w K mg base (L2.CX P w) C 4 "mark" ["self"] (spM C SP vMark markP)) (GT : Mt P w K mg base CX0 C 3 "try_take" ["self", "expected"] (spM1 C SP vBool tryP)) :
    FnOk P w K mg base (L2.CX P w) 5 f fd ["self"] (spM C SP vAny marksP) := by
  refine F.ok c_r_marks (fun vs H Q E h => ?_) (fun cdv A outer s H vs Q E hr h => ?_)
  · obtain ⟨r, R, i, d, rfl, _⟩ := h
    rfl
  obtain ⟨r, R, i, d, rfl, hR, q⟩ := h
  refine ⟨_, pss_cons (ps_set (i := 1) c_r_marks.nd rfl (Or.inl rfl) (pe_lst (pa_cons (pe_sm GM noM_mark hr (by decide) passE (pv 0)) pa_nil)))
    (pss_cons (ps_while (passes_of rfl) (pt_val (pe_sm1 GT noM_try (by decide +kernel) hr (by decide) pass0 (pv 0)))
      (pss_one (ps_expr (pe_bm PySem.F.plainAttrs_list PySem.F.slot_list_append PySem.F.type_list_append mt_append (pv 1) (pa_cons (pe_sm GM noM_mark hr (by decide) passE (pv 0)) pa_nil)))))
    (pss_one (ps_ret (pe_callTy call_tuple_of (by rfl) T.tuple (by decide +kernel) (pa_cons (pv 1) pa_nil))))), ?_⟩
  refine ⟨r, R, i, d, rfl, hR, step q (But.refl r H) fun a b v H1 he hb _ hR1 hv q1 => ⟨size1, fun p hp => ?_⟩⟩
  have hp0 := fresh_of hb hR1 hp
  have hb2 := mark_pos (by cases a; exact he)
  refine loop_more (k := 1) (d1 := d) (i0 := i) (d0 := d) (f := K10.P.ret) (by decide +kernel) rfl rfl hR hp0 (but_put hb hp0) (hR1.same (same_new (Same.refl _) hp _)) upd_same (by show 1 ≤ b; omega) (fuel_ok hR.few b)
    (by rw [bind_ret']; exact q1) (fun H2 j Q1 h1 h2 => ⟨r, R, j, d, rfl, h1, h2⟩) fun H2 j ys hb3 hR3 hl3 q3 => ?_
  refine ⟨_, rfl, p, ys, rfl, .inl ⟨SqL.of hl3, fun l hl => ?_⟩⟩
  exact q3 _ _ (hb3.trans (But.of (same_new (Same.refl _) hl _))) (hR3.same (same_new (Same.refl _) hl _)) True.intro
theorem ok_finish (T : Rx K mg C SP fI) {f : Addr} {fd : FuncData} (F : FnM K "finish" "Reader.finish" s_r_finish f fd) (GN : Mt P w K mg base (L2.CX P w) C 3 "need" ["self", "condition"] (spNeed C SP)) :
    FnOk P w K mg base (L2.CX P w) 4 f fd ["self"] (spM C SP vNon finishP) := by
  refine F.ok c_r_finish (fun vs H Q E h => ?_) (fun cdv A outer s H vs Q E hr h => ?_)
  · obtain ⟨r, R, i, d, rfl, _⟩ := h
    rfl
  obtain ⟨r, R, i, d, rfl, hR, q⟩ := h
  refine ⟨_, pss_one (ps_expr (pe_need GN noM_need hr (by decide) passE (pv 0) (pe_ge (p2 := ⟨0, 0, 0, 0⟩) (p3 := ⟨0, 0, 0, 0⟩) (p4 := ⟨0, 0, 0, 0⟩) (pos2 := ⟨0, 0, 0, 0⟩) T (pe_at T (pv 0)) (pe_many T (pv 0))))), ?_⟩
  refine ⟨r, R, i, d, rfl, hR, r, R, i, d, rfl, hR, r, R, i, d, _, rfl, hR, fun hb => ?_, fun hb => ?_⟩
  · have c := of_decide_eq_true hb
    have e : run R.ks finishP i = (some (), i) := by
      show run R.ks (if (kdAt R.ks i).1 = S "" then K10.P.ret () else K10.P.fail) i = _
      have n : ¬ i < (lex R.l 0).length := fun z => Nat.lt_irrefl _ (Nat.lt_of_lt_of_le z c)
      rw [kd_none n]
      rfl
    rw [e] at q
    exact q .non H (But.refl r H) hR rfl
  · have c := of_decide_eq_false hb
    have hi : i < R.ts.length := by omega
    obtain ⟨t, ht⟩ := tk_get hi
    have e : run R.ks finishP i = (none, i) := by
      show run R.ks (if (kdAt R.ks i).1 = S "" then K10.P.ret () else K10.P.fail) i = _
      have n : ¬ (kdAt R.ks i).1 = S "" := by
        rw [kd_some ht]
        show ¬ Str.ofString t.1 = S ""
        rcases lex_sort R.l 0 t (List.mem_of_getElem? ht) with z | z | z | z | z <;> rw [z] <;> decide +kernel
      rw [if_neg n]
      rfl
    rw [e] at q
    exact fun dd H' s2 he => q dd H' (But.of s2) he
theorem ok_field (T : Rx K mg C SP fI) {f : Addr} {fd : FuncData} (F : FnM K "field" "Reader.field" s_r_field f fd) (GM : Mt P w K mg base (L2.CX P w) C 4 "mark" ["self"] (spM C SP vMark markP)) (GT : Mt P w K mg base (L2.CX P w) C 4 "take" ["self", "expected"] (spM1 C SP vNon takeP)) :
    FnOk P w K mg base (L2.CX P w) 5 f fd ["self"] (spM C SP vAny fieldP) := by
  refine F.ok c_r_field (fun vs H Q E h => ?_) (fun cdv A outer s H vs Q E hr h => ?_)
  · obtain ⟨r, R, i, d, rfl, _⟩ := h
    rfl
  obtain ⟨r, R, i, d, rfl, hR, q⟩ := h
  refine ⟨_, pss_cons (ps_set (i := 1) c_r_field.nd rfl (Or.inl rfl) (pe_sm GM noM_mark hr (by decide) passE (pv 0))) (pss_cons (ps_expr (pe_sm1 GT noM_take (by decide +kernel) hr (by decide) passE (pv 0)))
    (pss_one (ps_ret (pe_tup (pa_cons (pv 1) (pa_cons (pe_sm GM noM_mark hr (by decide) passE (pv 0)) pa_nil)))))), ?_⟩
  refine ⟨r, R, i, d, rfl, hR, step q (But.refl r H) fun a b v H1 _ hb1 _ hR1 hv q1 => ?_⟩
  refine ⟨r, R, b, d, rfl, hR1, step q1 hb1 fun a2 b2 v2 H2 _ hb2 _ hR2 hv2 q2 => ?_⟩
  refine ⟨_, rfl, r, R, b2, d, rfl, hR2, last q2 hb2 fun a3 b3 v3 H3 _ hb3 _ hR3 hv3 q3 => ⟨size2, fun p hp => ?_⟩⟩
  exact q3 _ _ (hb3.trans (But.of (same_new (Same.refl _) hp _))) (hR3.same (same_new (Same.refl _) hp _)) True.intro
theorem field_pos {ks : List Kd} {i b : Nat} (h : run ks fieldP i = (some (), b)) : i + 1 ≤ b := adv_pos (fun a b h => by cases a; have := mark_pos h; omega) h
theorem ok_fields (T : Rx K mg C SP fI) {f : Addr} {fd : FuncData} (F : FnM K "fields" "Reader.fields" s_r_fields f fd) (GF : Mt P w K mg base (L2.CX P w) C 5 "field" ["self"] (spM C SP vAny fieldP)) (GX : Mt P w K mg base CX0 C 2 "fixed" ["self"] (spG C ΦFixed))
    (GT : Mt P w K mg base (L2.CX P w) C 4 "take" ["self", "expected"] (spM1 C SP vNon takeP)) (GY : Mt P w K mg base CX0 C 3 "try_take" ["self", "expected"] (spM1 C SP vBool tryP)) : FnOk P w K mg base (L2.CX P w) 6 f fd ["self"] (spM C SP vAny fieldsP) := by
  refine F.ok c_r_fields (fun vs H Q E h => ?_) (fun cdv A outer s H vs Q E hr h => ?_)
  · obtain ⟨r, R, i, d, rfl, _⟩ := h
    rfl
  obtain ⟨r, R, i, d, rfl, hR, q⟩ := h
  refine ⟨_, pss_cons (ps_set (i := 1) c_r_fields.nd rfl (Or.inl rfl) (pe_lst pa_nil))
    (pss_cons (ps_if (pt_cmpR op_ne (pe_sg GX noM_fixed hr (by decide) pass0 (pv 0)) pe_str (nomark _))
      (pss_cons (ps_expr (pe_bm PySem.F.plainAttrs_list PySem.F.slot_list_append PySem.F.type_list_append mt_append (pv 1) (pa_cons (pe_sm GF noM_field hr (by decide) passE (pv 0)) pa_nil)))
        (pss_one (ps_while (passes_of rfl) (pt_val (pe_sm1 GY noM_try (by decide +kernel) hr (by decide) pass0 (pv 0)))
          (pss_one (ps_expr (pe_bm PySem.F.plainAttrs_list PySem.F.slot_list_append PySem.F.type_list_append mt_append (pv 1) (pa_cons (pe_sm GF noM_field hr (by decide) passE (pv 0)) pa_nil))))))) pss_nil)
    (pss_cons (ps_expr (pe_sm1 GT noM_take (by decide +kernel) hr (by decide) passE (pv 0)))
    (pss_one (ps_ret (pe_callTy call_tuple_of (by rfl) T.tuple (by decide +kernel) (pa_cons (pv 1) pa_nil)))))), ?_⟩
  refine ⟨(by show 0 ≤ sizeLine; decide), fun p hp => ?_⟩
  have s0 := same_new (Same.refl H) hp (.lst [])
  have hR0 := hR.same s0
  -- what follows the if
  have fin : ∀ (H' : Hp) (j : Nat) (ys : List V), But r H H' → RdAt C H' r R j d → H' p = some (.lst ys) → Out C SP r R d H vAny Q E (run R.ks (takeP (S ")")) j) →
      (tSeq (tDrop (tSM C SP vNon (takeP (S ")")) E)) (tRet (tCB (fun xs H Q => ∃ p ys, xs = [.ref p] ∧ ((SqL K H p ys ∧ ∀ l, H l = none → Q (.ref l) (upd H l (.tup ys))) ∨ (SqT K H p ys ∧ Q (.ref p) H))) (tCons (tVar 1) tNil)))) { nx := fun _ H' => Q .non H', rt := Q } [some (.ref r), some (.ref p)] H' := by
    intro H' j ys hb3 hR3 hl3 q3
    refine ⟨r, R, j, d, rfl, hR3, last q3 hb3 fun a4 b4 v4 H4 _ hb4 hb34 hR4 hv4 q4 => ?_⟩
    have hl4 := hb34 p _ (fun z => by rw [z, hR3.obj] at hl3; cases hl3) hl3
    refine ⟨_, rfl, p, ys, rfl, .inl ⟨SqL.of hl4, fun l hl => ?_⟩⟩
    exact q4 _ _ (hb4.trans (But.of (same_new (Same.refl _) hl _))) (hR4.same (same_new (Same.refl _) hl _)) True.intro
  refine ⟨r, R, i, d, rfl, hR0, fun H1 s1 => ⟨rfl, _, rfl, ?_⟩⟩
  rw [dec_str]
  have hR1 := hR0.same s1
  have hl1 := s1 _ _ (upd_same (H := H) (a := p) (o := .lst []))
  have hb1 : But r H H1 := But.of (s0.trans s1)
  have hq : Out C SP r R d H vAny Q E (run R.ks ((if (kdAt R.ks i).2 = S ")" then K10.P.ret () else fieldP.bind fun _ => moreP (S ",") fieldP fuel).bind fun _ => takeP (S ")")) i) := q
  by_cases c : (kdAt R.ks i).2 = S ")"
  · refine iffF (by rw [show (kdAt R.ks i).2 = Str.ofString ")" from c, decide_eq_true rfl]; rfl) ?_
    rw [if_pos c] at hq
    exact fin H1 i [] hb1 hR1 hl1 hq
  · refine iftt (by rw [decide_eq_false (show ¬ (kdAt R.ks i).2 = Str.ofString ")" from c)]; rfl) ?_
    rw [if_neg c, bind_assoc'] at hq
    refine ⟨_, rfl, Or.inl ⟨rfl, _, SqL.of hl1⟩, r, R, i, d, rfl, hR1, step hq hb1 fun a b v H2 he hb2 hb12 hR2 hv q2 => ?_⟩
    have hl2 := hb12 p _ (fun z => by rw [z, hR1.obj] at hl1; cases hl1) hl1
    have hbi := field_pos (by cases a; exact he)
    refine ⟨p, [], v, rfl, rfl, hl2, by rw [sizeLine_eq]; decide, ?_⟩
    exact loop_more (k := 1) (d1 := d) (i0 := i) (d0 := d) (by decide +kernel) rfl rfl hR hp (but_put hb2 hp) (hR2.off hl2 (off_tl hR hp) upd_stay) upd_same (by show 1 ≤ b; omega) (fuel_ok hR.few b) q2 (fun H3 j Q1 h1 h2 => ⟨r, R, j, d, rfl, h1, h2⟩) fin
theorem ok_bound (T : Rx K mg C SP fI) {f : Addr} {fd : FuncData} (F : FnM K "bound" "Reader.bound" s_r_bound f fd) (GM : Mt P w K mg base (L2.CX P w) C 4 "mark" ["self"] (spM C SP vMark markP)) (GY : Mt P w K mg base CX0 C 3 "try_take" ["self", "expected"] (spM1 C SP vBool tryP)) :
    FnOk P w K mg base (L2.CX P w) 5 f fd ["self"] (spM C SP vAny boundP) := by
  refine F.ok c_r_bound (fun vs H Q E h => ?_) (fun cdv A outer s H vs Q E hr h => ?_)
  · obtain ⟨r, R, i, d, rfl, _⟩ := h
    rfl
  obtain ⟨r, R, i, d, rfl, hR, q⟩ := h
  refine ⟨_, pss_cons (ps_set (i := 1) c_r_bound.nd rfl (Or.inl rfl) (pe_sm GM noM_mark hr (by decide) passE (pv 0)))
    (pss_cons (ps_if (pt_val (pe_sm1 GY noM_try (by decide +kernel) hr (by decide) pass0 (pv 0))) (pss_one (ps_ret (pe_tup (pa_cons (pv 1) (pa_cons (pe_sm GM noM_mark hr (by decide) passE (pv 0)) pa_nil))))) pss_nil)
    (pss_one (ps_ret (pe_tup (pa_cons (pv 1) (pa_cons pe_non pa_nil)))))), ?_⟩
  refine ⟨r, R, i, d, rfl, hR, step q (But.refl r H) fun a b v H1 _ hb1 _ hR1 hv q1 => ?_⟩
  refine ⟨r, R, b, d, rfl, hR1, try_step (by decide +kernel) hb1 q1 (fun H2 _ hb2 _ hR2 q2 => ⟨true, rfl, iftt rfl ?_⟩) (fun H2 _ hb2 _ hR2 q2 => ⟨false, rfl, iffF rfl ?_⟩)⟩
  · rw [if_pos rfl] at q2
    refine ⟨_, rfl, r, R, b + 1, d, rfl, hR2, last q2 hb2 fun a3 b3 v3 H3 _ hb3 _ hR3 hv3 q3 => ⟨size2, fun p hp => ?_⟩⟩
    exact q3 _ _ (hb3.trans (But.of (same_new (Same.refl _) hp _))) (hR3.same (same_new (Same.refl _) hp _)) True.intro
  · refine ⟨_, rfl, size2, fun p hp => ?_⟩
    exact q2 _ _ (hb2.trans (But.of (same_new (Same.refl _) hp _))) (hR2.same (same_new (Same.refl _) hp _)) True.intro
/-- a value, a minus or a not begins -/
def ΦBegin (C SP : Addr) : Addr → Rdr → Nat → Nat → Hp → VK → XK → Prop := fun r R i d H Q E =>
  (d < 30 → ∀ H' (n : Int), But r H H' → RdAt C H' r R i (d + 1) → Q (.int n) H') ∧ (¬ d < 30 → ∀ dd H', But r H H' → ErrAt H' dd R i → E (.ref SP) (some dd) H')
theorem ok_begin (T : Rx K mg C SP fI) {f : Addr} {fd : FuncData} (F : FnM K "begin" "Reader.begin" s_r_begin f fd) (GN : Mt P w K mg base (L2.CX P w) C 3 "need" ["self", "condition"] (spNeed C SP)) (GP : Mt P w K mg base CX0 C 1 "place" ["self"] (spG C ΦPlace)) :
    FnOk P w K mg base (L2.CX P w) 4 f fd ["self"] (spG C (ΦBegin C SP)) := by
  refine F.ok c_r_begin (fun vs H Q E h => ?_) (fun cdv A outer s H vs Q E hr h => ?_)
  · obtain ⟨r, R, i, d, rfl, _⟩ := h
    rfl
  obtain ⟨r, R, i, d, rfl, hR, q1, q2⟩ := h
  refine ⟨_, pss_cons (ps_expr (pe_need GN noM_need hr (by decide) passE (pv 0) (pe_cmpR op_lt (pe_depth T (pv 0)) (pe_k T.mostD) (nomark _)))) (pss_cons (ps_fldaug (pv 0) pe_int in_add)
    (pss_one (ps_ret (pe_ix ix_tup (pe_sg GP noM_place hr (by decide) pass0 (pv 0)) pe_int (fun _ _ => rfl))))), ?_⟩
  refine ⟨r, R, i, d, rfl, hR, r, R, i, d, rfl, hR, _, _, rfl, rfl, r, R, i, d, _, rfl, hR, fun hb => ?_, fun hb => ?_⟩
  · have c := of_decide_eq_true hb
    refine ⟨_, rfl, r, C, R.dx, _, _, rfl, hR.obj, T.cls, T.nDepth, rfl, d, 1, rfl, rfl, R.dx, _, hR.obj, by show 4 < 1000; decide, ?_⟩
    have hR1 : RdAt C (upd H r (.ins C R.dx (rfs R i (d + 1)))) r R i (d + 1) := hR.put hR.le
    refine ⟨r, R, i, d + 1, rfl, hR1, fun p H2 s2 hp => ?_⟩
    exact ⟨p, _, 0, _, rfl, rfl, SqT.of hp, rfl, q1 (by omega) H2 _ (but_upd.trans (But.of s2)) (hR1.same s2)⟩
  · have c := of_decide_eq_false hb
    exact fun dd H' s2 he => q2 (by omega) dd H' (But.of s2) he
end
end K10
/-! The methods that read values: what they are given, how their loops go. -/
namespace K10
open PySem PySem.Spec PyProof.Rows L2
/-- the def of a method, as the text has it -/
structure MDef (K : PySem.W.Frag) (C : Addr) (m qual : Str) (st : Stmt) (ps : List Str) : Prop where
  ex : ∃ (f : Addr) (fd : FuncData), FunD K m qual (defArgs st) (defBody st) (defScope st) [] [] f fd ∧ Meth K C m f ∧ Binds K fd ps []
section
variable {P : Program} {w : World} {K : PySem.W.Frag} {mg : Str → Option Value} {base : Heap} {C SP fI : Addr}
theorem mt3_of {CX : CXT} {m qual : Str} {st : Stmt} {N ps : List Str} {d : Nat} {sp : Sp} (M : MDef K C m qual st ps) (c : Cls K C) (S : FnScope N ps (defScope st)) (many : ∀ vs H Q E, sp vs H Q E → vs.length = ps.length)
    (hbody : ∀ (f : Addr) (cdv : Value) (A : Around) (outer : List Env) (s : Shared) (H : Hp) (vs : List V) (Q : VK) (E : XK), RoomD d (A.deeper (envOfC qual (defScope st) s.heap.objs.size f cdv)) → sp vs H Q E →
      ∃ t, PSs (cxOf CX P w K mg base N qual (defScope st) f cdv A outer s H E) (defBody st) t ∧ t { nx := fun _ H' => Q .non H', rt := Q } (L2.start N vs) H) : Mt3 P w K mg base CX C (d + 1) m ps sp := by
  obtain ⟨f, fd, F, hm, b⟩ := M.ex
  exact ⟨f, fd, fn3_of F S many fun cdv A outer s H vs Q E hr h => hbody f cdv A outer s H vs Q E hr h, c, hm, b⟩
theorem Mt3.less {CX : CXT} {d d' : Nat} {m : Str} {ps : List Str} {sp : Sp} (c : Mt3 P w K mg base CX C d m ps sp) (h : d ≤ d') : Mt3 P w K mg base CX C d' m ps sp := by
  obtain ⟨f, fd, F, hc, hm, b⟩ := c.ex
  exact ⟨f, fd, ⟨F.many, fun A outer s H args us vs Q E r e bt v q => F.goes A outer s H args us vs Q E (r.less h) e bt v q⟩, hc, hm, b⟩
/-- what the reader's small methods are -/
structure Small (P : Program) (w : World) (K : PySem.W.Frag) (mg : Str → Option Value) (base : Heap) (C SP : Addr) : Prop where
  place : Mt P w K mg base CX0 C 1 "place" ["self"] (spG C ΦPlace)
  sort : Mt P w K mg base CX0 C 1 "sort_now" ["self"] (spG C ΦSort)
  fixed : Mt P w K mg base CX0 C 2 "fixed" ["self"] (spG C ΦFixed)
  lastE : Mt P w K mg base CX0 C 1 "last_end" ["self"] (spG C ΦLast)
  take : Mt P w K mg base (L2.CX P w) C 4 "take" ["self", "expected"] (spM1 C SP vNon takeP)
  tryT : Mt P w K mg base CX0 C 3 "try_take" ["self", "expected"] (spM1 C SP vBool tryP)
  mark : Mt P w K mg base (L2.CX P w) C 4 "mark" ["self"] (spM C SP vMark markP)
  begin_ : Mt P w K mg base (L2.CX P w) C 4 "begin" ["self"] (spG C (ΦBegin C SP))
  number : Cl P w K mg base CX0 1 "number_value" ["digits"] spNumber
/-- where n more may begin within: one more argument, which is b -/
def spDa {α : Type} (C SP : Addr) (val : α → V → Hp → Prop) (p : K10.P α) (n : Nat) (ok : V → Prop) : Sp := fun vs H Q E => ∃ (r : Addr) (R : Rdr) (i d : Nat) (b : V), vs = [.ref r, b] ∧ ok b ∧ d + n = 30 ∧ RdAt C H r R i d ∧ Out C SP r R d H val Q E (run R.ks p i)
/-- self.m(e) of such -/
theorem pe_sm3a {X : Cx} {CX : CXT} {C : Addr} {d : Nat} {m x2 : Str} {sp : Sp} {E : XK} {o a : Expr} {ta : TE} {pos apos : Pos} {pl : Sem Bool} (c : Mt3 X.prog X.w X.K X.mg X.base CX C d m ["self", x2] sp) (no : NoM m) (hr : RoomD d X.A) (hx : Passes CX X E) (ho : PE X o (tVar 0)) (ha : PE X a ta)
    (hst : starEach [a] X.env = (false, eval a X.env) :: starEach [] X.env := by rfl) (ht : eval (.Call (.Attribute o m apos) [a] [] pos) X.env = (do
      let v ← eval o X.env; standAt apos.atName; let (f, first) ← holding [v] (getMethod v m pl); callWith pos f first (backTo pos (starEach [a] X.env)) (backToKw pos (keywordEach [] X.env))) := by rfl) :
    PE X (.Call (.Attribute o m apos) [a] [] pos) (fun σ H Q => ∃ r R i d, σ[0]? = some (some (.ref r)) ∧ RdAt C H r R i d ∧ ta σ H fun y H2 => sp [.ref r, y] H2 Q E) :=
  pe_w (pe_m3 c hr hx ho (pa_cons ha pa_nil hst) hst rfl ht) fun σ H Q ⟨r, R, i, d, hs, h, q⟩ => ⟨_, hs, r, R.dx, _, rfl, h.obj, no R i d, q⟩
/-- self.depth -= 1 -/
theorem st_dec (T : Rx K mg C SP fI) {D : Ends} {σ : L2.St} {H : Hp} {r : Addr} {R : Rdr} {i d : Nat} (hs : σ[0]? = some (some (.ref r))) (hR : RdAt C H r R i (d + 1)) (q : D.nx σ (upd H r (.ins C R.dx (rfs R i d)))) : sFldAug K (tVar 0) (tC (.int 1)) rSub "depth" D σ H := by
  refine ⟨_, hs, r, C, R.dx, _, _, rfl, hR.obj, T.cls, T.nDepth, rfl, ((d + 1 : Nat) : Int), 1, rfl, rfl, R.dx, _, hR.obj, by show 4 < 1000; decide, ?_⟩
  have e : (((d + 1 : Nat) : Int) - 1) = (d : Int) := by omega
  rw [e]
  exact q
theorem at1 (a b c : V) (r : List V) : atI (a :: b :: c :: r) (1 : Int) = some b := atI_nat (xs := a :: b :: c :: r) (show (a :: b :: c :: r)[1]? = some b from rfl)
theorem at2 (a b c : V) (r : List V) : atI (a :: b :: c :: r) (2 : Int) = some c := atI_nat (xs := a :: b :: c :: r) (show (a :: b :: c :: r)[2]? = some c from rfl)
/-- a new object: all stands -/
theorem newS {H : Hp} {p : Addr} {o : HO} (hp : H p = none) : Same H (upd H p o) := same_new (Same.refl H) hp o
theorem but_new {r p : Addr} {H0 H : Hp} {o : HO} (hb : But r H0 H) (hp : H p = none) : But r H0 (upd H p o) := hb.trans (But.of (newS hp))
theorem fix_out {β : Type} {r : Addr} {R : Rdr} {i d : Nat} {H0 : Hp} {val : β → V → Hp → Prop} {Q : VK} {E : XK} {k : Kd → K10.P β} (hq : Out C SP r R d H0 val Q E (run R.ks (.look k) i)) : Out C SP r R d H0 val Q E (run R.ks (k (kdAt R.ks i)) i) := hq
theorem adv_out {β : Type} {r : Addr} {R : Rdr} {i d : Nat} {H0 : Hp} {val : β → V → Hp → Prop} {Q : VK} {E : XK} {p : K10.P β} (hi : i < R.ks.length) (hq : Out C SP r R d H0 val Q E (run R.ks (.adv p) i)) : Out C SP r R d H0 val Q E (run R.ks p (i + 1)) := by
  rw [run_adv hi] at hq
  exact hq
theorem dec_kd {a : Str} {b : String} {c : Bool} (h : decide (a = S b) = c) : decide (V.str a = V.str (Str.ofString b)) = c := by rw [dec_str]; exact h
/-- the set of signs: flat texts -/
theorem inV_str (x : Str) : ∀ ss : List Str, inV (.str x) (ss.map V.str) = decide (x ∈ ss)
  | [] => rfl
  | y :: r => by
    have ih := inV_str x r
    unfold inV at ih ⊢
    rw [List.map_cons, List.any_cons, ih]
    show (y == x || decide (x ∈ r)) = decide (x ∈ y :: r)
    by_cases h : x = y
    · rw [h]
      simp
    · have h2 : (y == x) = false := by
        simp
        exact fun z => h z.symm
      rw [h2]
      simp [h]
theorem flat_str (ss : List Str) : (ss.map V.str).all flatV = true := by
  induction ss with
  | nil => rfl
  | cons y r ih =>
    rw [List.map_cons, List.all_cons, ih]
    rfl
/-- while self.fixed() in a set: sign = self.fixed(); self.at += 1; right = ..; left = ("binary", ..) -/
theorem loop_chain {β : Type} (T : Rx K mg C SP fI) {r c pl : Addr} {R : Rdr} {i n d d1 : Nat} {H0 H1 : Hp} {val : β → V → Hp → Prop} {Q : VK} {E : XK} {ss : List Str} {pm : K10.P Unit} {f : Unit → K10.P β} {tset tm : TE} {v1 : V} {o3 o4 : Option V} {x0 x1 x2 : V} {xs : List V} {D : Ends}
    (hne : Str.ofString "" ∉ ss) (hc : ∀ H, SqT K H c (ss.map V.str)) (hb : But r H0 H1) (hR : RdAt C H1 r R i d1) (hl : H1 pl = some (.tup (x0 :: x1 :: x2 :: xs))) (hn : R.ts.length < n + i)
    (hq : Out C SP r R d H0 val Q E (run R.ks ((chainP ss pm n).bind f) i))
    (hset : ∀ (σ' : L2.St) (H : Hp) (Q1 : VK), σ'[1]? = some (some v1) → Q1 (.ref c) H → tset σ' H Q1)
    (hm : ∀ (σ' : L2.St) (H : Hp) (j : Nat) (Q1 : VK), σ'[0]? = some (some (.ref r)) → σ'[1]? = some (some v1) → RdAt C H r R j d1 → Out C SP r R d1 H vTree Q1 E (run R.ks pm j) → tm σ' H Q1)
    (done : ∀ (H' : Hp) (j : Nat) (p : Addr) (y0 y1 y2 : V) (ys : List V) (o3 o4 : Option V), But r H0 H' → RdAt C H' r R j d1 → H' p = some (.tup (y0 :: y1 :: y2 :: ys)) → Out C SP r R d H0 val Q E (run R.ks (f ()) j) → D.nx [some (.ref r), some v1, some (.ref p), o3, o4] H') :
    tWhile (tTest (tOp (rIn K false) (tG C ΦFixed E0) tset)) (tSeq (tAsg (tG C ΦFixed E0) (gName 3)) (tSeq (sFldAug K (tVar 0) (tC (.int 1)) rAdd "at") (tSeq (tAsg tm (gName 4)) (tAsg (tTup (tCons (tC (.str (Str.ofString "binary"))) (tCons (tOp (rIxT K) (tVar 2) (tC (.int 1))) (tCons (tOp (rIxT K) (tVar 4) (tC (.int 2)))
      (tCons (tVar 3) (tCons (tVar 2) (tCons (tVar 4) tNil))))))) (gName 2))))) D [some (.ref r), some v1, some (.ref pl), o3, o4] H1 := by
  refine ⟨fun m σ' H' => ∃ (j : Nat) (p : Addr) (y0 y1 y2 : V) (ys : List V) (o3 o4 : Option V), σ' = [some (.ref r), some v1, some (.ref p), o3, o4] ∧ But r H0 H' ∧ RdAt C H' r R j d1 ∧ H' p = some (.tup (y0 :: y1 :: y2 :: ys)) ∧ R.ts.length < m + j ∧
    Out C SP r R d H0 val Q E (run R.ks ((chainP ss pm m).bind f) j), ⟨n, i, pl, x0, x1, x2, xs, o3, o4, rfl, hb, hR, hl, hn, hq⟩, ?_⟩
  rintro m σ' H2 ⟨j, p, y0, y1, y2, ys, o3', o4', rfl, hb2, hR2, hl2, hn2, hq2⟩
  cases m with
  | zero =>
    have := hR2.le
    omega
  | succ m =>
    refine ⟨r, R, j, d1, rfl, hR2, fun H3 s3 => hset _ _ _ rfl ⟨c, _, rfl, .inr (hc H3), rfl, flat_str ss, _, rfl, ?_⟩⟩
    rw [if_neg Bool.false_ne_true, inV_str]
    have hq3 : Out C SP r R d H0 val Q E (run R.ks ((if (kdAt R.ks j).2 ∈ ss then K10.P.adv (pm.bind fun _ => chainP ss pm m) else K10.P.ret ()).bind f) j) := hq2
    have hR3 := hR2.same s3
    have hb3 := hb2.trans (But.of s3)
    have hl3 := s3 _ _ hl2
    by_cases k : (kdAt R.ks j).2 ∈ ss
    · refine iftt (decide_eq_true k) ?_
      rw [if_pos k] at hq3
      have hj : j < R.ks.length := by
        by_cases z : j < R.ks.length
        · exact z
        · rw [show kdAt R.ks j = (Str.ofString "", Str.ofString "") from kd_none (by rw [← kinds_len]; exact z)] at k
          exact absurd k hne
      have hj' : j < R.ts.length := by rw [← kinds_len]; exact hj
      have hq4 : Out C SP r R d H0 val Q E (run R.ks (pm.bind fun _ => (chainP ss pm m).bind f) (j + 1)) := by
        have := adv_out hj (show Out C SP r R d H0 val Q E (run R.ks (.adv ((pm.bind fun _ => chainP ss pm m).bind f)) j) from hq3)
        rw [bind_assoc'] at this
        exact this
      refine ⟨_, fun _ _ z => z, r, R, j, d1, rfl, hR3, fun H4 s4 => ?_⟩
      have hR4 := hR3.same s4
      refine st_adv (C' := C) T rfl hR4 hj' ?_
      have hR5 := hR4.put (d' := d1) (i' := j + 1) hj'
      have hb5 := (hb3.trans (But.of s4)).trans (but_upd (o := .ins C R.dx (rfs R (j + 1) d1)))
      have np : p ≠ r := fun z => by
        rw [z, hR3.obj] at hl3
        cases hl3
      refine hm _ _ (j + 1) _ rfl rfl hR5 (step hq4 hb5 fun a b v H6 _ hb6 hb56 hR6 hv hq6 => ?_)
      obtain ⟨p4, z0, z1, z2, zs, rfl, hp4⟩ := hv
      have hl6 := hb56 p _ np (by rw [upd_ne np]; exact s4 _ _ hl3)
      refine ⟨_, rfl, p, _, 1, y1, rfl, rfl, SqT.of hl6, at1 _ _ _ _, _, rfl, p4, _, 2, z2, rfl, rfl, SqT.of hp4, at2 _ _ _ _, _, rfl, _, rfl, _, rfl, by show 6 ≤ sizeLine; decide, fun p7 hp7 => ?_⟩
      have hlt : j + 1 ≤ b := by
        have := run_le R.ks pm (j + 1)
        have e := ‹run R.ks pm (j + 1) = (some a, b)›
        rw [e] at this
        exact this
      exact ⟨m, Nat.lt_succ_self m, b, p7, _, _, _, _, _, _, rfl, but_new hb6 hp7, hR6.same (newS hp7), upd_same, by omega, hq6⟩
    · refine iffF (decide_eq_false k) ?_
      rw [if_neg k] at hq3
      exact done H3 j p y0 y1 y2 ys o3' o4' hb3 hR3 hl3 hq3
end
end K10
/-! arguments, simple, reached, signed. -/
namespace K10
open PySem PySem.Spec PyProof.Rows L2
theorem lex_digits (l : List Nat) : ∀ (o : Nat) (t : Tk), t ∈ lex l o → t.1 = "number" → ∀ c ∈ (l.drop (t.2.1 - o)).take (t.2.2 - t.2.1), isDig c = true := by
  refine lex_ind (M := fun l => ∀ (o : Nat) (t : Tk), t ∈ lex l o → t.1 = "number" → ∀ c ∈ (l.drop (t.2.1 - o)).take (t.2.2 - t.2.1), isDig c = true) ?_ ?_ ?_ ?_ l.length l (Nat.le_refl _)
  · intro o t h
    rw [lex_nil] at h
    cases h
  · intro c r a ih o t h
    rw [lex_sp a] at h
    have hb := lex_bounds _ _ t h
    have e : t.2.1 - o = (t.2.1 - (o + 1)) + 1 := by omega
    rw [e, List.drop_succ_cons]
    exact ih _ _ h
  · intro r ih o t h
    rw [lex_com] at h
    have hb := lex_bounds _ _ t h
    have e : t.2.1 - o = spanN notNl (35 :: r) + (t.2.1 - (o + spanN notNl (35 :: r))) := by omega
    rw [e, ← List.drop_drop]
    exact ih _ _ h
  · intro c r a b ih o t h
    rw [lex_tok a b] at h
    rcases List.mem_cons.mp h with e | h
    · rw [e]
      intro hn
      show ∀ x ∈ ((c :: r).drop (o - o)).take (o + tokN (c :: r) - o), isDig x = true
      rw [Nat.sub_self, List.drop_zero, Nat.add_sub_cancel_left]
      have hs : tokS (c :: r) = "number" := hn
      have h1 : ¬ isLet c = true := fun z => by
        rw [tokS_cons, if_pos z] at hs
        split at hs <;> exact absurd hs (by decide)
      have h2 : isDig c = true := by
        by_cases z : isDig c = true
        · exact z
        · rw [tokS_cons, if_neg h1, if_neg z] at hs
          split at hs
          · exact absurd hs (by decide)
          · split at hs <;> exact absurd hs (by decide)
      have en : tokN (c :: r) = spanN isDig (c :: r) := by rw [tokN_cons, if_neg h1, if_pos h2]
      rw [en]
      exact span_mem _
    · have hb := lex_bounds _ _ t h
      have e : t.2.1 - o = tokN (c :: r) + (t.2.1 - (o + tokN (c :: r))) := by omega
      rw [e, ← List.drop_drop]
      exact ih _ _ h
theorem noM_value : NoM "value" := fun R i d => rfs_no R i d (by decide +kernel) (by decide +kernel) (by decide +kernel) (by decide +kernel)
theorem noM_args : NoM "arguments" := fun R i d => rfs_no R i d (by decide +kernel) (by decide +kernel) (by decide +kernel) (by decide +kernel)
theorem noM_simple : NoM "simple" := fun R i d => rfs_no R i d (by decide +kernel) (by decide +kernel) (by decide +kernel) (by decide +kernel)
theorem noM_reached : NoM "reached" := fun R i d => rfs_no R i d (by decide +kernel) (by decide +kernel) (by decide +kernel) (by decide +kernel)
theorem noM_signed : NoM "signed" := fun R i d => rfs_no R i d (by decide +kernel) (by decide +kernel) (by decide +kernel) (by decide +kernel)
theorem noM_chain : NoM "chain" := fun R i d => rfs_no R i d (by decide +kernel) (by decide +kernel) (by decide +kernel) (by decide +kernel)
theorem noM_compared : NoM "compared" := fun R i d => rfs_no R i d (by decide +kernel) (by decide +kernel) (by decide +kernel) (by decide +kernel)
theorem noM_negated : NoM "negated" := fun R i d => rfs_no R i d (by decide +kernel) (by decide +kernel) (by decide +kernel) (by decide +kernel)
theorem noM_either : NoM "either" := fun R i d => rfs_no R i d (by decide +kernel) (by decide +kernel) (by decide +kernel) (by decide +kernel)
theorem noM_let : NoM "let_value" := fun R i d => rfs_no R i d (by decide +kernel) (by decide +kernel) (by decide +kernel) (by decide +kernel)
theorem noM_if : NoM "if_value" := fun R i d => rfs_no R i d (by decide +kernel) (by decide +kernel) (by decide +kernel) (by decide +kernel)
theorem noM_loop : NoM "loop_value" := fun R i d => rfs_no R i d (by decide +kernel) (by decide +kernel) (by decide +kernel) (by decide +kernel)
theorem take_pos {ks : List Kd} {i b : Nat} {e : Str} (h : run ks (takeP e) i = (some (), b)) : i + 1 ≤ b := by
  by_cases c : (kdAt ks i).2 = e
  · by_cases hi : i < ks.length
    · rw [take_yes c hi] at h
      injection h with h1 h2
      omega
    · have h' : run ks (if (kdAt ks i).2 = e then P.adv (P.ret ()) else P.fail) i = (some (), b) := h
      rw [if_pos c] at h'
      have h2 : (if i < ks.length then run ks (P.ret ()) (i + 1) else (none, i)) = (some (), b) := h'
      rw [if_neg hi] at h2
      cases h2
  · rw [take_no c] at h
    cases h
section
variable {P : Program} {w : World} {K : PySem.W.Frag} {mg : Str → Option Value} {base : Heap} {C SP fI : Addr} {n v : Nat}
abbrev MV (P : Program) (w : World) (K : PySem.W.Frag) (mg : Str → Option Value) (base : Heap) (C SP : Addr) (d : Nat) (m : Str) (p : K10.P Unit) (n : Nat) : Prop := Mt3 P w K mg base (L2.CX P w) C d m ["self"] (spD C SP vTree p n)
theorem ok_arguments (T : Rx K mg C SP fI) (G : Small P w K mg base C SP) (M : MDef K C "arguments" "Reader.arguments" s_r_arguments ["self"]) (GV : MV P w K mg base C SP v "value" (valP n) n) :
    Mt3 P w K mg base (L2.CX P w) C (v + 1) "arguments" ["self"] (spD C SP vAny (argsP (valP n)) n) := by
  refine mt3_of M T.cls c_r_arguments (fun vs H Q E h => ?_) (fun f cdv A outer s H vs Q E hr h => ?_)
  · obtain ⟨r, R, i, d, rfl, _⟩ := h
    rfl
  obtain ⟨r, R, i, d, rfl, hd, hR, q⟩ := h
  refine ⟨_, pss_cons (ps_set (i := 1) c_r_arguments.nd rfl (Or.inl rfl) (pe_lst pa_nil)) (pss_cons (ps_expr (pe_sm1 G.take noM_take (by decide +kernel) hr.room (by decide) passE (pv 0)))
    (pss_cons (ps_if (pt_cmpR op_ne (pe_sg G.fixed noM_fixed hr.room (by decide) pass0 (pv 0)) pe_str (nomark _))
      (pss_cons (ps_expr (pe_bm PySem.F.plainAttrs_list PySem.F.slot_list_append PySem.F.type_list_append mt_append (pv 1) (pa_cons (pe_sm3 GV noM_value hr passE (pv 0)) pa_nil)))
        (pss_one (ps_while (passes_of rfl) (pt_val (pe_sm1 G.tryT noM_try (by decide +kernel) hr.room (by decide) pass0 (pv 0)))
          (pss_one (ps_expr (pe_bm PySem.F.plainAttrs_list PySem.F.slot_list_append PySem.F.type_list_append mt_append (pv 1) (pa_cons (pe_sm3 GV noM_value hr passE (pv 0)) pa_nil))))))) pss_nil)
    (pss_cons (ps_expr (pe_sm1 G.take noM_take (by decide +kernel) hr.room (by decide) passE (pv 0)))
    (pss_one (ps_ret (pe_callTy call_tuple_of (by rfl) T.tuple (by decide +kernel) (pa_cons (pv 1) pa_nil))))))), ?_⟩
  refine ⟨(by show 0 ≤ sizeLine; decide), fun p hp => ?_⟩
  have hR0 := hR.same (newS (o := .lst []) hp)
  refine ⟨r, R, i, d, rfl, hR0, step q (But.of (newS hp)) fun a b v0 H1 he hb1 hb01 hR1 _ q1 => ?_⟩
  have npr : p ≠ r := fun z => by
    rw [z, hR.obj] at hp
    cases hp
  have hl1 := hb01 p _ npr upd_same
  have hbi := take_pos (by cases a; exact he)
  -- what follows the if
  have fin : ∀ (H' : Hp) (j : Nat) (ys : List V), But r H H' → RdAt C H' r R j d → H' p = some (.lst ys) → Out C SP r R d H vAny Q E (run R.ks (takeP (S ")")) j) →
      (tSeq (tDrop (tSM C SP vNon (takeP (S ")")) E)) (tRet (tCB (fun xs H Q => ∃ p ys, xs = [.ref p] ∧ ((SqL K H p ys ∧ ∀ l, H l = none → Q (.ref l) (upd H l (.tup ys))) ∨ (SqT K H p ys ∧ Q (.ref p) H))) (tCons (tVar 1) tNil)))) { nx := fun _ H' => Q .non H', rt := Q } [some (.ref r), some (.ref p)] H' := by
    intro H' j ys hb3 hR3 hl3 q3
    refine ⟨r, R, j, d, rfl, hR3, last q3 hb3 fun a4 b4 v4 H4 _ hb4 hb34 hR4 hv4 q4 => ?_⟩
    have hl4 := hb34 p _ npr hl3
    refine ⟨_, rfl, p, ys, rfl, .inl ⟨SqL.of hl4, fun l hl => ?_⟩⟩
    exact q4 _ _ (but_new hb4 hl) (hR4.same (newS hl)) True.intro
  refine ⟨r, R, b, d, rfl, hR1, fun H2 s2 => ⟨rfl, _, rfl, ?_⟩⟩
  rw [dec_str]
  have hR2 := hR1.same s2
  have hl2 := s2 _ _ hl1
  have hb2 := hb1.trans (But.of s2)
  have hq : Out C SP r R d H vAny Q E (run R.ks ((if (kdAt R.ks b).2 = S ")" then K10.P.ret () else (valP n).bind fun _ => moreP (S ",") (valP n) fuel).bind fun _ => takeP (S ")")) b) := q1
  by_cases c : (kdAt R.ks b).2 = S ")"
  · refine iffF (by rw [show (kdAt R.ks b).2 = Str.ofString ")" from c, decide_eq_true rfl]; rfl) ?_
    rw [if_pos c] at hq
    exact fin H2 b [] hb2 hR2 hl2 hq
  · refine iftt (by rw [decide_eq_false (show ¬ (kdAt R.ks b).2 = Str.ofString ")" from c)]; rfl) ?_
    rw [if_neg c, bind_assoc'] at hq
    refine ⟨_, rfl, Or.inl ⟨rfl, _, SqL.of hl2⟩, r, R, b, d, hd, rfl, hR2, step hq hb2 fun a3 b3 v3 H3 he3 hb3 hb23 hR3 hv q3 => ?_⟩
    have hl3 := hb23 p _ npr hl2
    have hm := mono_pos he3
    refine ⟨p, [], v3, rfl, rfl, hl3, by rw [sizeLine_eq]; decide, ?_⟩
    exact loop_more (k := 1) (d1 := d) (i0 := i) (d0 := d) (by decide +kernel) rfl rfl hR hp (but_put hb3 hp) (hR3.off hl3 (off_tl hR hp) upd_stay) upd_same (by show 1 ≤ b3; omega) (fuel_ok hR.few b3) q3 (fun H3 j Q1 h1 h2 => ⟨r, R, j, d, hd, rfl, h1, h2⟩) fin
theorem ok_simple (T : Rx K mg C SP fI) (G : Small P w K mg base C SP) (M : MDef K C "simple" "Reader.simple" s_r_simple ["self"]) (GV : MV P w K mg base C SP (v + 1) "value" (valP n) n)
    (GA : Mt3 P w K mg base (L2.CX P w) C (v + 1) "arguments" ["self"] (spD C SP vAny (argsP (valP n)) n)) : MV P w K mg base C SP (v + 2) "simple" (simpleP (valP n)) n := by
  refine mt3_of M T.cls c_r_simple (fun vs H Q E h => ?_) (fun f cdv A outer s H vs Q E hr h => ?_)
  · obtain ⟨r, R, i, d, rfl, _⟩ := h
    rfl
  obtain ⟨r, R, i, d, rfl, hd, hR, q⟩ := h
  have hrm := hr.room
  have nd := c_r_simple.nd
  refine ⟨_, pss_cons (ps_asg (pe_sg G.place noM_place hrm (by decide) pass0 (pv 0)) (pg_tup (n := 2) rfl (pgs_cons (pg_name (i := 1) nd rfl (Or.inl rfl)) (pgs_cons (pg_name (i := 2) nd rfl (Or.inl rfl)) pgs_nil))))
    (pss_cons (ps_if (pt_cmpR op_eq (pe_sg G.sort noM_sort hrm (by decide) pass0 (pv 0)) pe_str (nomark _))
      (pss_cons (ps_fldaug (pv 0) pe_int in_add) (pss_one (ps_ret (pe_tup (pa_cons pe_str (pa_cons (pv 1) (pa_cons (pv 2) (pa_cons (pe_f G.number hrm (by decide) pass0 (pa_cons (pe_slice sl_str (pe_text T (pv 0)) (po_some (pv 1)) (po_some (pv 2))) pa_nil)) pa_nil)))))))) pss_nil)
    (pss_cons (ps_if (PW.pt (pw_or (pt_cmpR op_eq (pe_sg G.fixed noM_fixed hrm (by decide) pass0 (pv 0)) pe_str (nomark _)) (pw_or1 (pt_cmpR op_eq (pe_sg G.fixed noM_fixed hrm (by decide) pass0 (pv 0)) pe_str (nomark _)))))
      (pss_cons (ps_fldaug (pv 0) pe_int in_add) (pss_one (ps_ret (pe_tup (pa_cons pe_str (pa_cons (pv 1) (pa_cons (pv 2) (pa_cons (pe_cmpR op_eq (pe_slice sl_str (pe_text T (pv 0)) (po_some (pv 1)) (po_some (pv 2))) pe_str (nomark _)) pa_nil)))))))) pss_nil)
    (pss_cons (ps_if (pt_val (pe_sm1 G.tryT noM_try (by decide +kernel) hrm (by decide) pass0 (pv 0)))
      (pss_cons (ps_set (i := 3) nd rfl (Or.inl rfl) (pe_sm3 GV noM_value hr passE (pv 0))) (pss_cons (ps_expr (pe_sm1 G.take noM_take (by decide +kernel) hrm (by decide) passE (pv 0)))
        (pss_one (ps_ret (pe_tup (pa_cons pe_str (pa_cons (pv 1) (pa_cons (pe_sg G.lastE noM_last hrm (by decide) pass0 (pv 0)) (pa_cons (pv 3) pa_nil))))))))) pss_nil)
    (pss_cons (ps_asg (pe_sm G.mark noM_mark hrm (by decide) passE (pv 0)) (pg_tup (n := 2) rfl (pgs_cons (pg_name (i := 4) nd rfl (Or.inl rfl)) (pgs_cons (pg_name (i := 5) nd rfl (Or.inl rfl)) pgs_nil))))
    (pss_cons (ps_if (pt_cmpR op_ne (pe_sg G.fixed noM_fixed hrm (by decide) pass0 (pv 0)) pe_str (nomark _)) (pss_one (ps_ret (pe_tup (pa_cons pe_str (pa_cons (pv 1) (pa_cons (pv 2) (pa_cons (pv 4) pa_nil))))))) pss_nil)
    (pss_cons (ps_set (i := 6) nd rfl (Or.inl rfl) (pe_sm3 GA noM_args hr passE (pv 0)))
    (pss_one (ps_ret (pe_tup (pa_cons pe_str (pa_cons (pv 1) (pa_cons (pe_sg G.lastE noM_last hrm (by decide) pass0 (pv 0)) (pa_cons (pv 4) (pa_cons (pv 6) pa_nil)))))))))))))), ?_⟩
  refine ⟨r, R, i, d, rfl, hR, fun p0 H0 s0 hp0 => ?_⟩
  refine ⟨p0, _, rfl, SqT.of hp0, rfl, _, _, rfl, _, _, rfl, rfl, ?_⟩
  have hR0 := hR.same s0
  refine ⟨r, R, i, d, rfl, hR0, fun H1 s1 => ⟨rfl, _, rfl, ?_⟩⟩
  have hR1 := hR0.same s1
  have b1 : Same H H1 := s0.trans s1
  rw [dec_str]
  have q0 := fix_out q
  by_cases c1 : (kdAt R.ks i).1 = S "number"
  · refine iftt (decide_eq_true c1) ?_
    rw [if_pos c1] at q0
    have hi := kd_in1 c1 (by decide +kernel)
    have hi' : i < R.ts.length := by rw [← kinds_len]; exact hi
    obtain ⟨t, ht⟩ := tk_get hi'
    have hn : t.1 = "number" := by
      rw [kd_some ht] at c1
      have c2 : Str.ofString t.1 = S "number" := c1
      rcases lex_sort R.l 0 t (List.mem_of_getElem? ht) with z | z | z | z | z
      · rw [z] at c2; exact absurd c2 (by decide +kernel)
      · rw [z] at c2; exact absurd c2 (by decide +kernel)
      · exact z
      · rw [z] at c2; exact absurd c2 (by decide +kernel)
      · rw [z] at c2; exact absurd c2 (by decide +kernel)
    have hdg := lex_digits R.l 0 t (List.mem_of_getElem? ht) hn
    rw [Nat.sub_zero] at hdg
    refine st_adv (C' := C) T rfl hR1 hi' ?_
    have hR2 := hR1.put (d' := d) (i' := i + 1) hi'
    have q1 := adv_out hi q0
    refine ⟨_, rfl, _, rfl, r, R, i + 1, d, rfl, hR2, _, rfl, _, rfl, _, rfl, _, rfl, _, rfl, line_of hR.short, ?_⟩
    rw [plc_some ht, cut_tx]
    refine ⟨_, rfl, hdg, fun m => ⟨by show 4 ≤ sizeLine; decide, fun p hp => ?_⟩⟩
    exact q1 _ _ (but_new ((But.of b1).trans but_upd) hp) (hR2.same (newS hp)) ⟨p, _, _, _, _, rfl, upd_same⟩
  refine iffF (decide_eq_false c1) ?_
  rw [if_neg c1] at q0
  refine ⟨r, R, i, d, rfl, hR1, fun H2 s2 => ⟨rfl, _, rfl, ?_⟩⟩
  have hR2 := hR1.same s2
  have b2 : Same H H2 := b1.trans s2
  rw [dec_str]
  -- a truth
  have truth : ∀ H3, Same H H3 → ((kdAt R.ks i).2 = S "True" ∨ (kdAt R.ks i).2 = S "False") →
      (tSeq (sFldAug K (tVar 0) (tC (.int 1)) rAdd "at") (tRet (tTup (tCons (tC (.str (Str.ofString "truth"))) (tCons (tVar 1) (tCons (tVar 2) (tCons (tOp rEq (tSl rSlS (tRd C fun R _ _ => .str (tx R.l)) (tPart (tVar 1)) (tPart (tVar 2))) (tC (.str (Str.ofString "True")))) tNil))))))) { nx := fun _ H' => Q .non H', rt := Q }
        [some (.ref r), some (.int ((plc R.ts i).1 : Int)), some (.int ((plc R.ts i).2 : Int)), none, none, none, none] H3 := by
    intro H3 s3 hk
    rw [if_pos hk] at q0
    have hi : i < R.ks.length := by
      rcases hk with z | z
      · exact kd_in z (by decide +kernel)
      · exact kd_in z (by decide +kernel)
    have hi' : i < R.ts.length := by rw [← kinds_len]; exact hi
    have hR3 := hR.same s3
    refine st_adv (C' := C) T rfl hR3 hi' ?_
    have hR4 := hR3.put (d' := d) (i' := i + 1) hi'
    have q1 := adv_out hi q0
    refine ⟨_, rfl, _, rfl, r, R, i + 1, d, rfl, hR4, _, rfl, _, rfl, _, rfl, _, rfl, _, rfl, line_of hR.short, rfl, ?_⟩
    refine ⟨by show 4 ≤ sizeLine; decide, fun p hp => ?_⟩
    exact q1 _ _ (but_new ((But.of s3).trans but_upd) hp) (hR4.same (newS hp)) ⟨p, _, _, _, _, rfl, upd_same⟩
  by_cases c2 : (kdAt R.ks i).2 = S "True"
  · exact iftt (decide_eq_true c2) (iftt rfl (truth H2 b2 (.inl c2)))
  refine iffF (decide_eq_false c2) ?_
  refine ⟨r, R, i, d, rfl, hR2, fun H3 s3 => ⟨rfl, _, rfl, ?_⟩⟩
  have hR3 := hR2.same s3
  have b3 : Same H H3 := b2.trans s3
  rw [dec_str]
  by_cases c3 : (kdAt R.ks i).2 = S "False"
  · exact iftt (decide_eq_true c3) (truth H3 b3 (.inr c3))
  refine iffF (decide_eq_false c3) ?_
  rw [if_neg (fun z => z.elim c2 c3)] at q0
  refine ⟨r, R, i, d, rfl, hR3, try_step (by decide +kernel) (But.of b3) q0 (fun H4 _ hb4 _ hR4 q4 => ⟨true, rfl, iftt rfl ?_⟩) (fun H4 _ hb4 _ hR4 q4 => ⟨false, rfl, iffF rfl ?_⟩)⟩
  · rw [if_pos rfl] at q4
    refine ⟨r, R, i + 1, d, hd, rfl, hR4, step q4 hb4 fun a b v5 H5 _ hb5 _ hR5 hv q5 => ?_⟩
    refine ⟨r, R, b, d, rfl, hR5, last q5 hb5 fun a6 b6 v6 H6 _ hb6 _ hR6 hv6 q6 => ?_⟩
    refine ⟨_, rfl, r, R, b6, d, rfl, hR6, fun m => ⟨_, rfl, by show 4 ≤ sizeLine; decide, fun p hp => ?_⟩⟩
    exact q6 _ _ (but_new hb6 hp) (hR6.same (newS hp)) ⟨p, _, _, _, _, rfl, upd_same⟩
  · rw [if_neg Bool.false_ne_true] at q4
    refine ⟨r, R, i, d, rfl, hR4, step q4 hb4 fun a b v5 H5 _ hb5 _ hR5 hv q5 => ?_⟩
    obtain ⟨pm, z, m, rfl, hpm⟩ := hv
    refine ⟨pm, _, rfl, SqT.of hpm, rfl, _, _, rfl, _, _, rfl, rfl, ?_⟩
    refine ⟨r, R, b, d, rfl, hR5, fun H6 s6 => ⟨rfl, _, rfl, ?_⟩⟩
    have hR6 := hR5.same s6
    have hb6 := hb5.trans (But.of s6)
    rw [dec_str]
    have q6 := fix_out q5
    by_cases c6 : (kdAt R.ks b).2 = S "("
    · refine iffF (by rw [show (kdAt R.ks b).2 = Str.ofString "(" from c6, decide_eq_true rfl]; rfl) ?_
      rw [if_pos c6] at q6
      refine ⟨r, R, b, d, hd, rfl, hR6, last q6 hb6 fun a7 b7 v7 H7 _ hb7 _ hR7 hv7 q7 => ?_⟩
      refine ⟨_, rfl, r, R, b7, d, rfl, hR7, fun m => ⟨_, rfl, _, rfl, by show 5 ≤ sizeLine; decide, fun p hp => ?_⟩⟩
      exact q7 _ _ (but_new hb7 hp) (hR7.same (newS hp)) ⟨p, _, _, _, _, rfl, upd_same⟩
    · refine iftt (by rw [decide_eq_false (show ¬ (kdAt R.ks b).2 = Str.ofString "(" from c6)]; rfl) ?_
      rw [if_neg c6] at q6
      refine ⟨_, rfl, _, rfl, _, rfl, by show 4 ≤ sizeLine; decide, fun p hp => ?_⟩
      exact q6 _ _ (but_new hb6 hp) (hR6.same (newS hp)) ⟨p, _, _, _, _, rfl, upd_same⟩
end
end K10
/-! reached, signed, chain, compared, negated, either. -/
namespace K10
open PySem PySem.Spec PyProof.Rows L2
section
variable {P : Program} {w : World} {K : PySem.W.Frag} {mg : Str → Option Value} {base : Heap} {C SP fI : Addr} {n v : Nat}
theorem many0 {α : Type} {val : α → V → Hp → Prop} {p : K10.P α} : ∀ vs H Q E, spD C SP val p n vs H Q E → vs.length = (["self"] : List Str).length := fun vs H Q E h => by
  obtain ⟨r, R, i, d, rfl, _⟩ := h
  rfl
theorem manyA {α : Type} {val : α → V → Hp → Prop} {p : K10.P α} {ok : V → Prop} {x : Str} : ∀ vs H Q E, spDa C SP val p n ok vs H Q E → vs.length = (["self", x] : List Str).length := fun vs H Q E h => by
  obtain ⟨r, R, i, d, b, rfl, _⟩ := h
  rfl
theorem ok_reached (T : Rx K mg C SP fI) (G : Small P w K mg base C SP) (M : MDef K C "reached" "Reader.reached" s_r_reached ["self"]) (GS : MV P w K mg base C SP v "simple" (simpleP (valP n)) n) : MV P w K mg base C SP (v + 1) "reached" (reachedP (valP n)) n := by
  refine mt3_of M T.cls c_r_reached many0 (fun f cdv A outer s H vs Q E hr h => ?_)
  obtain ⟨r, R, i, d, rfl, hd, hR, q⟩ := h
  have hrm := hr.room
  have nd := c_r_reached.nd
  refine ⟨_, pss_cons (ps_set (i := 1) nd rfl (Or.inl rfl) (pe_sm3 GS noM_simple hr passE (pv 0)))
    (pss_cons (ps_while (passes_of rfl) (pt_val (pe_sm1 G.tryT noM_try (by decide +kernel) hrm (by decide) pass0 (pv 0)))
      (pss_cons (ps_asg (pe_sm G.mark noM_mark hrm (by decide) passE (pv 0)) (pg_tup (n := 2) rfl (pgs_cons (pg_name (i := 2) nd rfl (Or.inl rfl)) (pgs_cons (pg_name (i := 3) nd rfl (Or.inl rfl)) pgs_nil))))
        (pss_one (ps_set (i := 1) nd rfl (Or.inl rfl) (pe_tup (pa_cons pe_str (pa_cons (pe_ix ix_tup (pv 1) pe_int (fun _ _ => rfl)) (pa_cons (pe_sg G.lastE noM_last hrm (by decide) pass0 (pv 0)) (pa_cons (pv 1) (pa_cons (pv 2) pa_nil))))))))))
    (pss_one (ps_ret (pv 1)))), ?_⟩
  refine ⟨r, R, i, d, hd, rfl, hR, step q (But.refl r H) fun a b v1 H1 _ hb1 _ hR1 hv q1 => ?_⟩
  obtain ⟨p1, x0, x1, x2, xs, rfl, hp1⟩ := hv
  refine ⟨fun m σ' H' => ∃ (j : Nat) (p : Addr) (y0 y1 y2 : V) (ys : List V) (o2 o3 : Option V), σ' = [some (.ref r), some (.ref p), o2, o3] ∧ But r H H' ∧ RdAt C H' r R j d ∧ H' p = some (.tup (y0 :: y1 :: y2 :: ys)) ∧ R.ts.length < m + j ∧
    Out C SP r R d H vTree Q E (run R.ks (moreP (S ".") markP m) j), ⟨fuel, b, p1, x0, x1, x2, xs, none, none, rfl, hb1, hR1, hp1, fuel_ok hR.few b, q1⟩, ?_⟩
  rintro m σ' H2 ⟨j, p, y0, y1, y2, ys, o2, o3, rfl, hb2, hR2, hl2, hn2, hq2⟩
  cases m with
  | zero =>
    have := hR2.le
    omega
  | succ m =>
    refine ⟨r, R, j, d, rfl, hR2, ?_⟩
    refine try_step (by decide +kernel) hb2 hq2 (fun H3 _ hb3 hb23 hR3 hq4 => ⟨true, rfl, iftt rfl ?_⟩) (fun H3 _ hb3 hb23 hR3 hq4 => ⟨false, rfl, iffF rfl ?_⟩)
    · rw [if_pos rfl] at hq4
      have np : p ≠ r := fun z => by
        rw [z, hR2.obj] at hl2
        cases hl2
      have hl3 := hb23 p _ np hl2
      refine ⟨_, fun _ _ z => z, r, R, j + 1, d, rfl, hR3, step hq4 hb3 fun a4 b4 v4 H4 he4 hb4 hb34 hR4 hv4 hq5 => ?_⟩
      obtain ⟨pm, z, k, rfl, hpm⟩ := hv4
      have hl4 := hb34 p _ np hl3
      have hj := mark_pos (by cases a4; exact he4)
      refine ⟨pm, _, rfl, SqT.of hpm, rfl, _, _, rfl, _, _, rfl, rfl, ?_⟩
      refine ⟨_, rfl, p, _, 1, y1, rfl, rfl, SqT.of hl4, at1 _ _ _ _, r, R, b4, d, rfl, hR4, fun m2 => ⟨_, rfl, _, rfl, by show 5 ≤ sizeLine; decide, fun p5 hp5 => ?_⟩⟩
      exact ⟨m, Nat.lt_succ_self m, b4, p5, _, _, _, _, _, _, rfl, but_new hb4 hp5, hR4.same (newS hp5), upd_same, by omega, hq5⟩
    · refine ⟨_, rfl, ?_⟩
      exact hq4 _ _ hb3 hR3 ⟨p, y0, y1, y2, ys, rfl, hb23 p _ (fun z => by rw [z, hR2.obj] at hl2; cases hl2) hl2⟩
/-- a minus: begin, take, the rest at n - 1 -/
theorem ok_signed (T : Rx K mg C SP fI) (G : Small P w K mg base C SP) (M : MDef K C "signed" "Reader.signed" s_r_signed ["self"]) (GR : MV P w K mg base C SP v "reached" (reachedP (valP n)) n)
    (GL : ∀ k, n = k + 1 → MV P w K mg base C SP v "signed" (sgnP k) k) : MV P w K mg base C SP (v + 1) "signed" (sgnP n) n := by
  refine mt3_of M T.cls c_r_signed many0 (fun f cdv A outer s H vs Q E hr h => ?_)
  obtain ⟨r, R, i, d, rfl, hd, hR, q⟩ := h
  have hrm := hr.room
  have nd := c_r_signed.nd
  rw [sgnP_eq] at q
  have q0 := fix_out q
  cases n with
  | zero =>
    refine ⟨_, pss_cons (ps_if (pt_cmpR op_ne (pe_sg G.fixed noM_fixed hrm (by decide) pass0 (pv 0)) pe_str (nomark _)) (pss_one (ps_ret (pe_sm3 GR noM_reached hr passE (pv 0)))) pss_nil)
      (pss_cons (ps_set (i := 1) nd rfl (Or.inl rfl) (pe_sg G.begin_ noM_begin hrm (by decide) passE (pv 0))) pss_never), ?_⟩
    refine ⟨r, R, i, d, rfl, hR, fun H1 s1 => ⟨rfl, _, rfl, ?_⟩⟩
    have hR1 := hR.same s1
    rw [dec_str]
    by_cases c : (kdAt R.ks i).2 = S "-"
    · refine iffF (by rw [show (kdAt R.ks i).2 = Str.ofString "-" from c, decide_eq_true rfl]; rfl) ?_
      rw [if_pos c] at q0
      refine ⟨r, R, i, d, rfl, hR1, fun z => absurd z (by omega), fun _ dd H' hb he => ?_⟩
      exact q0 dd H' ((But.of s1).trans hb) he
    · refine iftt (by rw [decide_eq_false (show ¬ (kdAt R.ks i).2 = Str.ofString "-" from c)]; rfl) ?_
      rw [if_neg c] at q0
      exact ⟨r, R, i, d, hd, rfl, hR1, last q0 (But.of s1) fun a b v1 H2 _ hb _ hR2 hv q2 => q2 _ _ hb hR2 hv⟩
  | succ k =>
    have GK := GL k rfl
    refine ⟨_, pss_cons (ps_if (pt_cmpR op_ne (pe_sg G.fixed noM_fixed hrm (by decide) pass0 (pv 0)) pe_str (nomark _)) (pss_one (ps_ret (pe_sm3 GR noM_reached hr passE (pv 0)))) pss_nil)
      (pss_cons (ps_set (i := 1) nd rfl (Or.inl rfl) (pe_sg G.begin_ noM_begin hrm (by decide) passE (pv 0))) (pss_cons (ps_expr (pe_sm1 G.take noM_take (by decide +kernel) hrm (by decide) passE (pv 0)))
      (pss_cons (ps_set (i := 2) nd rfl (Or.inl rfl) (pe_sm3 GK noM_signed hr passE (pv 0))) (pss_cons (ps_fldaug (pv 0) pe_int in_sub)
      (pss_one (ps_ret (pe_tup (pa_cons pe_str (pa_cons (pv 1) (pa_cons (pe_ix ix_tup (pv 2) pe_int (fun _ _ => rfl)) (pa_cons (pv 2) pa_nil))))))))))), ?_⟩
    refine ⟨r, R, i, d, rfl, hR, fun H1 s1 => ⟨rfl, _, rfl, ?_⟩⟩
    have hR1 := hR.same s1
    rw [dec_str]
    by_cases c : (kdAt R.ks i).2 = S "-"
    · refine iffF (by rw [show (kdAt R.ks i).2 = Str.ofString "-" from c, decide_eq_true rfl]; rfl) ?_
      rw [if_pos c] at q0
      have hi := kd_in c (by decide +kernel)
      refine ⟨r, R, i, d, rfl, hR1, fun _ H2 m hb2 hR2 => ?_, fun z => absurd (show d < 30 by omega) z⟩
      have hb2' := (But.of s1).trans hb2
      have q1 := adv_out hi q0
      refine ⟨r, R, i, d + 1, rfl, hR2, ?_⟩
      rw [show run R.ks (takeP (Str.ofString "-")) i = (some (), i + 1) from take_yes c hi]
      intro v3 H3 hb3 hR3 _
      have hb3' := hb2'.trans hb3
      refine ⟨r, R, i + 1, d + 1, by omega, rfl, hR3, last q1 hb3' fun a b v4 H4 _ hb4 _ hR4 hv q4 => ?_⟩
      obtain ⟨p4, x0, x1, x2, xs, rfl, hp4⟩ := hv
      refine st_dec T rfl hR4 ?_
      have np : p4 ≠ r := fun z => by
        rw [z, hR4.obj] at hp4
        cases hp4
      have hR5 : RdAt C (upd H4 r (.ins C R.dx (rfs R b d))) r R b d := hR4.put hR4.le
      have hp5 : (upd H4 r (.ins C R.dx (rfs R b d))) p4 = some (.tup (x0 :: x1 :: x2 :: xs)) := by rw [upd_ne np]; exact hp4
      refine ⟨_, rfl, _, rfl, p4, _, 2, x2, rfl, rfl, SqT.of hp5, at2 _ _ _ _, _, rfl, by show 4 ≤ sizeLine; decide, fun p6 hp6 => ?_⟩
      exact q4 _ _ (but_new (hb4.trans but_upd) hp6) (hR5.same (newS hp6)) ⟨p6, _, _, _, _, rfl, upd_same⟩
    · refine iftt (by rw [decide_eq_false (show ¬ (kdAt R.ks i).2 = Str.ofString "-" from c)]; rfl) ?_
      rw [if_neg c] at q0
      exact ⟨r, R, i, d, hd, rfl, hR1, last q0 (But.of s1) fun a b v1 H2 _ hb _ hR2 hv q2 => q2 _ _ hb hR2 hv⟩
/-- the same with a not -/
theorem ok_negated (T : Rx K mg C SP fI) (G : Small P w K mg base C SP) (M : MDef K C "negated" "Reader.negated" s_r_negated ["self"]) (GR : MV P w K mg base C SP v "compared" (comparedP (sgnP n)) n)
    (GL : ∀ k, n = k + 1 → MV P w K mg base C SP v "negated" (negP k) k) : MV P w K mg base C SP (v + 1) "negated" (negP n) n := by
  refine mt3_of M T.cls c_r_negated many0 (fun f cdv A outer s H vs Q E hr h => ?_)
  obtain ⟨r, R, i, d, rfl, hd, hR, q⟩ := h
  have hrm := hr.room
  have nd := c_r_negated.nd
  rw [negP_eq] at q
  have q0 := fix_out q
  cases n with
  | zero =>
    refine ⟨_, pss_cons (ps_if (pt_cmpR op_ne (pe_sg G.fixed noM_fixed hrm (by decide) pass0 (pv 0)) pe_str (nomark _)) (pss_one (ps_ret (pe_sm3 GR noM_compared hr passE (pv 0)))) pss_nil)
      (pss_cons (ps_set (i := 1) nd rfl (Or.inl rfl) (pe_sg G.begin_ noM_begin hrm (by decide) passE (pv 0))) pss_never), ?_⟩
    refine ⟨r, R, i, d, rfl, hR, fun H1 s1 => ⟨rfl, _, rfl, ?_⟩⟩
    have hR1 := hR.same s1
    rw [dec_str]
    by_cases c : (kdAt R.ks i).2 = S "not"
    · refine iffF (by rw [show (kdAt R.ks i).2 = Str.ofString "not" from c, decide_eq_true rfl]; rfl) ?_
      rw [if_pos c] at q0
      refine ⟨r, R, i, d, rfl, hR1, fun z => absurd z (by omega), fun _ dd H' hb he => ?_⟩
      exact q0 dd H' ((But.of s1).trans hb) he
    · refine iftt (by rw [decide_eq_false (show ¬ (kdAt R.ks i).2 = Str.ofString "not" from c)]; rfl) ?_
      rw [if_neg c] at q0
      exact ⟨r, R, i, d, hd, rfl, hR1, last q0 (But.of s1) fun a b v1 H2 _ hb _ hR2 hv q2 => q2 _ _ hb hR2 hv⟩
  | succ k =>
    have GK := GL k rfl
    refine ⟨_, pss_cons (ps_if (pt_cmpR op_ne (pe_sg G.fixed noM_fixed hrm (by decide) pass0 (pv 0)) pe_str (nomark _)) (pss_one (ps_ret (pe_sm3 GR noM_compared hr passE (pv 0)))) pss_nil)
      (pss_cons (ps_set (i := 1) nd rfl (Or.inl rfl) (pe_sg G.begin_ noM_begin hrm (by decide) passE (pv 0))) (pss_cons (ps_expr (pe_sm1 G.take noM_take (by decide +kernel) hrm (by decide) passE (pv 0)))
      (pss_cons (ps_set (i := 2) nd rfl (Or.inl rfl) (pe_sm3 GK noM_negated hr passE (pv 0))) (pss_cons (ps_fldaug (pv 0) pe_int in_sub)
      (pss_one (ps_ret (pe_tup (pa_cons pe_str (pa_cons (pv 1) (pa_cons (pe_ix ix_tup (pv 2) pe_int (fun _ _ => rfl)) (pa_cons (pv 2) pa_nil))))))))))), ?_⟩
    refine ⟨r, R, i, d, rfl, hR, fun H1 s1 => ⟨rfl, _, rfl, ?_⟩⟩
    have hR1 := hR.same s1
    rw [dec_str]
    by_cases c : (kdAt R.ks i).2 = S "not"
    · refine iffF (by rw [show (kdAt R.ks i).2 = Str.ofString "not" from c, decide_eq_true rfl]; rfl) ?_
      rw [if_pos c] at q0
      have hi := kd_in c (by decide +kernel)
      refine ⟨r, R, i, d, rfl, hR1, fun _ H2 m hb2 hR2 => ?_, fun z => absurd (show d < 30 by omega) z⟩
      have hb2' := (But.of s1).trans hb2
      have q1 := adv_out hi q0
      refine ⟨r, R, i, d + 1, rfl, hR2, ?_⟩
      rw [show run R.ks (takeP (Str.ofString "not")) i = (some (), i + 1) from take_yes c hi]
      intro v3 H3 hb3 hR3 _
      have hb3' := hb2'.trans hb3
      refine ⟨r, R, i + 1, d + 1, by omega, rfl, hR3, last q1 hb3' fun a b v4 H4 _ hb4 _ hR4 hv q4 => ?_⟩
      obtain ⟨p4, x0, x1, x2, xs, rfl, hp4⟩ := hv
      refine st_dec T rfl hR4 ?_
      have np : p4 ≠ r := fun z => by
        rw [z, hR4.obj] at hp4
        cases hp4
      have hR5 : RdAt C (upd H4 r (.ins C R.dx (rfs R b d))) r R b d := hR4.put hR4.le
      have hp5 : (upd H4 r (.ins C R.dx (rfs R b d))) p4 = some (.tup (x0 :: x1 :: x2 :: xs)) := by rw [upd_ne np]; exact hp4
      refine ⟨_, rfl, _, rfl, p4, _, 2, x2, rfl, rfl, SqT.of hp5, at2 _ _ _ _, _, rfl, by show 4 ≤ sizeLine; decide, fun p6 hp6 => ?_⟩
      exact q4 _ _ (but_new (hb4.trans but_upd) hp6) (hR5.same (newS hp6)) ⟨p6, _, _, _, _, rfl, upd_same⟩
    · refine iftt (by rw [decide_eq_false (show ¬ (kdAt R.ks i).2 = Str.ofString "not" from c)]; rfl) ?_
      rw [if_neg c] at q0
      exact ⟨r, R, i, d, hd, rfl, hR1, last q0 (But.of s1) fun a b v1 H2 _ hb _ hR2 hv q2 => q2 _ _ hb hR2 hv⟩
end
end K10
/-! chain, compared, either, let, if, loop, value; then all of them at every depth. -/
namespace K10
open PySem PySem.Spec PyProof.Rows L2
theorem pe_no {X : Cx} {e : Expr} : PE X e (fun _ _ _ => False) := ⟨fun _ _ _ _ _ _ h => h.elim⟩
section
variable {P : Program} {w : World} {K : PySem.W.Frag} {mg : Str → Option Value} {base : Heap} {C SP fI : Addr} {n v : Nat}
def okN (mg : Str → Option Value) (x : Str) : V → Prop := fun b => ∃ a, b = .ref a ∧ mg x = some (.ref a)
abbrev MA (P : Program) (w : World) (K : PySem.W.Frag) (mg : Str → Option Value) (base : Heap) (C SP : Addr) (d : Nat) (m x : Str) (p : K10.P Unit) (n : Nat) (ok : V → Prop) : Prop := Mt3 P w K mg base (L2.CX P w) C d m ["self", x] (spDa C SP vTree p n ok)
theorem dp2 {H : Hp} {a : Addr} {x y : Str} (h : SqT K H a [.str x, .str y]) : Dp K H (.ref a) (.tuple [.str x, .str y]) := .tup h (.cons (.str x) (.cons (.str y) .nil))
theorem shpS : SeqAt.shaped (.tuple [.str "+", .str "-"]) = true := by decide +kernel
theorem shpP : SeqAt.shaped (.tuple [.str "*", .str "/"]) = true := by decide +kernel
theorem ok_products (T : Rx K mg C SP fI) (G : Small P w K mg base C SP) (M : MDef K C "chain" "Reader.chain" s_r_chain ["self", "signs"]) (GS : MV P w K mg base C SP v "signed" (sgnP n) n) : MA P w K mg base C SP (v + 1) "chain" "signs" (productP (sgnP n)) n (okN mg "PRODUCTS") := by
  refine mt3_of M T.cls c_r_chain manyA (fun f cdv A outer s H vs Q E hr h => ?_)
  obtain ⟨r, R, i, d, b0, rfl, ⟨ap, rfl, ga⟩, hd, hR, q⟩ := h
  obtain ⟨ap', gp, hp⟩ := T.prods
  obtain ⟨as, gs, hs⟩ := T.sums
  have eap : ap' = ap := by
    rw [ga] at gp
    injection gp with z
    injection z with z
    exact z.symm
  subst eap
  have hrm := hr.room
  have nd := c_r_chain.nd
  refine ⟨_, pss_cons (ps_set (i := 2) nd rfl (Or.inl rfl) (pe_ifExp (pt_cmpR (op_eqD hrm.units) (pv 1) (pe_glob (v := .ref as) (by rfl) gs rfl) (nomark _)) pe_no (pe_sm3 GS noM_signed hr passE (pv 0))))
    (pss_cons (ps_while (passes_of rfl) (pt_cmpR op_in_seq (pe_sg G.fixed noM_fixed hrm (by decide) pass0 (pv 0)) (pv 1) rfl)
      (pss_cons (ps_set (i := 3) nd rfl (Or.inl rfl) (pe_sg G.fixed noM_fixed hrm (by decide) pass0 (pv 0))) (pss_cons (ps_fldaug (pv 0) pe_int in_add)
      (pss_cons (ps_set (i := 4) nd rfl (Or.inl rfl) (pe_ifExp (pt_cmpR (op_eqD hrm.units) (pv 1) (pe_glob (v := .ref as) (by rfl) gs rfl) (nomark _)) pe_no (pe_sm3 GS noM_signed hr passE (pv 0))))
      (pss_one (ps_set (i := 2) nd rfl (Or.inl rfl) (pe_tup (pa_cons pe_str (pa_cons (pe_ix ix_tup (pv 2) pe_int (fun _ _ => rfl)) (pa_cons (pe_ix ix_tup (pv 4) pe_int (fun _ _ => rfl)) (pa_cons (pv 3) (pa_cons (pv 2) (pa_cons (pv 4) pa_nil)))))))))))))
    (pss_one (ps_ret (pv 2)))), ?_⟩
  refine ⟨_, rfl, _, _, dp2 (hp H), dp2 (hs H), shpP, shpS, _, rfl, iffF (by decide +kernel) ?_⟩
  refine ⟨r, R, i, d, hd, rfl, hR, step q (But.refl r H) fun a b v1 H1 _ hb1 _ hR1 hv q1 => ?_⟩
  obtain ⟨p1, x0, x1, x2, xs, rfl, hp1⟩ := hv
  refine loop_chain T (c := ap') (ss := [S "*", S "/"]) (f := K10.P.ret) (v1 := .ref ap') (d1 := d) (by decide +kernel) hp hb1 hR1 hp1 (fuel_ok hR.few b) (by rw [bind_ret']; exact q1) (fun σ' H Q1 h1 q => ⟨_, h1, q⟩) (fun σ' H2 j Q1 h0 h1 hR2 q2 => ?_) fun H2 j p y0 y1 y2 ys o3 o4 hb2 hR2 hl2 q2 => ?_
  · exact ⟨_, h1, _, _, dp2 (hp H2), dp2 (hs H2), shpP, shpS, _, rfl, iffF (by decide +kernel) ⟨r, R, j, d, hd, h0, hR2, q2⟩⟩
  · exact ⟨_, rfl, q2 _ _ hb2 hR2 ⟨p, y0, y1, y2, ys, rfl, hl2⟩⟩
theorem ok_sums (T : Rx K mg C SP fI) (G : Small P w K mg base C SP) (M : MDef K C "chain" "Reader.chain" s_r_chain ["self", "signs"]) (GP : MA P w K mg base C SP v "chain" "signs" (productP (sgnP n)) n (okN mg "PRODUCTS")) : MA P w K mg base C SP (v + 1) "chain" "signs" (sumP (sgnP n)) n (okN mg "SUMS") := by
  refine mt3_of M T.cls c_r_chain manyA (fun f cdv A outer s H vs Q E hr h => ?_)
  obtain ⟨r, R, i, d, b0, rfl, ⟨as', rfl, ga⟩, hd, hR, q⟩ := h
  obtain ⟨ap, gp, hp⟩ := T.prods
  obtain ⟨as, gs, hs⟩ := T.sums
  have eap : as' = as := by
    rw [ga] at gs
    injection gs with z
    injection z with z
  subst eap
  have hrm := hr.room
  have nd := c_r_chain.nd
  refine ⟨_, pss_cons (ps_set (i := 2) nd rfl (Or.inl rfl) (pe_ifExp (pt_cmpR (op_eqD hrm.units) (pv 1) (pe_glob (v := .ref as') (by rfl) gs rfl) (nomark _)) (pe_sm3a GP noM_chain hr passE (pv 0) (pe_glob (v := .ref ap) (by rfl) gp rfl)) pe_no))
    (pss_cons (ps_while (passes_of rfl) (pt_cmpR op_in_seq (pe_sg G.fixed noM_fixed hrm (by decide) pass0 (pv 0)) (pv 1) rfl)
      (pss_cons (ps_set (i := 3) nd rfl (Or.inl rfl) (pe_sg G.fixed noM_fixed hrm (by decide) pass0 (pv 0))) (pss_cons (ps_fldaug (pv 0) pe_int in_add)
      (pss_cons (ps_set (i := 4) nd rfl (Or.inl rfl) (pe_ifExp (pt_cmpR (op_eqD hrm.units) (pv 1) (pe_glob (v := .ref as') (by rfl) gs rfl) (nomark _)) (pe_sm3a GP noM_chain hr passE (pv 0) (pe_glob (v := .ref ap) (by rfl) gp rfl)) pe_no))
      (pss_one (ps_set (i := 2) nd rfl (Or.inl rfl) (pe_tup (pa_cons pe_str (pa_cons (pe_ix ix_tup (pv 2) pe_int (fun _ _ => rfl)) (pa_cons (pe_ix ix_tup (pv 4) pe_int (fun _ _ => rfl)) (pa_cons (pv 3) (pa_cons (pv 2) (pa_cons (pv 4) pa_nil)))))))))))))
    (pss_one (ps_ret (pv 2)))), ?_⟩
  refine ⟨_, rfl, _, _, dp2 (hs H), dp2 (hs H), shpS, shpS, _, rfl, iftt (by decide +kernel) ?_⟩
  refine ⟨r, R, i, d, rfl, hR, r, R, i, d, _, rfl, ⟨ap, rfl, gp⟩, hd, hR, step q (But.refl r H) fun a b v1 H1 _ hb1 _ hR1 hv q1 => ?_⟩
  obtain ⟨p1, x0, x1, x2, xs, rfl, hp1⟩ := hv
  refine loop_chain T (c := as') (ss := [S "+", S "-"]) (f := K10.P.ret) (v1 := .ref as') (d1 := d) (by decide +kernel) hs hb1 hR1 hp1 (fuel_ok hR.few b) (by rw [bind_ret']; exact q1) (fun σ' H Q1 h1 q => ⟨_, h1, q⟩) (fun σ' H2 j Q1 h0 h1 hR2 q2 => ?_) fun H2 j p y0 y1 y2 ys o3 o4 hb2 hR2 hl2 q2 => ?_
  · exact ⟨_, h1, _, _, dp2 (hs H2), dp2 (hs H2), shpS, shpS, _, rfl, iftt (by decide +kernel) ⟨r, R, j, d, h0, hR2, r, R, j, d, _, rfl, ⟨ap, rfl, gp⟩, hd, hR2, q2⟩⟩
  · exact ⟨_, rfl, q2 _ _ hb2 hR2 ⟨p, y0, y1, y2, ys, rfl, hl2⟩⟩
theorem ok_compared (T : Rx K mg C SP fI) (G : Small P w K mg base C SP) (M : MDef K C "compared" "Reader.compared" s_r_compared ["self"]) (GS : MA P w K mg base C SP v "chain" "signs" (sumP (sgnP n)) n (okN mg "SUMS")) : MV P w K mg base C SP (v + 1) "compared" (comparedP (sgnP n)) n := by
  refine mt3_of M T.cls c_r_compared many0 (fun f cdv A outer s H vs Q E hr h => ?_)
  obtain ⟨r, R, i, d, rfl, hd, hR, q⟩ := h
  obtain ⟨as, gs, hs⟩ := T.sums
  have hrm := hr.room
  have nd := c_r_compared.nd
  refine ⟨_, pss_cons (ps_set (i := 1) nd rfl (Or.inl rfl) (pe_sm3a GS noM_chain hr passE (pv 0) (pe_glob (v := .ref as) (by rfl) gs rfl)))
    (pss_cons (ps_if (PW.pt (pw_or (pt_cmpR op_eq (pe_sg G.fixed noM_fixed hrm (by decide) pass0 (pv 0)) pe_str (nomark _)) (pw_or1 (pt_cmpR op_eq (pe_sg G.fixed noM_fixed hrm (by decide) pass0 (pv 0)) pe_str (nomark _)))))
      (pss_cons (ps_set (i := 2) nd rfl (Or.inl rfl) (pe_sg G.fixed noM_fixed hrm (by decide) pass0 (pv 0))) (pss_cons (ps_fldaug (pv 0) pe_int in_add)
      (pss_cons (ps_set (i := 3) nd rfl (Or.inl rfl) (pe_sm3a GS noM_chain hr passE (pv 0) (pe_glob (v := .ref as) (by rfl) gs rfl)))
      (pss_one (ps_ret (pe_tup (pa_cons pe_str (pa_cons (pe_ix ix_tup (pv 1) pe_int (fun _ _ => rfl)) (pa_cons (pe_ix ix_tup (pv 3) pe_int (fun _ _ => rfl)) (pa_cons (pv 2) (pa_cons (pv 1) (pa_cons (pv 3) pa_nil))))))))))) ) pss_nil)
    (pss_one (ps_ret (pv 1)))), ?_⟩
  refine ⟨r, R, i, d, rfl, hR, r, R, i, d, _, rfl, ⟨as, rfl, gs⟩, hd, hR, step q (But.refl r H) fun a b v1 H1 _ hb1 _ hR1 hv q1 => ?_⟩
  obtain ⟨p1, x0, x1, x2, xs, rfl, hp1⟩ := hv
  have q2 := fix_out q1
  refine ⟨r, R, b, d, rfl, hR1, fun H2 s2 => ⟨rfl, _, rfl, ?_⟩⟩
  have hR2 := hR1.same s2
  have hp2 := s2 _ _ hp1
  have hb2 := hb1.trans (But.of s2)
  rw [dec_str]
  -- the sign is there
  have more : ∀ H3, But r H H3 → RdAt C H3 r R b d → H3 p1 = some (.tup (x0 :: x1 :: x2 :: xs)) → ((kdAt R.ks b).2 = S "==" ∨ (kdAt R.ks b).2 = S "<") →
      (tSeq (tAsg (tG C ΦFixed E0) (gName 2)) (tSeq (sFldAug K (tVar 0) (tC (.int 1)) rAdd "at") (tSeq (tAsg (fun σ H Q => ∃ r R i d, σ[0]? = some (some (.ref r)) ∧ RdAt C H r R i d ∧ (tC (.ref as)) σ H fun y H2 => (spDa C SP vTree (sumP (sgnP n)) n (okN mg "SUMS")) [.ref r, y] H2 Q E) (gName 3))
        (tRet (tTup (tCons (tC (.str (Str.ofString "binary"))) (tCons (tOp (rIxT K) (tVar 1) (tC (.int 1))) (tCons (tOp (rIxT K) (tVar 3) (tC (.int 2))) (tCons (tVar 2) (tCons (tVar 1) (tCons (tVar 3) tNil)))))))))))
        { nx := fun σ H' => (tRet (tVar 1)) { nx := fun _ H' => Q .non H', rt := Q } σ H', rt := Q } [some (.ref r), some (.ref p1), none, none] H3 := by
    intro H3 hb3 hR3 hp3 hk
    rw [if_pos hk] at q2
    have hi : b < R.ks.length := by
      rcases hk with z | z
      · exact kd_in z (by decide +kernel)
      · exact kd_in z (by decide +kernel)
    have hi' : b < R.ts.length := by rw [← kinds_len]; exact hi
    refine ⟨r, R, b, d, rfl, hR3, fun H4 s4 => ?_⟩
    have hR4 := hR3.same s4
    refine st_adv (C' := C) T rfl hR4 hi' ?_
    have hR5 := hR4.put (d' := d) (i' := b + 1) hi'
    have hb5 := (hb3.trans (But.of s4)).trans (but_upd (o := .ins C R.dx (rfs R (b + 1) d)))
    have np : p1 ≠ r := fun z => by
      rw [z, hR3.obj] at hp3
      cases hp3
    refine ⟨r, R, b + 1, d, rfl, hR5, r, R, b + 1, d, _, rfl, ⟨as, rfl, gs⟩, hd, hR5, last (adv_out hi q2) hb5 fun a6 b6 v6 H6 _ hb6 hb56 hR6 hv6 q6 => ?_⟩
    obtain ⟨p4, z0, z1, z2, zs, rfl, hp4⟩ := hv6
    have hp6 := hb56 p1 _ np (by rw [upd_ne np]; exact s4 _ _ hp3)
    refine ⟨_, rfl, p1, _, 1, x1, rfl, rfl, SqT.of hp6, at1 _ _ _ _, _, rfl, p4, _, 2, z2, rfl, rfl, SqT.of hp4, at2 _ _ _ _, _, rfl, _, rfl, _, rfl, by show 6 ≤ sizeLine; decide, fun p7 hp7 => ?_⟩
    exact q6 _ _ (but_new hb6 hp7) (hR6.same (newS hp7)) ⟨p7, _, _, _, _, rfl, upd_same⟩
  by_cases c1 : (kdAt R.ks b).2 = S "=="
  · exact iftt (decide_eq_true c1) (iftt rfl (more H2 hb2 hR2 hp2 (.inl c1)))
  refine iffF (decide_eq_false c1) ?_
  refine ⟨r, R, b, d, rfl, hR2, fun H3 s3 => ⟨rfl, _, rfl, ?_⟩⟩
  have hR3 := hR2.same s3
  have hp3 := s3 _ _ hp2
  have hb3 := hb2.trans (But.of s3)
  rw [dec_str]
  by_cases c2 : (kdAt R.ks b).2 = S "<"
  · exact iftt (decide_eq_true c2) (more H3 hb3 hR3 hp3 (.inr c2))
  refine iffF (decide_eq_false c2) ?_
  rw [if_neg (fun z => z.elim c1 c2)] at q2
  exact ⟨_, rfl, q2 _ _ hb3 hR3 ⟨p1, x0, x1, x2, xs, rfl, hp3⟩⟩
/-- either(2) -/
theorem ok_either2 (T : Rx K mg C SP fI) (G : Small P w K mg base C SP) (M : MDef K C "either" "Reader.either" s_r_either ["self", "level"]) (GN : MV P w K mg base C SP v "negated" (negP n) n) : MA P w K mg base C SP (v + 1) "either" "level" (negP n) n (fun b => b = .int 2) := by
  refine mt3_of M T.cls c_r_either manyA (fun f cdv A outer s H vs Q E hr h => ?_)
  obtain ⟨r, R, i, d, b0, rfl, rfl, hd, hR, q⟩ := h
  obtain ⟨al, b, c, gl, hl, _, _⟩ := T.levels
  have hrm := hr.room
  refine ⟨_, pss_cons (ps_if (pt_cmpR op_eq (pv 1) (pe_callB call_len_seq (by rfl) T.tx.len boot_len (pa_cons (pe_glob (v := .ref al) (by rfl) gl rfl) pa_nil)) (nomark _)) (pss_one (ps_ret (pe_sm3 GN noM_negated hr passE (pv 0)))) pss_nil) pss_never, ?_⟩
  refine ⟨_, rfl, al, _, rfl, .inr (hl H), rfl, _, rfl, iftt rfl ?_⟩
  exact ⟨r, R, i, d, hd, rfl, hR, last q (But.refl r H) fun a b v1 H2 _ hb _ hR2 hv q2 => q2 _ _ hb hR2 hv⟩
/-- either(0), either(1) -/
theorem ok_either (T : Rx K mg C SP fI) (G : Small P w K mg base C SP) (M : MDef K C "either" "Reader.either" s_r_either ["self", "level"]) {lv : Int} {s : Str} {p : K10.P Unit} (hlv : ¬ lv = 2) (hs : Str.ofString "" ∉ [s])
    (hc : ∀ al b c, (∀ H, SqT K H al [.ref b, .ref c]) → (∀ H, SqT K H b [.str (S "or")]) → (∀ H, SqT K H c [.str (S "and")]) → ∃ x, atI [V.ref b, .ref c] lv = some (.ref x) ∧ ∀ H, SqT K H x [.str s])
    (GE : MA P w K mg base C SP v "either" "level" p n (fun b => b = .int (lv + 1))) : MA P w K mg base C SP (v + 1) "either" "level" (p.bind fun _ => chainP [s] p fuel) n (fun b => b = .int lv) := by
  refine mt3_of M T.cls c_r_either manyA (fun f cdv A outer s' H vs Q E hr h => ?_)
  obtain ⟨r, R, i, d, b0, rfl, rfl, hd, hR, q⟩ := h
  obtain ⟨al, b, c, gl, hl, hbs, hcs⟩ := T.levels
  obtain ⟨x, hx, hxs⟩ := hc al b c hl hbs hcs
  have hrm := hr.room
  have nd := c_r_either.nd
  refine ⟨_, pss_cons (ps_if (pt_cmpR op_eq (pv 1) (pe_callB call_len_seq (by rfl) T.tx.len boot_len (pa_cons (pe_glob (v := .ref al) (by rfl) gl rfl) pa_nil)) (nomark _)) (pss_one (ps_ret pe_no)) pss_nil)
    (pss_cons (ps_set (i := 2) nd rfl (Or.inl rfl) (pe_sm3a GE noM_either hr passE (pv 0) (pe_op op_add (pv 1) pe_int)))
    (pss_cons (ps_while (passes_of rfl) (pt_cmpR op_in_seq (pe_sg G.fixed noM_fixed hrm (by decide) pass0 (pv 0)) (pe_ix ix_tup (pe_glob (v := .ref al) (by rfl) gl rfl) (pv 1) (fun _ _ => rfl)) rfl)
      (pss_cons (ps_set (i := 3) nd rfl (Or.inl rfl) (pe_sg G.fixed noM_fixed hrm (by decide) pass0 (pv 0))) (pss_cons (ps_fldaug (pv 0) pe_int in_add)
      (pss_cons (ps_set (i := 4) nd rfl (Or.inl rfl) (pe_sm3a GE noM_either hr passE (pv 0) (pe_op op_add (pv 1) pe_int)))
      (pss_one (ps_set (i := 2) nd rfl (Or.inl rfl) (pe_tup (pa_cons pe_str (pa_cons (pe_ix ix_tup (pv 2) pe_int (fun _ _ => rfl)) (pa_cons (pe_ix ix_tup (pv 4) pe_int (fun _ _ => rfl)) (pa_cons (pv 3) (pa_cons (pv 2) (pa_cons (pv 4) pa_nil)))))))))))))
    (pss_one (ps_ret (pv 2))))), ?_⟩
  refine ⟨_, rfl, al, _, rfl, .inr (hl H), rfl, _, rfl, iffF ?_ ?_⟩
  · refine decide_eq_false fun z => hlv ?_
    exact V.int.inj z
  refine ⟨r, R, i, d, rfl, hR, _, rfl, _, _, rfl, rfl, r, R, i, d, _, rfl, rfl, hd, hR, step q (But.refl r H) fun a b2 v1 H1 _ hb1 _ hR1 hv q1 => ?_⟩
  obtain ⟨p1, x0, x1, x2, xs, rfl, hp1⟩ := hv
  refine loop_chain T (c := x) (ss := [s]) (f := K10.P.ret) (v1 := .int lv) (d1 := d) hs hxs hb1 hR1 hp1 (fuel_ok hR.few b2) (by rw [bind_ret']; exact q1) (fun σ' H Q1 h1 q => ⟨_, h1, al, _, lv, _, rfl, rfl, hl H, hx, q⟩) (fun σ' H2 j Q1 h0 h1 hR2 q2 => ?_) fun H2 j p y0 y1 y2 ys o3 o4 hb2 hR2 hl2 q2 => ?_
  · exact ⟨r, R, j, d, h0, hR2, _, h1, _, _, rfl, rfl, r, R, j, d, _, rfl, rfl, hd, hR2, q2⟩
  · exact ⟨_, rfl, q2 _ _ hb2 hR2 ⟨p, y0, y1, y2, ys, rfl, hl2⟩⟩
end
end K10
/-! let, if, loop, value; then all of them at every depth. -/
namespace K10
open PySem PySem.Spec PyProof.Rows L2
section
variable {P : Program} {w : World} {K : PySem.W.Frag} {mg : Str → Option Value} {base : Heap} {C SP fI : Addr} {n v : Nat}
def okI : V → Prop := fun b => ∃ s : Int, b = .int s
theorem ok_if (T : Rx K mg C SP fI) (G : Small P w K mg base C SP) (M : MDef K C "if_value" "Reader.if_value" s_r_if_value ["self", "start"]) (GV : MV P w K mg base C SP v "value" (valP n) n) : MA P w K mg base C SP (v + 1) "if_value" "start" (ifP (valP n)) n okI := by
  refine mt3_of M T.cls c_r_if_value manyA (fun f cdv A outer s H vs Q E hr h => ?_)
  obtain ⟨r, R, i, d, b0, rfl, ⟨st, rfl⟩, hd, hR, q⟩ := h
  have hrm := hr.room
  have nd := c_r_if_value.nd
  refine ⟨_, pss_cons (ps_expr (pe_sm1 G.take noM_take (by decide +kernel) hrm (by decide) passE (pv 0))) (pss_cons (ps_set (i := 2) nd rfl (Or.inl rfl) (pe_sm3 GV noM_value hr passE (pv 0)))
    (pss_cons (ps_expr (pe_sm1 G.take noM_take (by decide +kernel) hrm (by decide) passE (pv 0))) (pss_cons (ps_set (i := 3) nd rfl (Or.inl rfl) (pe_sm3 GV noM_value hr passE (pv 0)))
    (pss_cons (ps_expr (pe_sm1 G.take noM_take (by decide +kernel) hrm (by decide) passE (pv 0))) (pss_cons (ps_set (i := 4) nd rfl (Or.inl rfl) (pe_sm3 GV noM_value hr passE (pv 0)))
    (pss_one (ps_ret (pe_tup (pa_cons pe_str (pa_cons (pv 1) (pa_cons (pe_sg G.lastE noM_last hrm (by decide) pass0 (pv 0)) (pa_cons (pv 2) (pa_cons (pv 3) (pa_cons (pv 4) pa_nil)))))))))))))), ?_⟩
  refine ⟨r, R, i, d, rfl, hR, step q (But.refl r H) fun a1 b1 v1 H1 _ hb1 _ hR1 _ q1 => ?_⟩
  refine ⟨r, R, b1, d, hd, rfl, hR1, step q1 hb1 fun a2 b2 v2 H2 _ hb2 _ hR2 _ q2 => ?_⟩
  refine ⟨r, R, b2, d, rfl, hR2, step q2 hb2 fun a3 b3 v3 H3 _ hb3 _ hR3 _ q3 => ?_⟩
  refine ⟨r, R, b3, d, hd, rfl, hR3, step q3 hb3 fun a4 b4 v4 H4 _ hb4 _ hR4 _ q4 => ?_⟩
  refine ⟨r, R, b4, d, rfl, hR4, step q4 hb4 fun a5 b5 v5 H5 _ hb5 _ hR5 _ q5 => ?_⟩
  refine ⟨r, R, b5, d, hd, rfl, hR5, last q5 hb5 fun a6 b6 v6 H6 _ hb6 _ hR6 _ q6 => ?_⟩
  refine ⟨_, rfl, r, R, b6, d, rfl, hR6, fun m => ⟨_, rfl, _, rfl, _, rfl, by show 6 ≤ sizeLine; decide, fun p hp => ?_⟩⟩
  exact q6 _ _ (but_new hb6 hp) (hR6.same (newS hp)) ⟨p, _, _, _, _, rfl, upd_same⟩
theorem ok_let (T : Rx K mg C SP fI) (G : Small P w K mg base C SP) (M : MDef K C "let_value" "Reader.let_value" s_r_let_value ["self", "start"]) (GV : MV P w K mg base C SP v "value" (valP n) n) : MA P w K mg base C SP (v + 1) "let_value" "start" (letP (valP n)) n okI := by
  refine mt3_of M T.cls c_r_let_value manyA (fun f cdv A outer s H vs Q E hr h => ?_)
  obtain ⟨r, R, i, d, b0, rfl, ⟨st, rfl⟩, hd, hR, q⟩ := h
  have hrm := hr.room
  have nd := c_r_let_value.nd
  refine ⟨_, pss_cons (ps_expr (pe_sm1 G.take noM_take (by decide +kernel) hrm (by decide) passE (pv 0)))
    (pss_cons (ps_asg (pe_sm G.mark noM_mark hrm (by decide) passE (pv 0)) (pg_tup (n := 2) rfl (pgs_cons (pg_name (i := 2) nd rfl (Or.inl rfl)) (pgs_cons (pg_name (i := 3) nd rfl (Or.inl rfl)) pgs_nil))))
    (pss_cons (ps_expr (pe_sm1 G.take noM_take (by decide +kernel) hrm (by decide) passE (pv 0))) (pss_cons (ps_set (i := 4) nd rfl (Or.inl rfl) (pe_sm3 GV noM_value hr passE (pv 0)))
    (pss_cons (ps_expr (pe_sm1 G.take noM_take (by decide +kernel) hrm (by decide) passE (pv 0))) (pss_cons (ps_set (i := 5) nd rfl (Or.inl rfl) (pe_sm3 GV noM_value hr passE (pv 0)))
    (pss_one (ps_ret (pe_tup (pa_cons pe_str (pa_cons (pv 1) (pa_cons (pe_sg G.lastE noM_last hrm (by decide) pass0 (pv 0)) (pa_cons (pv 2) (pa_cons (pv 3) (pa_cons (pv 4) (pa_cons (pv 5) pa_nil))))))))))))))), ?_⟩
  refine ⟨r, R, i, d, rfl, hR, step q (But.refl r H) fun a1 b1 v1 H1 _ hb1 _ hR1 _ q1 => ?_⟩
  refine ⟨r, R, b1, d, rfl, hR1, step q1 hb1 fun a2 b2 v2 H2 _ hb2 _ hR2 hv2 q2 => ?_⟩
  obtain ⟨pm, z, k, rfl, hpm⟩ := hv2
  refine ⟨pm, _, rfl, SqT.of hpm, rfl, _, _, rfl, _, _, rfl, rfl, ?_⟩
  refine ⟨r, R, b2, d, rfl, hR2, step q2 hb2 fun a3 b3 v3 H3 _ hb3 _ hR3 _ q3 => ?_⟩
  refine ⟨r, R, b3, d, hd, rfl, hR3, step q3 hb3 fun a4 b4 v4 H4 _ hb4 _ hR4 _ q4 => ?_⟩
  refine ⟨r, R, b4, d, rfl, hR4, step q4 hb4 fun a5 b5 v5 H5 _ hb5 _ hR5 _ q5 => ?_⟩
  refine ⟨r, R, b5, d, hd, rfl, hR5, last q5 hb5 fun a6 b6 v6 H6 _ hb6 _ hR6 _ q6 => ?_⟩
  refine ⟨_, rfl, r, R, b6, d, rfl, hR6, fun m => ⟨_, rfl, _, rfl, _, rfl, _, rfl, by show 7 ≤ sizeLine; decide, fun p hp => ?_⟩⟩
  exact q6 _ _ (but_new hb6 hp) (hR6.same (newS hp)) ⟨p, _, _, _, _, rfl, upd_same⟩
theorem ok_loop (T : Rx K mg C SP fI) (G : Small P w K mg base C SP) (M : MDef K C "loop_value" "Reader.loop_value" s_r_loop_value ["self", "start"]) (GV : MV P w K mg base C SP v "value" (valP n) n) : MA P w K mg base C SP (v + 1) "loop_value" "start" (loopP (valP n)) n okI := by
  refine mt3_of M T.cls c_r_loop_value manyA (fun f cdv A outer s H vs Q E hr h => ?_)
  obtain ⟨r, R, i, d, b0, rfl, ⟨st, rfl⟩, hd, hR, q⟩ := h
  have hrm := hr.room
  have nd := c_r_loop_value.nd
  refine ⟨_, pss_cons (ps_expr (pe_sm1 G.take noM_take (by decide +kernel) hrm (by decide) passE (pv 0)))
    (pss_cons (ps_asg (pe_sm G.mark noM_mark hrm (by decide) passE (pv 0)) (pg_tup (n := 2) rfl (pgs_cons (pg_name (i := 2) nd rfl (Or.inl rfl)) (pgs_cons (pg_name (i := 3) nd rfl (Or.inl rfl)) pgs_nil))))
    (pss_cons (ps_expr (pe_sm1 G.take noM_take (by decide +kernel) hrm (by decide) passE (pv 0))) (pss_cons (ps_set (i := 4) nd rfl (Or.inl rfl) (pe_sm3 GV noM_value hr passE (pv 0)))
    (pss_cons (ps_expr (pe_sm1 G.take noM_take (by decide +kernel) hrm (by decide) passE (pv 0))) (pss_cons (ps_set (i := 5) nd rfl (Or.inl rfl) (pe_sm3 GV noM_value hr passE (pv 0)))
    (pss_cons (ps_expr (pe_sm1 G.take noM_take (by decide +kernel) hrm (by decide) passE (pv 0))) (pss_cons (ps_set (i := 6) nd rfl (Or.inl rfl) (pe_sm3 GV noM_value hr passE (pv 0)))
    (pss_one (ps_ret (pe_tup (pa_cons pe_str (pa_cons (pv 1) (pa_cons (pe_sg G.lastE noM_last hrm (by decide) pass0 (pv 0)) (pa_cons (pv 2) (pa_cons (pv 3) (pa_cons (pv 4) (pa_cons (pv 5) (pa_cons (pv 6) pa_nil)))))))))))))))))), ?_⟩
  refine ⟨r, R, i, d, rfl, hR, step q (But.refl r H) fun a1 b1 v1 H1 _ hb1 _ hR1 _ q1 => ?_⟩
  refine ⟨r, R, b1, d, rfl, hR1, step q1 hb1 fun a2 b2 v2 H2 _ hb2 _ hR2 hv2 q2 => ?_⟩
  obtain ⟨pm, z, k, rfl, hpm⟩ := hv2
  refine ⟨pm, _, rfl, SqT.of hpm, rfl, _, _, rfl, _, _, rfl, rfl, ?_⟩
  refine ⟨r, R, b2, d, rfl, hR2, step q2 hb2 fun a3 b3 v3 H3 _ hb3 _ hR3 _ q3 => ?_⟩
  refine ⟨r, R, b3, d, hd, rfl, hR3, step q3 hb3 fun a4 b4 v4 H4 _ hb4 _ hR4 _ q4 => ?_⟩
  refine ⟨r, R, b4, d, rfl, hR4, step q4 hb4 fun a5 b5 v5 H5 _ hb5 _ hR5 _ q5 => ?_⟩
  refine ⟨r, R, b5, d, hd, rfl, hR5, step q5 hb5 fun a6 b6 v6 H6 _ hb6 _ hR6 _ q6 => ?_⟩
  refine ⟨r, R, b6, d, rfl, hR6, step q6 hb6 fun a7 b7 v7 H7 _ hb7 _ hR7 _ q7 => ?_⟩
  refine ⟨r, R, b7, d, hd, rfl, hR7, last q7 hb7 fun a8 b8 v8 H8 _ hb8 _ hR8 _ q8 => ?_⟩
  refine ⟨_, rfl, r, R, b8, d, rfl, hR8, fun m => ⟨_, rfl, _, rfl, _, rfl, _, rfl, _, rfl, by show 8 ≤ sizeLine; decide, fun p hp => ?_⟩⟩
  exact q8 _ _ (but_new hb8 hp) (hR8.same (newS hp)) ⟨p, _, _, _, _, rfl, upd_same⟩
/-- nothing more may begin -/
theorem ok_value0 (T : Rx K mg C SP fI) (G : Small P w K mg base C SP) (M : MDef K C "value" "Reader.value" s_r_value ["self"]) : MV P w K mg base C SP 1 "value" (valP 0) 0 := by
  refine mt3_of M T.cls c_r_value many0 (fun f cdv A outer s H vs Q E hr h => ?_)
  obtain ⟨r, R, i, d, rfl, hd, hR, q⟩ := h
  refine ⟨_, pss_cons (ps_set (i := 1) c_r_value.nd rfl (Or.inl rfl) (pe_sg G.begin_ noM_begin hr.room (by decide) passE (pv 0))) pss_never, ?_⟩
  exact ⟨r, R, i, d, rfl, hR, fun z => absurd z (by omega), fun _ dd H' hb he => q dd H' hb he⟩
theorem ok_value (T : Rx K mg C SP fI) (G : Small P w K mg base C SP) (M : MDef K C "value" "Reader.value" s_r_value ["self"]) (GL : MA P w K mg base C SP v "let_value" "start" (letP (valP n)) n okI) (GI : MA P w K mg base C SP v "if_value" "start" (ifP (valP n)) n okI)
    (GO : MA P w K mg base C SP v "loop_value" "start" (loopP (valP n)) n okI) (GE : MA P w K mg base C SP v "either" "level" (eitherP (negP n)) n (fun b => b = .int 0)) : MV P w K mg base C SP (v + 1) "value" (valP (n + 1)) (n + 1) := by
  refine mt3_of M T.cls c_r_value many0 (fun f cdv A outer s H vs Q E hr h => ?_)
  obtain ⟨r, R, i, d, rfl, hd, hR, q⟩ := h
  have hrm := hr.room
  have nd := c_r_value.nd
  rw [valP_succ] at q
  refine ⟨_, pss_cons (ps_set (i := 1) nd rfl (Or.inl rfl) (pe_sg G.begin_ noM_begin hrm (by decide) passE (pv 0)))
    (pss_cons (ps_if (pt_cmpR op_eq (pe_sg G.fixed noM_fixed hrm (by decide) pass0 (pv 0)) pe_str (nomark _)) (pss_one (ps_set (i := 2) nd rfl (Or.inl rfl) (pe_sm3a GL noM_let hr passE (pv 0) (pv 1))))
      (pss_one (ps_if (pt_cmpR op_eq (pe_sg G.fixed noM_fixed hrm (by decide) pass0 (pv 0)) pe_str (nomark _)) (pss_one (ps_set (i := 2) nd rfl (Or.inl rfl) (pe_sm3a GI noM_if hr passE (pv 0) (pv 1))))
        (pss_one (ps_if (pt_cmpR op_eq (pe_sg G.fixed noM_fixed hrm (by decide) pass0 (pv 0)) pe_str (nomark _)) (pss_one (ps_set (i := 2) nd rfl (Or.inl rfl) (pe_sm3a GO noM_loop hr passE (pv 0) (pv 1))))
          (pss_one (ps_set (i := 2) nd rfl (Or.inl rfl) (pe_sm3a GE noM_either hr passE (pv 0) pe_int))))))))
    (pss_cons (ps_fldaug (pv 0) pe_int in_sub) (pss_one (ps_ret (pv 2))))), ?_⟩
  refine ⟨r, R, i, d, rfl, hR, fun _ H1 m hb1 hR1 => ?_, fun z => absurd (show d < 30 by omega) z⟩
  have q0 := fix_out q
  -- what follows the ifs
  have fin : ∀ (a : Unit) (b : Nat) (v0 : V) (H' : Hp) (e : run R.ks (K10.P.ret ()) 0 = run R.ks (K10.P.ret ()) 0), But r H H' → RdAt C H' r R b (d + 1) → vTree a v0 H' → (∀ v2 H2, But r H H2 → RdAt C H2 r R b d → vTree a v2 H2 → Q v2 H2) →
      (tSeq (sFldAug K (tVar 0) (tC (.int 1)) rSub "depth") (tRet (tVar 2))) { nx := fun _ H' => Q .non H', rt := Q } [some (.ref r), some (.int m), some v0] H' := by
    intro a b v0 H' _ hb hR' hv q'
    refine st_dec T rfl hR' ?_
    refine ⟨_, rfl, q' _ _ (hb.trans but_upd) (hR'.put hR'.le) ?_⟩
    obtain ⟨p, x0, x1, x2, xs, rfl, hp⟩ := hv
    exact ⟨p, x0, x1, x2, xs, rfl, by rw [upd_ne (ne_of hp hR'.obj (by intro z; cases z))]; exact hp⟩
  refine ⟨r, R, i, d + 1, rfl, hR1, fun H2 s2 => ⟨rfl, _, rfl, ?_⟩⟩
  have hR2 := hR1.same s2
  have hb2 := hb1.trans (But.of s2)
  rw [dec_str]
  by_cases c1 : (kdAt R.ks i).2 = S "let"
  · refine iftt (decide_eq_true c1) ?_
    rw [if_pos c1] at q0
    exact ⟨r, R, i, d + 1, rfl, hR2, _, rfl, r, R, i, d + 1, _, rfl, ⟨m, rfl⟩, by omega, hR2, last q0 hb2 fun a b v0 H' _ hb _ hR' hv q' => fin a b v0 H' rfl hb hR' hv q'⟩
  refine iffF (decide_eq_false c1) ?_
  rw [if_neg c1] at q0
  refine ⟨r, R, i, d + 1, rfl, hR2, fun H3 s3 => ⟨rfl, _, rfl, ?_⟩⟩
  have hR3 := hR2.same s3
  have hb3 := hb2.trans (But.of s3)
  rw [dec_str]
  by_cases c2 : (kdAt R.ks i).2 = S "if"
  · refine iftt (decide_eq_true c2) ?_
    rw [if_pos c2] at q0
    exact ⟨r, R, i, d + 1, rfl, hR3, _, rfl, r, R, i, d + 1, _, rfl, ⟨m, rfl⟩, by omega, hR3, last q0 hb3 fun a b v0 H' _ hb _ hR' hv q' => fin a b v0 H' rfl hb hR' hv q'⟩
  refine iffF (decide_eq_false c2) ?_
  rw [if_neg c2] at q0
  refine ⟨r, R, i, d + 1, rfl, hR3, fun H4 s4 => ⟨rfl, _, rfl, ?_⟩⟩
  have hR4 := hR3.same s4
  have hb4 := hb3.trans (But.of s4)
  rw [dec_str]
  by_cases c3 : (kdAt R.ks i).2 = S "loop"
  · refine iftt (decide_eq_true c3) ?_
    rw [if_pos c3] at q0
    exact ⟨r, R, i, d + 1, rfl, hR4, _, rfl, r, R, i, d + 1, _, rfl, ⟨m, rfl⟩, by omega, hR4, last q0 hb4 fun a b v0 H' _ hb _ hR' hv q' => fin a b v0 H' rfl hb hR' hv q'⟩
  refine iffF (decide_eq_false c3) ?_
  rw [if_neg c3] at q0
  exact ⟨r, R, i, d + 1, rfl, hR4, r, R, i, d + 1, _, rfl, rfl, by omega, hR4, last q0 hb4 fun a b v0 H' _ hb _ hR' hv q' => fin a b v0 H' rfl hb hR' hv q'⟩
/-! ### every depth -/
structure MDefs (K : PySem.W.Frag) (C : Addr) : Prop where
  arguments : MDef K C "arguments" "Reader.arguments" s_r_arguments ["self"]
  simple : MDef K C "simple" "Reader.simple" s_r_simple ["self"]
  reached : MDef K C "reached" "Reader.reached" s_r_reached ["self"]
  signed : MDef K C "signed" "Reader.signed" s_r_signed ["self"]
  chain : MDef K C "chain" "Reader.chain" s_r_chain ["self", "signs"]
  compared : MDef K C "compared" "Reader.compared" s_r_compared ["self"]
  negated : MDef K C "negated" "Reader.negated" s_r_negated ["self"]
  either : MDef K C "either" "Reader.either" s_r_either ["self", "level"]
  let_ : MDef K C "let_value" "Reader.let_value" s_r_let_value ["self", "start"]
  if_ : MDef K C "if_value" "Reader.if_value" s_r_if_value ["self", "start"]
  loop : MDef K C "loop_value" "Reader.loop_value" s_r_loop_value ["self", "start"]
  value : MDef K C "value" "Reader.value" s_r_value ["self"]
/-- from value at n: signed, negated at n (given those below), then value at n + 1 -/
theorem ok_level (T : Rx K mg C SP fI) (G : Small P w K mg base C SP) (M : MDefs K C) (GV : MV P w K mg base C SP v "value" (valP n) n) (GS : ∀ k, n = k + 1 → MV P w K mg base C SP (v + 3) "signed" (sgnP k) k) (GN : ∀ k, n = k + 1 → MV P w K mg base C SP (v + 7) "negated" (negP k) k) :
    MV P w K mg base C SP (v + 4) "signed" (sgnP n) n ∧ MV P w K mg base C SP (v + 8) "negated" (negP n) n ∧ MV P w K mg base C SP (v + 12) "value" (valP (n + 1)) (n + 1) := by
  have g1 := ok_arguments T G M.arguments GV
  have g2 := ok_simple T G M.simple (GV.less (Nat.le_succ v)) g1
  have g3 := ok_reached T G M.reached g2
  have g4 := ok_signed T G M.signed g3 GS
  have g5 := ok_products T G M.chain g4
  have g6 := ok_sums T G M.chain g5
  have g7 := ok_compared T G M.compared g6
  have g8 := ok_negated T G M.negated g7 GN
  have g9 := ok_either2 T G M.either g8
  have g10 := ok_either (lv := 1) (s := S "and") T G M.either (by decide) (by decide +kernel) (fun al b c hl hb hc => ⟨c, rfl, hc⟩) g9
  have g11 := ok_either (lv := 0) (s := S "or") T G M.either (by decide) (by decide +kernel) (fun al b c hl hb hc => ⟨b, rfl, hb⟩) g10
  have l1 := (ok_let T G M.let_ GV).less (show v + 1 ≤ v + 11 by omega)
  have l2 := (ok_if T G M.if_ GV).less (show v + 1 ≤ v + 11 by omega)
  have l3 := (ok_loop T G M.loop GV).less (show v + 1 ≤ v + 11 by omega)
  exact ⟨g4, g8, ok_value T G M.value l1 l2 l3 g11⟩
theorem all_levels (T : Rx K mg C SP fI) (G : Small P w K mg base C SP) (M : MDefs K C) : ∀ n : Nat, MV P w K mg base C SP (12 * n + 1) "value" (valP n) n ∧ (∀ k, n = k + 1 → MV P w K mg base C SP (12 * n + 1 + 3) "signed" (sgnP k) k) ∧ ∀ k, n = k + 1 → MV P w K mg base C SP (12 * n + 1 + 7) "negated" (negP k) k
  | 0 => ⟨ok_value0 T G M.value, fun k h => absurd h (by omega), fun k h => absurd h (by omega)⟩
  | n + 1 => by
    obtain ⟨h1, h2, h3⟩ := all_levels T G M n
    obtain ⟨g1, g2, g3⟩ := ok_level T G M h1 h2 h3
    refine ⟨g3, fun k e => ?_, fun k e => ?_⟩
    · have ek : k = n := by omega
      subst ek
      exact g1.less (by omega)
    · have ek : k = n := by omega
      subst ek
      exact g2.less (by omega)
/-- value() at depth 0, as any caller may use it -/
theorem value_ok (T : Rx K mg C SP fI) (G : Small P w K mg base C SP) (M : MDefs K C) : Mt P w K mg base (L2.CX P w) C 134 "value" ["self"] (spD C SP vTree valueP 30) :=
  (all_levels T G M 30).1.mt (by decide) (by decide)
end
end K10
/-! The reader is made; the readers of items. -/
namespace K10
open PySem PySem.Spec PyProof.Rows L2
section
variable {P : Program} {w : World} {K : PySem.W.Frag} {mg : Str → Option Value} {base : Heap} {C SP fI : Addr}
/-- Reader(text): few tokens, at least one is not asked -/
def spRInit (C : Addr) : Sp := fun vs H Q _ => ∃ (r dx : Addr) (l : List Nat), vs = [.ref r, .str (tx l)] ∧ H r = some (.ins C dx []) ∧ l.length ≤ 100000 ∧ (lex l 0).length ≤ 300 ∧
  ∀ H' tl as, But r H H' → H' r = some (.ins C dx (rfs ⟨l, dx, tl, as⟩ 0 0)) → H' tl = some (.lst (as.map V.ref)) → ToksAt H' as (lex l 0) → Q .non H'
theorem ok_r_init (T : Rx K mg C SP fI) {f : Addr} {fd : FuncData} (F : FnM K "__init__" "Reader.__init__" s_r_init f fd) (GT : Cl P w K mg base CX0 4 "tokens" ["text"] spTokens) : FnOk P w K mg base CX0 5 f fd ["self", "text"] (spRInit C) := by
  refine F.ok c_r_init (fun vs H Q E h => ?_) (fun cdv A outer s H vs Q E hr h => ?_)
  · obtain ⟨r, dx, l, rfl, _⟩ := h
    rfl
  obtain ⟨r, dx, l, rfl, hr0, hl, hf, q⟩ := h
  refine ⟨_, PSs.nox (pss_cons (ps_fld (pv 0) (pv 1) rfl) (pss_cons (ps_fld (pv 0) (pe_f GT hr (by decide) pass0 (pa_cons (pv 1) pa_nil)) rfl) (pss_cons (ps_fld (pv 0) pe_int rfl) (pss_cons (ps_fld (pv 0) pe_int rfl)
    (pss_one (ps_if (pt_cmpR op_gt (pe_callB call_len_seq (by rfl) T.tx.len boot_len (pa_cons (pe_fld (pv 0) rfl) pa_nil)) (pe_k T.mostT) (nomark _)) pss_never pss_nil)))))), ?_⟩
  refine ⟨_, rfl, _, rfl, r, C, dx, _, rfl, hr0, T.cls, T.nText, by show 0 < 1000; decide, ?_⟩
  refine ⟨_, rfl, l, rfl, hl, fun tl as H1 s1 hL hT => ?_⟩
  have h1 : H1 r = some (.ins C dx [("text", .str (tx l))]) := s1 _ _ upd_same
  refine ⟨_, rfl, r, C, dx, _, rfl, h1, T.cls, T.nTokens, by show 1 < 1000; decide, ?_⟩
  refine ⟨_, rfl, r, C, dx, _, rfl, upd_same, T.cls, T.nAt, by show 2 < 1000; decide, ?_⟩
  refine ⟨_, rfl, r, C, dx, _, rfl, upd_same, T.cls, T.nDepth, by show 3 < 1000; decide, ?_⟩
  have np : tl ≠ r := ne_of hL h1 (by intro z; cases z)
  rw [upd_upd, upd_upd]
  have hT2 : ToksAt (upd H1 r (.ins C dx (rfs ⟨l, dx, tl, as⟩ 0 0))) as (lex l 0) := hT.but (r := r) (fun xs z => by rw [h1] at z; cases z) fun b o n e => by rw [upd_ne n]; exact e
  have hL2 : (upd H1 r (.ins C dx (rfs ⟨l, dx, tl, as⟩ 0 0))) tl = some (.lst (as.map V.ref)) := by rw [upd_ne np]; exact hL
  have hb : But r H (upd H1 r (.ins C dx (rfs ⟨l, dx, tl, as⟩ 0 0))) := fun b o n e => by
    rw [upd_ne n]
    exact s1 b o (by rw [upd_ne n]; exact e)
  refine ⟨_, rfl, r, C, dx, _, _, rfl, upd_same, T.cls, T.nTokens, rfl, tl, _, rfl, .inl (SqL.of hL2), _, _, rfl, rfl, _, rfl, iffF ?_ ?_⟩
  · refine decide_eq_false ?_
    rw [List.length_map, hT.1]
    omega
  · exact q _ tl as hb upd_same hL2 hT2
/-- a method over spD, by a caller with room -/
theorem pe_sd {X : Cx} {CX : CXT} {α : Type} {C SP : Addr} {k j n : Nat} {E : XK} {val : α → V → Hp → Prop} {p : K10.P α} {m : Str} {o : Expr} {pos apos : Pos} {pl : Sem Bool} (c : Mt X.prog X.w X.K X.mg X.base CX C k m ["self"] (spD C SP val p n)) (no : NoM m) (hr : Room j X.A) (hk : k ≤ j) (hx : Passes CX X E) (ho : PE X o (tVar 0))
    (ht : eval (.Call (.Attribute o m apos) [] [] pos) X.env = (do
      let v ← eval o X.env; standAt apos.atName; let (f, first) ← holding [v] (getMethod v m pl); callWith pos f first (backTo pos (starEach [] X.env)) (backToKw pos (keywordEach [] X.env))) := by rfl) :
    PE X (.Call (.Attribute o m apos) [] [] pos) (fun σ H Q => ∃ r R i d, d + n = 30 ∧ σ[0]? = some (some (.ref r)) ∧ RdAt C H r R i d ∧ Out C SP r R d H val Q E (run R.ks p i)) :=
  pe_w (pe_m0 c hr hk hx ho ht) fun σ H Q ⟨r, R, i, d, hd, hs, h, q⟩ => ⟨_, hs, r, R.dx, _, rfl, h.obj, no R i d, r, R, i, d, rfl, hd, h, q⟩
theorem manyD {α : Type} {val : α → V → Hp → Prop} {p : K10.P α} {n : Nat} {x : Str} : ∀ vs H Q E, spD C SP val p n vs H Q E → vs.length = ([x] : List Str).length := fun vs H Q E h => by
  obtain ⟨r, R, i, d, rfl, _⟩ := h
  rfl
/-- the reader's other methods -/
structure Big (P : Program) (w : World) (K : PySem.W.Frag) (mg : Str → Option Value) (base : Heap) (C SP : Addr) : Prop where
  s : Small P w K mg base C SP
  marks : Mt P w K mg base (L2.CX P w) C 5 "marks" ["self"] (spM C SP vAny marksP)
  field : Mt P w K mg base (L2.CX P w) C 5 "field" ["self"] (spM C SP vAny fieldP)
  fields : Mt P w K mg base (L2.CX P w) C 6 "fields" ["self"] (spM C SP vAny fieldsP)
  bound : Mt P w K mg base (L2.CX P w) C 5 "bound" ["self"] (spM C SP vAny boundP)
  value : Mt P w K mg base (L2.CX P w) C 134 "value" ["self"] (spD C SP vTree valueP 30)
theorem ok_read_import (T : Rx K mg C SP fI) (G : Big P w K mg base C SP) {f : Addr} {fd : FuncData} (F : FnP K "read_import" s_read_import f fd) : FnOk P w K mg base (L2.CX P w) 136 f fd ["reader"] (spD C SP vAny importP 30) := by
  refine F.ok c_read_import manyD (fun cdv A outer s H vs Q E hr h => ?_)
  obtain ⟨r, R, i, d, rfl, hd, hR, q⟩ := h
  have nd := c_read_import.nd
  refine ⟨_, pss_cons (ps_expr (pe_sm1 G.s.take noM_take (by decide +kernel) hr (by decide) passE (pv 0))) (pss_cons (ps_set (i := 1) nd rfl (Or.inl rfl) (pe_sm G.s.mark noM_mark hr (by decide) passE (pv 0)))
    (pss_cons (ps_expr (pe_sm1 G.s.take noM_take (by decide +kernel) hr (by decide) passE (pv 0))) (pss_one (ps_ret (pe_tup (pa_cons pe_str (pa_cons (pv 1) (pa_cons (pe_sm G.marks noM_marks hr (by decide) passE (pv 0)) pa_nil)))))))), ?_⟩
  refine ⟨r, R, i, d, rfl, hR, step q (But.refl r H) fun a1 b1 v1 H1 _ hb1 _ hR1 _ q1 => ?_⟩
  refine ⟨r, R, b1, d, rfl, hR1, step q1 hb1 fun a2 b2 v2 H2 _ hb2 _ hR2 hv2 q2 => ?_⟩
  refine ⟨r, R, b2, d, rfl, hR2, step q2 hb2 fun a3 b3 v3 H3 _ hb3 _ hR3 _ q3 => ?_⟩
  refine ⟨_, rfl, r, R, b3, d, rfl, hR3, last q3 hb3 fun a4 b4 v4 H4 _ hb4 _ hR4 _ q4 => ⟨by show 3 ≤ sizeLine; decide, fun p hp => ?_⟩⟩
  exact q4 _ _ (but_new hb4 hp) (hR4.same (newS hp)) True.intro
theorem ok_read_data (T : Rx K mg C SP fI) (G : Big P w K mg base C SP) {f : Addr} {fd : FuncData} (F : FnP K "read_data" s_read_data f fd) : FnOk P w K mg base (L2.CX P w) 136 f fd ["reader"] (spD C SP vAny dataP 30) := by
  refine F.ok c_read_data manyD (fun cdv A outer s H vs Q E hr h => ?_)
  obtain ⟨r, R, i, d, rfl, hd, hR, q⟩ := h
  have nd := c_read_data.nd
  refine ⟨_, pss_cons (ps_expr (pe_sm1 G.s.take noM_take (by decide +kernel) hr (by decide) passE (pv 0))) (pss_cons (ps_set (i := 1) nd rfl (Or.inl rfl) (pe_sm G.s.mark noM_mark hr (by decide) passE (pv 0)))
    (pss_cons (ps_expr (pe_sm1 G.s.take noM_take (by decide +kernel) hr (by decide) passE (pv 0))) (pss_one (ps_ret (pe_tup (pa_cons pe_str (pa_cons (pv 1) (pa_cons (pe_sm G.fields noM_fields hr (by decide) passE (pv 0)) pa_nil)))))))), ?_⟩
  refine ⟨r, R, i, d, rfl, hR, step q (But.refl r H) fun a1 b1 v1 H1 _ hb1 _ hR1 _ q1 => ?_⟩
  refine ⟨r, R, b1, d, rfl, hR1, step q1 hb1 fun a2 b2 v2 H2 _ hb2 _ hR2 hv2 q2 => ?_⟩
  refine ⟨r, R, b2, d, rfl, hR2, step q2 hb2 fun a3 b3 v3 H3 _ hb3 _ hR3 _ q3 => ?_⟩
  refine ⟨_, rfl, r, R, b3, d, rfl, hR3, last q3 hb3 fun a4 b4 v4 H4 _ hb4 _ hR4 _ q4 => ⟨by show 3 ≤ sizeLine; decide, fun p hp => ?_⟩⟩
  exact q4 _ _ (but_new hb4 hp) (hR4.same (newS hp)) True.intro
theorem ok_read_impl (T : Rx K mg C SP fI) (G : Big P w K mg base C SP) {f : Addr} {fd : FuncData} (F : FnP K "read_impl" s_read_impl f fd) : FnOk P w K mg base (L2.CX P w) 136 f fd ["reader"] (spD C SP vAny implP 30) := by
  refine F.ok c_read_impl manyD (fun cdv A outer s H vs Q E hr h => ?_)
  obtain ⟨r, R, i, d, rfl, hd, hR, q⟩ := h
  have nd := c_read_impl.nd
  refine ⟨_, pss_cons (ps_expr (pe_sm1 G.s.take noM_take (by decide +kernel) hr (by decide) passE (pv 0))) (pss_cons (ps_set (i := 1) nd rfl (Or.inl rfl) (pe_sm G.s.mark noM_mark hr (by decide) passE (pv 0)))
    (pss_cons (ps_expr (pe_sm1 G.s.take noM_take (by decide +kernel) hr (by decide) passE (pv 0))) (pss_cons (ps_set (i := 2) nd rfl (Or.inl rfl) (pe_sm G.s.mark noM_mark hr (by decide) passE (pv 0)))
    (pss_cons (ps_expr (pe_sm1 G.s.take noM_take (by decide +kernel) hr (by decide) passE (pv 0)))
    (pss_one (ps_ret (pe_tup (pa_cons pe_str (pa_cons (pv 1) (pa_cons (pv 2) (pa_cons (pe_sd G.value noM_value hr (by decide) passE (pv 0)) pa_nil))))))))))), ?_⟩
  refine ⟨r, R, i, d, rfl, hR, step q (But.refl r H) fun a1 b1 v1 H1 _ hb1 _ hR1 _ q1 => ?_⟩
  refine ⟨r, R, b1, d, rfl, hR1, step q1 hb1 fun a2 b2 v2 H2 _ hb2 _ hR2 hv2 q2 => ?_⟩
  refine ⟨r, R, b2, d, rfl, hR2, step q2 hb2 fun a3 b3 v3 H3 _ hb3 _ hR3 _ q3 => ?_⟩
  refine ⟨r, R, b3, d, rfl, hR3, step q3 hb3 fun a4 b4 v4 H4 _ hb4 _ hR4 _ q4 => ?_⟩
  refine ⟨r, R, b4, d, rfl, hR4, step q4 hb4 fun a5 b5 v5 H5 _ hb5 _ hR5 _ q5 => ?_⟩
  refine ⟨_, rfl, _, rfl, r, R, b5, d, hd, rfl, hR5, last q5 hb5 fun a6 b6 v6 H6 _ hb6 _ hR6 _ q6 => ⟨by show 4 ≤ sizeLine; decide, fun p hp => ?_⟩⟩
  exact q6 _ _ (but_new hb6 hp) (hR6.same (newS hp)) True.intro
/-- where a list of new things grows in a def: found = [m()]; while try_take(","): found.append(m()) -/
theorem ok_read_trait (T : Rx K mg C SP fI) (G : Big P w K mg base C SP) {f : Addr} {fd : FuncData} (F : FnP K "read_trait" s_read_trait f fd) : FnOk P w K mg base (L2.CX P w) 136 f fd ["reader"] (spD C SP vAny traitP 30) := by
  refine F.ok c_read_trait manyD (fun cdv A outer s H vs Q E hr h => ?_)
  obtain ⟨r, R, i, d, rfl, hd, hR, q⟩ := h
  have nd := c_read_trait.nd
  refine ⟨_, pss_cons (ps_expr (pe_sm1 G.s.take noM_take (by decide +kernel) hr (by decide) passE (pv 0))) (pss_cons (ps_set (i := 1) nd rfl (Or.inl rfl) (pe_sm G.s.mark noM_mark hr (by decide) passE (pv 0)))
    (pss_cons (ps_expr (pe_sm1 G.s.take noM_take (by decide +kernel) hr (by decide) passE (pv 0))) (pss_cons (ps_set (i := 2) nd rfl (Or.inl rfl) (pe_sm G.s.mark noM_mark hr (by decide) passE (pv 0)))
    (pss_cons (ps_expr (pe_sm1 G.s.take noM_take (by decide +kernel) hr (by decide) passE (pv 0))) (pss_cons (ps_set (i := 3) nd rfl (Or.inl rfl) (pe_sm G.s.mark noM_mark hr (by decide) passE (pv 0)))
    (pss_cons (ps_set (i := 4) nd rfl (Or.inl rfl) (pe_tup pa_nil))
    (pss_cons (ps_if (pt_val (pe_sm1 G.s.tryT noM_try (by decide +kernel) hr (by decide) pass0 (pv 0)))
      (pss_cons (ps_set (i := 5) nd rfl (Or.inl rfl) (pe_lst (pa_cons (pe_sm G.field noM_field hr (by decide) passE (pv 0)) pa_nil)))
        (pss_cons (ps_while (passes_of rfl) (pt_val (pe_sm1 G.s.tryT noM_try (by decide +kernel) hr (by decide) pass0 (pv 0)))
          (pss_one (ps_expr (pe_bm PySem.F.plainAttrs_list PySem.F.slot_list_append PySem.F.type_list_append mt_append (pv 5) (pa_cons (pe_sm G.field noM_field hr (by decide) passE (pv 0)) pa_nil)))))
        (pss_one (ps_set (i := 4) nd rfl (Or.inl rfl) (pe_callTy call_tuple_of (by rfl) T.tuple (by decide +kernel) (pa_cons (pv 5) pa_nil)))))) pss_nil)
    (pss_cons (ps_expr (pe_sm1 G.s.take noM_take (by decide +kernel) hr (by decide) passE (pv 0))) (pss_cons (ps_expr (pe_sm1 G.s.take noM_take (by decide +kernel) hr (by decide) passE (pv 0)))
    (pss_one (ps_ret (pe_tup (pa_cons pe_str (pa_cons (pv 1) (pa_cons (pv 2) (pa_cons (pv 3) (pa_cons (pv 4) (pa_cons (pe_sm G.s.mark noM_mark hr (by decide) passE (pv 0)) pa_nil)))))))))))))))))), ?_⟩
  refine ⟨r, R, i, d, rfl, hR, step q (But.refl r H) fun a1 b1 v1 H1 _ hb1 _ hR1 _ q1 => ?_⟩
  refine ⟨r, R, b1, d, rfl, hR1, step q1 hb1 fun a2 b2 v2 H2 _ hb2 _ hR2 hv2 q2 => ?_⟩
  refine ⟨r, R, b2, d, rfl, hR2, step q2 hb2 fun a3 b3 v3 H3 _ hb3 _ hR3 _ q3 => ?_⟩
  refine ⟨r, R, b3, d, rfl, hR3, step q3 hb3 fun a4 b4 v4 H4 _ hb4 _ hR4 _ q4 => ?_⟩
  refine ⟨r, R, b4, d, rfl, hR4, step q4 hb4 fun a5 b5 v5 H5 _ hb5 _ hR5 _ q5 => ?_⟩
  refine ⟨r, R, b5, d, rfl, hR5, step q5 hb5 fun a6 b6 v6 H6 _ hb6 _ hR6 _ q6 => ?_⟩
  refine ⟨by show 0 ≤ sizeLine; decide, fun pt hpt => ?_⟩
  have hb6' := but_new (o := .tup []) hb6 hpt
  have hR6' := hR6.same (newS (o := .tup []) hpt)
  -- behind the list of fields
  have fin : ∀ (H' : Hp) (j : Nat) (w4 : V) (w5 : Option V), But r H H' → RdAt C H' r R j d → Out C SP r R d H vAny Q E (run R.ks ((takeP (S ")")).bind fun _ => (takeP (S ":")).bind fun _ => markP) j) →
      (tSeq (tDrop (tSM C SP vNon (takeP (S ")")) E)) (tSeq (tDrop (tSM C SP vNon (takeP (S ":")) E)) (tRet (tTup (tCons (tC (.str (Str.ofString "trait"))) (tCons (tVar 1) (tCons (tVar 2) (tCons (tVar 3) (tCons (tVar 4) (tCons (tSM C SP vMark markP E) tNil)))))))))) { nx := fun _ H' => Q .non H', rt := Q }
        [some (.ref r), some v2, some v4, some v6, some w4, w5] H' := by
    intro H' j w4 w5 hb hR' q'
    refine ⟨r, R, j, d, rfl, hR', step q' hb fun a7 b7 v7 H7 _ hb7 _ hR7 _ q7 => ?_⟩
    refine ⟨r, R, b7, d, rfl, hR7, step q7 hb7 fun a8 b8 v8 H8 _ hb8 _ hR8 _ q8 => ?_⟩
    refine ⟨_, rfl, _, rfl, _, rfl, _, rfl, r, R, b8, d, rfl, hR8, last q8 hb8 fun a9 b9 v9 H9 _ hb9 _ hR9 _ q9 => ⟨by show 6 ≤ sizeLine; decide, fun p hp => ?_⟩⟩
    exact q9 _ _ (but_new hb9 hp) (hR9.same (newS hp)) True.intro
  rw [bind_assoc'] at q6
  refine ⟨r, R, b6, d, rfl, hR6', try_step (by decide +kernel) hb6' q6 (fun H7 _ hb7 _ hR7 q7 => ⟨true, rfl, iftt rfl ?_⟩) (fun H7 _ hb7 _ hR7 q7 => ⟨false, rfl, iffF rfl ?_⟩)⟩
  · rw [if_pos rfl, bind_assoc'] at q7
    refine ⟨r, R, b6 + 1, d, rfl, hR7, step q7 hb7 fun a8 b8 v8 H8 _ hb8 _ hR8 _ q8 => ⟨size1, fun pl hpl => ?_⟩⟩
    have hp0 := fresh_of hb8 hR8 hpl
    have hb8i : b6 + 1 ≤ b8 := by
      have e := mono_pos ‹run R.ks fieldP (b6 + 1) = (some a8, b8)›
      exact e
    refine loop_more (k := 5) (d1 := d) (i0 := i) (d0 := d) (by decide +kernel) rfl rfl hR hp0 (but_put hb8 hp0) (hR8.same (newS hpl)) upd_same (by show 1 ≤ b8; omega) (fuel_ok hR.few b8) q8 (fun H2 j Q1 h1 h2 => ⟨r, R, j, d, rfl, h1, h2⟩) fun H9 j ys hb9 hR9 hl9 q9 => ?_
    refine ⟨_, rfl, pl, ys, rfl, .inl ⟨SqL.of hl9, fun l hl => ?_⟩⟩
    exact fin _ j _ _ (but_new hb9 hl) (hR9.same (newS hl)) q9
  · rw [if_neg Bool.false_ne_true] at q7
    exact fin H7 b6 _ _ hb7 hR7 q7
theorem ok_read_bounds (T : Rx K mg C SP fI) (G : Big P w K mg base C SP) {f : Addr} {fd : FuncData} (F : FnP K "read_bounds" s_read_bounds f fd) : FnOk P w K mg base (L2.CX P w) 7 f fd ["reader"] (spM C SP vAny boundsP) := by
  refine F.ok c_read_bounds (fun vs H Q E h => ?_) (fun cdv A outer s H vs Q E hr h => ?_)
  · obtain ⟨r, R, i, d, rfl, _⟩ := h
    rfl
  obtain ⟨r, R, i, d, rfl, hR, q⟩ := h
  have nd := c_read_bounds.nd
  refine ⟨_, pss_cons (ps_if (pt_not (pt_val (pe_sm1 G.s.tryT noM_try (by decide +kernel) hr (by decide) pass0 (pv 0)))) (pss_one (ps_ret (pe_tup pa_nil))) pss_nil)
    (pss_cons (ps_set (i := 1) nd rfl (Or.inl rfl) (pe_lst (pa_cons (pe_sm G.bound noM_bound hr (by decide) passE (pv 0)) pa_nil)))
    (pss_cons (ps_while (passes_of rfl) (pt_val (pe_sm1 G.s.tryT noM_try (by decide +kernel) hr (by decide) pass0 (pv 0)))
          (pss_one (ps_expr (pe_bm PySem.F.plainAttrs_list PySem.F.slot_list_append PySem.F.type_list_append mt_append (pv 1) (pa_cons (pe_sm G.bound noM_bound hr (by decide) passE (pv 0)) pa_nil)))))
    (pss_cons (ps_expr (pe_sm1 G.s.take noM_take (by decide +kernel) hr (by decide) passE (pv 0)))
    (pss_one (ps_ret (pe_callTy call_tuple_of (by rfl) T.tuple (by decide +kernel) (pa_cons (pv 1) pa_nil))))))), ?_⟩
  refine ⟨r, R, i, d, rfl, hR, try_step (by decide +kernel) (But.refl r H) q (fun H7 _ hb7 _ hR7 q7 => ⟨true, rfl, iffF rfl ?_⟩) (fun H7 _ hb7 _ hR7 q7 => ⟨false, rfl, iftt rfl ?_⟩)⟩
  · rw [if_pos rfl] at q7
    refine ⟨r, R, i + 1, d, rfl, hR7, step q7 hb7 fun a8 b8 v8 H8 he8 hb8 _ hR8 _ q8 => ⟨size1, fun pl hpl => ?_⟩⟩
    have hp0 := fresh_of hb8 hR8 hpl
    have hb8i := mono_pos he8
    refine loop_more (k := 1) (d1 := d) (i0 := i) (d0 := d) (by decide +kernel) rfl rfl hR hp0 (but_put hb8 hp0) (hR8.same (newS hpl)) upd_same (by show 1 ≤ b8; omega) (fuel_ok hR.few b8) q8 (fun H2 j Q1 h1 h2 => ⟨r, R, j, d, rfl, h1, h2⟩) fun H9 j ys hb9 hR9 hl9 q9 => ?_
    refine ⟨r, R, j, d, rfl, hR9, last q9 hb9 fun a4 b4 v4 H4 _ hb4 hb94 hR4 hv4 q4 => ?_⟩
    have hl4 := hb94 pl _ (fun z => by rw [z, hR9.obj] at hl9; cases hl9) hl9
    refine ⟨_, rfl, pl, ys, rfl, .inl ⟨SqL.of hl4, fun l hl => ?_⟩⟩
    exact q4 _ _ (but_new hb4 hl) (hR4.same (newS hl)) True.intro
  · rw [if_neg Bool.false_ne_true] at q7
    refine ⟨by show 0 ≤ sizeLine; decide, fun p hp => ?_⟩
    exact q7 _ _ (but_new hb7 hp) (hR7.same (newS hp)) True.intro
/-- a def over the reader that the module's name holds, called with it -/
theorem pe_fr {X : Cx} {CX : CXT} {α : Type} {C SP : Addr} {k j : Nat} {E : XK} {val : α → V → Hp → Prop} {p : K10.P α} {x : Str} {a : Expr} {pos p0 : Pos} (c : Cl X.prog X.w X.K X.mg X.base CX k x ["reader"] (spM C SP val p)) (hr : Room j X.A) (hk : k ≤ j) (hx : Passes CX X E) (ha : PE X a (tVar 0)) (hg : Gl X x := by rfl)
    (hdb : (x == ("__debug__" : Str)) = false := by decide) (he : starEach [a] X.env = (false, eval a X.env) :: starEach [] X.env := by rfl) : PE X (.Call (.Name x p0) [a] [] pos) (tSM C SP val p E) :=
  pe_w (pe_f c hr hk hx (pa_cons ha pa_nil he) hg hdb he rfl) fun σ H Q ⟨r, R, i, d, hs, h, q⟩ => ⟨_, hs, r, R, i, d, rfl, h, q⟩
theorem ok_read_def (T : Rx K mg C SP fI) (G : Big P w K mg base C SP) (GB : Cl P w K mg base (L2.CX P w) 7 "read_bounds" ["reader"] (spM C SP vAny boundsP)) {f : Addr} {fd : FuncData} (F : FnP K "read_def" s_read_def f fd) : FnOk P w K mg base (L2.CX P w) 136 f fd ["reader"] (spD C SP vAny defP 30) := by
  refine F.ok c_read_def manyD (fun cdv A outer s H vs Q E hr h => ?_)
  obtain ⟨r, R, i, d, rfl, hd, hR, q⟩ := h
  have nd := c_read_def.nd
  refine ⟨_, pss_cons (ps_expr (pe_sm1 G.s.take noM_take (by decide +kernel) hr (by decide) passE (pv 0))) (pss_cons (ps_set (i := 1) nd rfl (Or.inl rfl) (pe_sm G.s.mark noM_mark hr (by decide) passE (pv 0)))
    (pss_cons (ps_set (i := 2) nd rfl (Or.inl rfl) (pe_fr GB hr (by decide) passE (pv 0))) (pss_cons (ps_expr (pe_sm1 G.s.take noM_take (by decide +kernel) hr (by decide) passE (pv 0)))
    (pss_cons (ps_set (i := 3) nd rfl (Or.inl rfl) (pe_sm G.fields noM_fields hr (by decide) passE (pv 0))) (pss_cons (ps_set (i := 4) nd rfl (Or.inl rfl) pe_non)
    (pss_cons (ps_if (pt_val (pe_sm1 G.s.tryT noM_try (by decide +kernel) hr (by decide) pass0 (pv 0))) (pss_one (ps_set (i := 4) nd rfl (Or.inl rfl) (pe_sm G.s.mark noM_mark hr (by decide) passE (pv 0)))) pss_nil)
    (pss_cons (ps_expr (pe_sm1 G.s.take noM_take (by decide +kernel) hr (by decide) passE (pv 0)))
    (pss_one (ps_ret (pe_tup (pa_cons pe_str (pa_cons (pv 1) (pa_cons (pv 2) (pa_cons (pv 3) (pa_cons (pv 4) (pa_cons (pe_sd G.value noM_value hr (by decide) passE (pv 0)) pa_nil)))))))))))))))), ?_⟩
  refine ⟨r, R, i, d, rfl, hR, step q (But.refl r H) fun a1 b1 v1 H1 _ hb1 _ hR1 _ q1 => ?_⟩
  refine ⟨r, R, b1, d, rfl, hR1, step q1 hb1 fun a2 b2 v2 H2 _ hb2 _ hR2 hv2 q2 => ?_⟩
  refine ⟨r, R, b2, d, rfl, hR2, step q2 hb2 fun a3 b3 v3 H3 _ hb3 _ hR3 _ q3 => ?_⟩
  refine ⟨r, R, b3, d, rfl, hR3, step q3 hb3 fun a4 b4 v4 H4 _ hb4 _ hR4 _ q4 => ?_⟩
  refine ⟨r, R, b4, d, rfl, hR4, step q4 hb4 fun a5 b5 v5 H5 _ hb5 _ hR5 _ q5 => ?_⟩
  -- behind the result's kind
  have fin : ∀ (H' : Hp) (j : Nat) (w4 : V), But r H H' → RdAt C H' r R j d → Out C SP r R d H vAny Q E (run R.ks ((takeP (S "=")).bind fun _ => valueP) j) →
      (tSeq (tDrop (tSM C SP vNon (takeP (S "=")) E)) (tRet (tTup (tCons (tC (.str (Str.ofString "def"))) (tCons (tVar 1) (tCons (tVar 2) (tCons (tVar 3) (tCons (tVar 4) (tCons (fun σ H Q => ∃ r R i d, d + 30 = 30 ∧ σ[0]? = some (some (.ref r)) ∧ RdAt C H r R i d ∧ Out C SP r R d H vTree Q E (run R.ks valueP i)) tNil))))))))) { nx := fun _ H' => Q .non H', rt := Q }
        [some (.ref r), some v2, some v3, some v5, some w4] H' := by
    intro H' j w4 hb hR' q'
    refine ⟨r, R, j, d, rfl, hR', step q' hb fun a7 b7 v7 H7 _ hb7 _ hR7 _ q7 => ?_⟩
    refine ⟨_, rfl, _, rfl, _, rfl, _, rfl, r, R, b7, d, hd, rfl, hR7, last q7 hb7 fun a9 b9 v9 H9 _ hb9 _ hR9 _ q9 => ⟨by show 6 ≤ sizeLine; decide, fun p hp => ?_⟩⟩
    exact q9 _ _ (but_new hb9 hp) (hR9.same (newS hp)) True.intro
  rw [bind_assoc'] at q5
  refine ⟨r, R, b5, d, rfl, hR5, try_step (by decide +kernel) hb5 q5 (fun H7 _ hb7 _ hR7 q7 => ⟨true, rfl, iftt rfl ?_⟩) (fun H7 _ hb7 _ hR7 q7 => ⟨false, rfl, iffF rfl ?_⟩)⟩
  · rw [if_pos rfl] at q7
    refine ⟨r, R, b5 + 1, d, rfl, hR7, step q7 hb7 fun a8 b8 v8 H8 _ hb8 _ hR8 _ q8 => ?_⟩
    exact fin H8 b8 _ hb8 hR8 q8
  · rw [if_neg Bool.false_ne_true] at q7
    exact fin H7 b5 _ hb7 hR7 q7
end
end K10
/-! read_item, and what the law hears of it. -/
namespace K10
open PySem PySem.Spec PyProof.Rows L2
/-- what reading tells: the place of the failure, or nothing -/
def rd (l : List Nat) : Option (Nat × Nat) := if lex l 0 = [] then none else match run (kinds l) itemP 0 with
  | (some _, _) => none
  | (none, b) => some (plc (lex l 0) b)
theorem rd_nil {l : List Nat} (h : lex l 0 = []) : rd l = none := if_pos h
theorem rd_ok {l : List Nat} {b : Nat} (h : run (kinds l) itemP 0 = (some (), b)) : rd l = none := by
  unfold rd
  rw [h]
  split <;> rfl
theorem rd_bad {l : List Nat} {b : Nat} (hn : lex l 0 ≠ []) (h : run (kinds l) itemP 0 = (none, b)) : rd l = some (plc (lex l 0) b) := by
  unfold rd
  rw [if_neg hn, h]
section
variable {P : Program} {w : World} {K : PySem.W.Frag} {mg : Str → Option Value} {base : Heap} {C SP fI : Addr}
def xdOf (s e : Nat) : HO := .xd [("end", .int (e : Int)), ("start", .int (s : Int))]
/-- what is wanted of read_item: of its value nothing, of its failure the place -/
def spItem (SP : Addr) : Sp := fun vs H Q E => ∃ l : List Nat, vs = [.str (tx l)] ∧ l.length ≤ 100000 ∧ (lex l 0).length ≤ 300 ∧ match rd l with
  | none => ∀ v H', Same H H' → Q v H'
  | some (s, e) => ∀ dd H', Same H H' → H' dd = some (xdOf s e) → E (.ref SP) (some dd) H'
/-- the table of readers -/
structure Ix (P : Program) (w : World) (K : PySem.W.Frag) (mg : Str → Option Value) (base : Heap) (C SP d : Addr) : Prop where
  g : mg "ITEM_READERS" = some (.ref d)
  dict : ∃ es n, KDict K w d es n
  no : ∀ z, z ∉ [S "import", S "data", S "trait", S "impl", S "def"] → PySem.W.nsIn K d z = some none
  yes : ∀ z p, (z, p) ∈ [(S "import", importP), (S "data", dataP), (S "trait", traitP), (S "impl", implP), (S "def", defP)] → ∃ (f : Addr) (fd : FuncData), PySem.W.nsIn K d z = some (some (.ref f)) ∧ FnOk P w K mg base (L2.CX P w) 136 f fd ["reader"] (spD C SP vAny p 30) ∧ PySem.W.keepIn K (.ref f) = true ∧ Binds K fd ["reader"] []
theorem item_if (k : Str) : (∃ p, (k, p) ∈ [(S "import", importP), (S "data", dataP), (S "trait", traitP), (S "impl", implP), (S "def", defP)] ∧ (if k = S "import" then importP else if k = S "data" then dataP else if k = S "trait" then traitP else if k = S "impl" then implP else if k = S "def" then defP else K10.P.fail) = p) ∨
    (k ∉ [S "import", S "data", S "trait", S "impl", S "def"] ∧ (if k = S "import" then importP else if k = S "data" then dataP else if k = S "trait" then traitP else if k = S "impl" then implP else if k = S "def" then defP else K10.P.fail) = K10.P.fail) := by
  by_cases c1 : k = S "import"
  · exact .inl ⟨_, by rw [c1]; exact .head _, if_pos c1⟩
  rw [if_neg c1]
  by_cases c2 : k = S "data"
  · exact .inl ⟨_, by rw [c2]; exact .tail _ (.head _), if_pos c2⟩
  rw [if_neg c2]
  by_cases c3 : k = S "trait"
  · exact .inl ⟨_, by rw [c3]; exact .tail _ (.tail _ (.head _)), if_pos c3⟩
  rw [if_neg c3]
  by_cases c4 : k = S "impl"
  · exact .inl ⟨_, by rw [c4]; exact .tail _ (.tail _ (.tail _ (.head _))), if_pos c4⟩
  rw [if_neg c4]
  by_cases c5 : k = S "def"
  · exact .inl ⟨_, by rw [c5]; exact .tail _ (.tail _ (.tail _ (.tail _ (.head _)))), if_pos c5⟩
  rw [if_neg c5]
  refine .inr ⟨?_, rfl⟩
  simp [c1, c2, c3, c4, c5]
theorem ok_read_item {d : Addr} (T : Rx K mg C SP fI) (G : Big P w K mg base C SP) (D : Ix P w K mg base C SP d) {fR : Addr} {fdR : FuncData} (gR : mg "Reader" = some (.ref C)) (MR : Mk K C fR) (GR : FnOk P w K mg base CX0 5 fR fdR ["self", "text"] (spRInit C)) (bR : Binds K fdR ["self", "text"] [])
    (GN : Mt P w K mg base (L2.CX P w) C 3 "need" ["self", "condition"] (spNeed C SP)) (GF : Mt P w K mg base (L2.CX P w) C 4 "finish" ["self"] (spM C SP vNon finishP)) {f : Addr} {fd : FuncData} (F : FnP K "read_item" s_read_item f fd) : FnOk P w K mg base (L2.CX P w) 137 f fd ["text"] (spItem SP) := by
  refine F.ok c_read_item (fun vs H Q E h => ?_) (fun cdv A outer s H vs Q E hr h => ?_)
  · obtain ⟨l, rfl, _⟩ := h
    rfl
  obtain ⟨l, rfl, hl, hf, q⟩ := h
  have nd := c_read_item.nd
  have hr6 : Room 6 _ := hr.mono (by decide)
  -- the reader as it is made
  have made : ∀ (r dx : Addr), H r = none → H dx = none → dx ≠ r → ∀ H' : Hp, But r (upd (upd H dx (.own r)) r (.ins C dx [])) H' → Same H H' := fun r dx h1 h2 h3 H' hb b o e => by
    have n1 : b ≠ r := ne_of_none e h1
    have n2 : b ≠ dx := ne_of_none e h2
    exact hb b o n1 (by rw [upd_ne n1, upd_ne n2]; exact e)
  by_cases hn : lex l 0 = []
  · refine ⟨_, pss_cons (ps_set (i := 1) nd rfl (Or.inl rfl) (pe_make MR GR hr6 (by rfl) gR bR .nil pass0 (pa_cons (pv 0) pa_nil)))
      (pss_cons (ps_if (pt_not (pt_truth (pe_fld (pv 1) rfl) (by intro _; rfl))) (pss_one (ps_ret (pe_tup (pa_cons pe_str pa_nil)))) pss_nil) pss_never), ?_⟩
    refine ⟨_, rfl, fun r dx h1 h2 h3 => ⟨r, dx, l, rfl, upd_same, hl, hf, fun H' tl as hb ho hL hT => ⟨rfl, ?_⟩⟩⟩
    have e : as = [] := List.length_eq_zero_iff.mp (by rw [hT.1, hn]; rfl)
    subst e
    refine ⟨_, rfl, r, C, dx, _, _, rfl, ho, T.cls, T.nTokens, rfl, false, .inl ⟨_, SqL.of hL, rfl⟩, iftt rfl ⟨size1, fun p hp => ?_⟩⟩
    rw [rd_nil hn] at q
    exact q _ _ (same_new (made r dx h1 h2 h3 H' hb) hp _)
  -- what stands first
  have run0 : ∀ p, (if (kdAt (kinds l) 0).2 = S "import" then importP else if (kdAt (kinds l) 0).2 = S "data" then dataP else if (kdAt (kinds l) 0).2 = S "trait" then traitP else if (kdAt (kinds l) 0).2 = S "impl" then implP else if (kdAt (kinds l) 0).2 = S "def" then defP else K10.P.fail) = p →
      run (kinds l) itemP 0 = run (kinds l) (p.bind fun _ => finishP) 0 := fun p e => by
    rw [← e]
    rfl
  -- what the end makes of the wish
  have out : ∀ (r : Addr) (R : Rdr) (H1 : Hp), R.l = l → (∀ H', But r H1 H' → Same H H') → Out C SP r R 0 H1 vAny (fun v H' => match rd l with
      | none => ∀ v H', Same H H' → Q v H'
      | some _ => False) E (run (kinds l) itemP 0) ∨ True := fun _ _ _ _ _ => .inr True.intro
  have hemp : ∀ as : List Addr, as.length = (lex l 0).length → (as.map V.ref).isEmpty = false := fun as h => by
    cases e : as.map V.ref with
    | nil =>
      have := congrArg List.length e
      rw [List.length_map, h] at this
      exact absurd (List.length_eq_zero_iff.mp this) hn
    | cons _ _ => rfl
  obtain ⟨es, n, hD⟩ := D.dict
  rcases item_if (kdAt (kinds l) 0).2 with ⟨p, hp, hi⟩ | ⟨hno, hi⟩
  · obtain ⟨fr, fdr, ns, GX, kX, bX⟩ := D.yes _ _ hp
    have er := run0 p hi
    obtain ⟨_, _, GFx, cX, mX, bFx⟩ := G.s.fixed.ex
    obtain ⟨_, _, GNx, _, mN, bN⟩ := GN.ex
    obtain ⟨_, _, GEx, _, mE, bE⟩ := GF.ex
    refine ⟨_, pss_cons (ps_set (i := 1) nd rfl (Or.inl rfl) (pe_make MR GR hr6 (by rfl) gR bR .nil pass0 (pa_cons (pv 0) pa_nil)))
      (pss_cons (ps_if (pt_not (pt_truth (pe_fld (pv 1) rfl) (by intro _; rfl))) (pss_one (ps_ret (pe_tup (pa_cons pe_str pa_nil)))) pss_nil)
      (pss_cons (ps_set (i := 2) nd rfl (Or.inl rfl) (pe_meth0 (pv 1) cX mX GFx (hr.mono (by decide)) bFx .nil pass0))
      (pss_cons (ps_expr (pe_meth (pv 1) cX mN GNx (hr.mono (by decide)) bN .nil passE (pa_cons (pe_cmpR (op_in_kd hD) (pv 2) (pe_glob (v := .ref d) (by rfl) D.g rfl) rfl) pa_nil)))
      (pss_cons (ps_set (i := 3) nd rfl (Or.inl rfl) (pe_ix ix_kdict (pe_glob (v := .ref d) (by rfl) D.g rfl) (pv 2) (fun _ _ => rfl)))
      (pss_cons (ps_set (i := 4) nd rfl (Or.inl rfl) (pe_callL (i := 3) GX hr rfl (Or.inl rfl) kX bX .nil passE (pa_cons (pv 1) pa_nil)))
      (pss_cons (ps_expr (pe_meth0 (pv 1) cX mE GEx (hr.mono (by decide)) bE .nil passE))
      (pss_one (ps_ret (pv 4))))))))), ?_⟩
    refine ⟨_, rfl, fun r dx h1 h2 h3 => ⟨r, dx, l, rfl, upd_same, hl, hf, fun H1 tl as hb ho hL hT => ⟨rfl, ?_⟩⟩⟩
    have S1 := made r dx h1 h2 h3
    refine ⟨_, rfl, r, C, dx, _, _, rfl, ho, T.cls, T.nTokens, rfl, true, .inl ⟨_, SqL.of hL, by rw [hemp as hT.1]; rfl⟩, iffF rfl ?_⟩
    have hR : RdAt C H1 r ⟨l, dx, tl, as⟩ 0 0 := ⟨ho, hL, hT, Nat.zero_le _, hn, hl, hf⟩
    refine ⟨_, rfl, r, dx, _, rfl, ho, noM_fixed _ _ _, r, ⟨l, dx, tl, as⟩, 0, 0, rfl, hR, fun H2 s2 => ?_⟩
    have hR2 := hR.same s2
    refine ⟨_, rfl, r, dx, _, rfl, hR2.obj, noM_need _ _ _, _, rfl, _, _, rfl, rfl, ns, ?_⟩
    refine ⟨r, ⟨l, dx, tl, as⟩, 0, 0, _, rfl, hR2, fun _ => ?_, fun z => Bool.noConfusion z⟩
    refine ⟨_, rfl, d, _, .ref fr, rfl, rfl, ⟨es, n, _, hD.at_, hD.lit, ns, rfl⟩, ?_⟩
    have hb2 := hb.trans (But.of s2)
    -- the reader of the item
    refine ⟨rfl, _, rfl, r, ⟨l, dx, tl, as⟩, 0, 0, rfl, rfl, hR2, ?_⟩
    show Out C SP r ⟨l, dx, tl, as⟩ 0 H2 vAny _ E (run (kinds l) p 0)
    rw [run_bind] at er
    cases e3 : run (kinds l) p 0 with
    | mk o b =>
      rw [e3] at er
      cases o with
      | none =>
        intro dd H3 hb3 he
        rw [rd_bad hn er] at q
        exact q dd H3 (S1 _ (hb2.trans hb3)) he
      | some u =>
        intro v H3 hb3 hR3 _
        refine ⟨_, rfl, r, dx, _, rfl, hR3.obj, noM_finish _ _ _, r, ⟨l, dx, tl, as⟩, b, 0, rfl, hR3, ?_⟩
        show Out C SP r ⟨l, dx, tl, as⟩ 0 H3 vNon _ E (run (kinds l) finishP b)
        have er' : run (kinds l) itemP 0 = run (kinds l) finishP b := er
        cases e4 : run (kinds l) finishP b with
        | mk o4 b4 =>
          rw [e4] at er'
          cases o4 with
          | none =>
            intro dd H4 hb4 he
            rw [rd_bad hn er'] at q
            exact q dd H4 (S1 _ ((hb2.trans hb3).trans hb4)) he
          | some u4 =>
            intro v4 H4 hb4 _ _
            rw [rd_ok er'] at q
            exact ⟨_, rfl, q _ _ (S1 _ ((hb2.trans hb3).trans hb4))⟩
  · have er := run0 _ hi
    have ns := D.no _ hno
    obtain ⟨_, _, GFx, cX, mX, bFx⟩ := G.s.fixed.ex
    obtain ⟨_, _, GNx, _, mN, bN⟩ := GN.ex
    refine ⟨_, pss_cons (ps_set (i := 1) nd rfl (Or.inl rfl) (pe_make MR GR hr6 (by rfl) gR bR .nil pass0 (pa_cons (pv 0) pa_nil)))
      (pss_cons (ps_if (pt_not (pt_truth (pe_fld (pv 1) rfl) (by intro _; rfl))) (pss_one (ps_ret (pe_tup (pa_cons pe_str pa_nil)))) pss_nil)
      (pss_cons (ps_set (i := 2) nd rfl (Or.inl rfl) (pe_meth0 (pv 1) cX mX GFx (hr.mono (by decide)) bFx .nil pass0))
      (pss_cons (ps_expr (pe_meth (pv 1) cX mN GNx (hr.mono (by decide)) bN .nil passE (pa_cons (pe_cmpR (op_in_kd hD) (pv 2) (pe_glob (v := .ref d) (by rfl) D.g rfl) rfl) pa_nil))) pss_never))), ?_⟩
    refine ⟨_, rfl, fun r dx h1 h2 h3 => ⟨r, dx, l, rfl, upd_same, hl, hf, fun H1 tl as hb ho hL hT => ⟨rfl, ?_⟩⟩⟩
    have S1 := made r dx h1 h2 h3
    refine ⟨_, rfl, r, C, dx, _, _, rfl, ho, T.cls, T.nTokens, rfl, true, .inl ⟨_, SqL.of hL, by rw [hemp as hT.1]; rfl⟩, iffF rfl ?_⟩
    have hR : RdAt C H1 r ⟨l, dx, tl, as⟩ 0 0 := ⟨ho, hL, hT, Nat.zero_le _, hn, hl, hf⟩
    refine ⟨_, rfl, r, dx, _, rfl, ho, noM_fixed _ _ _, r, ⟨l, dx, tl, as⟩, 0, 0, rfl, hR, fun H2 s2 => ?_⟩
    have hR2 := hR.same s2
    refine ⟨_, rfl, r, dx, _, rfl, hR2.obj, noM_need _ _ _, _, rfl, _, _, rfl, rfl, ns, ?_⟩
    refine ⟨r, ⟨l, dx, tl, as⟩, 0, 0, _, rfl, hR2, fun z => Bool.noConfusion z, fun _ dd H3 s3 he => ?_⟩
    have er' : run (kinds l) itemP 0 = (none, 0) := er
    rw [rd_bad hn er'] at q
    exact q dd H3 (S1 _ ((hb.trans (But.of s2)).trans (But.of s3))) he
/-- the law's own: None, or the place -/
def spRead : Sp := fun vs H Q _ => ∃ l : List Nat, vs = [.str (tx l)] ∧ l.length ≤ 100000 ∧ (lex l 0).length ≤ 300 ∧ match rd l with
  | none => ∀ H', Same H H' → Q .non H'
  | some (s, e) => ∀ p H', Same H H' → H' p = some (.tup [.int (s : Int), .int (e : Int)]) → Q (.ref p) H'
theorem ok_law_read (T : Rx K mg C SP fI) (XF : XfC K SP) (exm : PySem.W.exmOne K (.ref SP) (.ref SP) = some true) {fT : Addr} {fdT : FuncData} (GT : FnOk P w K mg base (L2.CX P w) 137 fT fdT ["text"] (spItem SP)) (gT : mg "read_item" = some (.ref fT)) (kT : PySem.W.keepIn K (.ref fT) = true) (bT : Binds K fdT ["text"] [])
    {f : Addr} {fd : FuncData} (F : FnP K "_law_read" s_g_read f fd) : FnOk P w K mg base CX0 138 f fd ["_law_text"] spRead := by
  refine F.ok c_g_read (fun vs H Q E h => ?_) (fun cdv A outer s H vs Q E hr h => ?_)
  · obtain ⟨l, rfl, _⟩ := h
    rfl
  obtain ⟨l, rfl, hl, hf, q⟩ := h
  have nd := c_g_read.nd
  refine ⟨_, PSs.nox (pss_cons (ps_try_as (i := 1) (tb := fun W => tDrop (tCallS (spItem SP) (WE W) (tCons (tVar 0) tNil))) (ts := fun a cls d => tRet (tTup (tCons (tXf a cls d SP "start" (tVar 1)) (tCons (tXf a cls d SP "end" (tVar 1)) tNil)))) (Wout := fun _ _ _ _ => False) rfl rfl nd rfl rfl ⟨rfl, by decide, Or.inl T.gSP⟩ takes0
      (fun W pn xe tk _ => pss_one (ps_expr (by exact (pe_callS GT hr rfl gT kT bT (fun σ => passAt tk σ) (by exact (pa_cons (pv 0) pa_nil))))))
      (fun a oe cls d pn hz hf => pss_one (ps_ret (pe_tup (by exact (pa_cons (pe_xf XF T.nStart hz hf (pv 1)) (pa_cons (pe_xf XF T.nEnd hz hf (pv 1)) pa_nil))))))) (pss_one (ps_ret pe_non))), ?_⟩
  refine ⟨_, rfl, l, rfl, hl, hf, ?_⟩
  cases e : rd l with
  | none =>
    rw [e] at q
    exact fun v H' s1 => q H' s1
  | some z =>
    obtain ⟨s0, e0⟩ := z
    rw [e] at q
    intro dd H' s1 hx
    refine ⟨true, exm, fun _ a ha => ?_, fun z => Bool.noConfusion z⟩
    refine ⟨_, rfl, rfl, rfl, dd, _, _, rfl, hx, rfl, _, rfl, rfl, rfl, dd, _, _, rfl, hx, rfl, size2, fun p hp => ?_⟩
    exact q p _ (same_new s1 hp _) upd_same
end
end K10
/-! The plain law: the first wrong token stays where the text is cut behind it, and is the first. -/
namespace K10
open PySem
theorem asc_le {ts : List Tk} (h : ts.Pairwise fun s t => s.2.2 ≤ t.2.1) {i j : Nat} {s t : Tk} (hi : ts[i]? = some s) (hj : ts[j]? = some t) (hij : i < j) : s.2.2 ≤ t.2.1 := by
  obtain ⟨h1, rfl⟩ := List.getElem?_eq_some_iff.mp hi
  obtain ⟨h2, rfl⟩ := List.getElem?_eq_some_iff.mp hj
  exact List.pairwise_iff_getElem.mp h i j h1 h2 hij
theorem kd_cut {l : List Nat} {e : Nat} {u : Tk} (h : u.2.2 ≤ e) (h2 : u.2.1 ≤ u.2.2) : kdOf (l.take e) u = kdOf l u := by
  unfold kdOf
  rw [List.drop_take, List.take_take, Nat.min_eq_left (by omega)]
theorem kinds_cut {l : List Nat} {k : Nat} {t : Tk} (h : (lex l 0)[k]? = some t) : lex (l.take t.2.2) 0 = (lex l 0).take (k + 1) ∧ kinds (l.take t.2.2) = (kinds l).take (k + 1) := by
  have e1 : lex (l.take t.2.2) 0 = (lex l 0).take (k + 1) := by
    have := lex_cut l 0 k t h
    rw [Nat.sub_zero] at this
    exact this
  refine ⟨e1, ?_⟩
  show (lex (l.take t.2.2) 0).map (kdOf (l.take t.2.2)) = ((lex l 0).map (kdOf l)).take (k + 1)
  rw [e1, ← List.map_take]
  refine List.map_congr_left fun u hu => ?_
  obtain ⟨j, hj⟩ := List.mem_iff_getElem?.mp hu
  have hjk : j < k + 1 := by
    have := (List.getElem?_eq_some_iff.mp hj).1
    rw [List.length_take] at this
    omega
  rw [List.getElem?_take_of_lt hjk] at hj
  have hb := lex_bounds l 0 u (List.mem_of_getElem? hj)
  refine kd_cut ?_ (by omega)
  rcases Nat.lt_or_ge j k with c | c
  · have h1 := asc_le (lex_asc l 0) hj h c
    have hb2 := lex_bounds l 0 t (List.mem_of_getElem? h)
    omega
  · have e : j = k := by omega
    subst e
    rw [h] at hj
    cases hj
    exact Nat.le_refl _
theorem plain {l : List Nat} (hn : lex l 0 ≠ []) {pl : Nat × Nat} (h : rd l = some pl) : (∃ t, (lex l 0).getLast? = some t ∧ pl = (t.2.2, t.2.2)) ∨
    ∃ b t, (lex l 0)[b]? = some t ∧ pl = (t.2.1, t.2.2) ∧ (∀ m t', m < b → (lex l 0)[m]? = some t' → (t'.2.1, t'.2.2) ≠ pl) ∧ rd (l.take t.2.2) = some pl ∧
      ∀ k t', b = k + 1 → (lex l 0)[k]? = some t' → rd (l.take t'.2.2) = none ∨ rd (l.take t'.2.2) = some (t'.2.2, t'.2.2) := by
  unfold rd at h
  rw [if_neg hn] at h
  cases hr : run (kinds l) itemP 0 with
  | mk o b =>
    rw [hr] at h
    cases o with
    | some _ => cases h
    | none =>
      have h : some (plc (lex l 0) b) = some pl := h
      have h := Option.some.inj h
      obtain ⟨tl, hl1, hl2⟩ := last_of hn
      by_cases hb : b < (lex l 0).length
      · refine .inr ⟨b, (lex l 0)[b], List.getElem?_eq_getElem hb, ?_⟩
        have hg : (lex l 0)[b]? = some (lex l 0)[b] := List.getElem?_eq_getElem hb
        generalize (lex l 0)[b] = t at hg
        rw [plc_some hg] at h
        obtain ⟨f1, f2⟩ := first_wrong hr (by rw [kinds_len]; exact hb)
        have hbt := lex_bounds l 0 t (List.mem_of_getElem? hg)
        refine ⟨h.symm, fun m t' hm ht' e => ?_, ?_, fun k t' hk ht' => ?_⟩
        · have h1 := asc_le (lex_asc l 0) ht' hg hm
          have hb' := lex_bounds l 0 t' (List.mem_of_getElem? ht')
          rw [← h] at e
          have e1 := congrArg Prod.fst e
          have e1 : t'.2.1 = t.2.1 := e1
          omega
        · obtain ⟨k1, k2⟩ := kinds_cut hg
          have gt : ((lex l 0).take (b + 1))[b]? = some t := by rw [List.getElem?_take_of_lt (by omega)]; exact hg
          unfold rd
          rw [k1, k2, f1, if_neg (fun e => by rw [e] at gt; cases gt)]
          show some (plc ((lex l 0).take (b + 1)) b) = some pl
          rw [plc_some gt, h]
        · subst hk
          obtain ⟨k1, k2⟩ := kinds_cut ht'
          have gt : ((lex l 0).take (k + 1))[k]? = some t' := by rw [List.getElem?_take_of_lt (by omega)]; exact ht'
          have hlen : ((lex l 0).take (k + 1)).length = k + 1 := by rw [List.length_take]; omega
          unfold rd
          rw [k1, k2, if_neg (fun e => by rw [e] at gt; cases gt)]
          cases hr2 : run ((kinds l).take (k + 1)) itemP 0 with
          | mk o2 b2 =>
            rw [hr2] at f2
            have f2 : b2 = k + 1 := f2
            subst f2
            cases o2 with
            | some _ => exact .inl rfl
            | none =>
              refine .inr ?_
              show some (plc ((lex l 0).take (k + 1)) (k + 1)) = some (t'.2.2, t'.2.2)
              rw [plc_none (by omega) (t := t')]
              rw [List.getLast?_eq_getElem?, hlen]
              exact gt
      · refine .inl ⟨tl, hl1, ?_⟩
        rw [← h, plc_none hb hl1]
end K10
/-! The law's tape. -/
namespace K10
open PySem PySem.Spec PyProof.Rows L2
def tpL (c : Addr) (a l s u : Int) : List (Key × V) := [(.inr "cells", .ref c), (.inr "at", .int a), (.inr "left", .int l), (.inr "seed", .int s), (.inr "salt", .int u)]
/-- the tape: its dict, its cells -/
abbrev Tp := Addr × Addr
def TapeAt (H : Hp) (t : Tp) : Prop := ∃ (ns : List Int) (a : Nat) (l s u : Int), H t.1 = some (.dK (tpL t.2 a l s u)) ∧ H t.2 = some (.lst (ns.map V.int))
theorem TapeAt.same {H H' : Hp} {t : Tp} (h : TapeAt H t) (s : Same H H') : TapeAt H' t := by
  obtain ⟨ns, a, l, s0, u, h1, h2⟩ := h
  exact ⟨ns, a, l, s0, u, s _ _ h1, s _ _ h2⟩
theorem tp_cells {c : Addr} {a l s u : Int} : valV (tpL c a l s u) (.inr "cells") = some (.ref c) := rfl
theorem tp_at {c : Addr} {a l s u : Int} : valV (tpL c a l s u) (.inr "at") = some (.int a) := rfl
theorem tp_left {c : Addr} {a l s u : Int} : valV (tpL c a l s u) (.inr "left") = some (.int l) := rfl
theorem tp_seed {c : Addr} {a l s u : Int} : valV (tpL c a l s u) (.inr "seed") = some (.int s) := rfl
theorem tp_salt {c : Addr} {a l s u : Int} : valV (tpL c a l s u) (.inr "salt") = some (.int u) := rfl
theorem tp_put_left {c : Addr} {a l s u x : Int} : putK (tpL c a l s u) (.inr "left") (.int x) = tpL c a x s u := rfl
theorem tp_put_at {c : Addr} {a l s u x : Int} : putK (tpL c a l s u) (.inr "at") (.int x) = tpL c x l s u := rfl
theorem tp_put_salt {c : Addr} {a l s u x : Int} : putK (tpL c a l s u) (.inr "salt") (.int x) = tpL c a l s x := rfl
theorem size6 {n : Nat} (h : n ≤ 15) : n < sizeLine := by rw [sizeLine_eq]; omega
section
variable {P : Program} {w : World} {K : PySem.W.Frag} {mg : Str → Option Value} {base : Heap}
def spTake : Sp := fun vs H Q _ => ∃ (t : Tp) (m : Nat), vs = [.ref t.1, .int (m : Int)] ∧ 0 < m ∧ m < 100000 ∧ TapeAt H t ∧ ∀ (k : Nat) H', k < m → But t.1 H H' → TapeAt H' t → Q (.int (k : Int)) H'
theorem get_left {H : Hp} {t c : Addr} {a l s u : Int} (h : H t = some (.dK (tpL c a l s u))) : DGet H t (.str "left") (some (.int l)) := DGet.k (k := .inr "left") h
theorem get_at {H : Hp} {t c : Addr} {a l s u : Int} (h : H t = some (.dK (tpL c a l s u))) : DGet H t (.str "at") (some (.int a)) := DGet.k (k := .inr "at") h
theorem get_cells {H : Hp} {t c : Addr} {a l s u : Int} (h : H t = some (.dK (tpL c a l s u))) : DGet H t (.str "cells") (some (.ref c)) := DGet.k (k := .inr "cells") h
theorem get_seed {H : Hp} {t c : Addr} {a l s u : Int} (h : H t = some (.dK (tpL c a l s u))) : DGet H t (.str "seed") (some (.int s)) := DGet.k (k := .inr "seed") h
theorem get_salt {H : Hp} {t c : Addr} {a l s u : Int} (h : H t = some (.dK (tpL c a l s u))) : DGet H t (.str "salt") (some (.int u)) := DGet.k (k := .inr "salt") h
theorem put_left {H : Hp} {t c : Addr} {a l s u x : Int} (h : H t = some (.dK (tpL c a l s u))) : DPut H t (.str "left") (.int x) (upd H t (.dK (tpL c a x s u))) := DPut.k (k := .inr "left") (v := .int x) h (size6 (by show 5 ≤ 15; decide))
theorem put_at {H : Hp} {t c : Addr} {a l s u x : Int} (h : H t = some (.dK (tpL c a l s u))) : DPut H t (.str "at") (.int x) (upd H t (.dK (tpL c x l s u))) := DPut.k (k := .inr "at") (v := .int x) h (size6 (by show 5 ≤ 15; decide))
theorem put_salt {H : Hp} {t c : Addr} {a l s u x : Int} (h : H t = some (.dK (tpL c a l s u))) : DPut H t (.str "salt") (.int x) (upd H t (.dK (tpL c a l s x))) := DPut.k (k := .inr "salt") (v := .int x) h (size6 (by show 5 ≤ 15; decide))
theorem dec_i {i j : Int} {b : Bool} (h : (i == j) = b) : decide (V.int i = V.int j) = b := by rw [dec_int, h]
theorem mod_nat {x : Int} {m : Nat} (h : 0 < m) : ∃ k : Nat, k < m ∧ x % (m : Int) = (k : Int) := by
  have h1 := Int.emod_nonneg x (b := (m : Int)) (by omega)
  have h2 := Int.emod_lt_of_pos x (b := (m : Int)) (by omega)
  exact ⟨(x % (m : Int)).toNat, by omega, by omega⟩
theorem ps_w {X : Cx} {st : Stmt} {t t' : TS} (h : PS X st t) (f : ∀ D σ H, t' D σ H → t D σ H) : PS X st t' := ⟨fun pins s σ H D I q => h.run pins s σ H D I (f _ _ _ q)⟩
/-- x % m, some number below m -/
theorem op_modT {X : Cx} : OpR X (binaryOp .Mod) (fun x y H Q => ∃ (i : Int) (m : Nat), x = .int i ∧ y = .int (m : Int) ∧ 0 < m ∧ ∀ k : Nat, k < m → Q (.int (k : Int)) H) := by
  intro pins s σ H x y v u Q I rx ry ⟨i, m, ex, ey, hm, h⟩
  obtain ⟨k, hk, ek⟩ := mod_nat (x := i) hm
  exact op_mod pins s σ H x y v u Q I rx ry ⟨i, m, ex, ey, by omega, by show Q (.int (i % (m : Int))) H; rw [ek]; exact h k hk⟩
/-- a fresh cell is drawn, if the last is used up -/
def tFill : TS := fun D σ H => ∃ (t c : Addr) (ns : List Int) (a : Nat) (l s u : Int) (rest : List (Option V)), σ = some (.ref t) :: rest ∧ H t = some (.dK (tpL c a l s u)) ∧ H c = some (.lst (ns.map V.int)) ∧
  ∀ (a1 : Nat) (l1 : Int) H1, But t H H1 → H1 t = some (.dK (tpL c a1 l1 s u)) → H1 c = some (.lst (ns.map V.int)) → D.nx σ H1
theorem fill_w {X : Cx} {st : Stmt} {t : TS} (h : PS X st t) (f : ∀ D σ H, tFill D σ H → t D σ H) : PS X st tFill := ps_w h f
theorem ok_g_take (len : mg "len" = none) (int : mg "int" = none) {f : Addr} {fd : FuncData} (F : FnP K "_law_take" s_g_take f fd) : FnOk P w K mg base CX0 1 f fd ["_law_tape_here", "_law_many"] spTake := by
  refine F.ok c_g_take (fun vs H Q E h => ?_) (fun cdv A outer s H vs Q E hr h => ?_)
  · obtain ⟨t, m, rfl, _⟩ := h
    rfl
  obtain ⟨⟨t, c⟩, m, rfl, hm, hm2, ⟨ns, a, l, s0, u, ht, hc⟩, q⟩ := h
  have nd := c_g_take.nd
  have hu := hu_of hr
  have nct : c ≠ t := fun e => by
    rw [e, ht] at hc
    cases hc
  refine ⟨_, PSs.nox (pss_cons (fill_w (ps_if (PW.pt (pw_and (pt_cmpR op_eq (pe_dget hu (pv 0) pe_str (fun _ _ => rfl)) pe_int (nomark _)) (pw_and1 (pt_cmpR op_lt (pe_dget hu (pv 0) pe_str (fun _ _ => rfl)) (pe_callB call_len_seq (by rfl) len boot_len (pa_cons (pe_dget hu (pv 0) pe_str (fun _ _ => rfl)) pa_nil)) (nomark _)))))
      (pss_cons (ps_dput hu (pv 0) pe_str (pe_ix ix_list (pe_dget hu (pv 0) pe_str (fun _ _ => rfl)) (pe_dget hu (pv 0) pe_str (fun _ _ => rfl)) (fun _ _ => rfl)) rfl)
      (pss_one (ps_dput hu (pv 0) pe_str (pe_op op_add (pe_dget hu (pv 0) pe_str (fun _ _ => rfl)) pe_int) rfl))) pss_nil) ?_)
    (pss_cons (ps_if (pt_cmpR op_gt (pe_dget hu (pv 0) pe_str (fun _ _ => rfl)) pe_int (nomark _))
      (pss_cons (ps_set (i := 2) nd rfl (Or.inl rfl) (pe_op op_modT (pe_callTy call_int1 (by rfl) int (by decide +kernel) (pa_cons (pe_dget hu (pv 0) pe_str (fun _ _ => rfl)) pa_nil)) (pv 1)))
      (pss_cons (ps_dput hu (pv 0) pe_str (pe_op op_fdiv (pe_dget hu (pv 0) pe_str (fun _ _ => rfl)) (pv 1)) rfl)
      (pss_one (ps_ret (pv 2))))) pss_nil)
    (pss_cons (ps_dput hu (pv 0) pe_str (pe_op op_add (pe_dget hu (pv 0) pe_str (fun _ _ => rfl)) pe_int) rfl)
    (pss_cons (ps_set (i := 3) nd rfl (Or.inl rfl) (pe_op op_modT (pe_callTy call_int1 (by rfl) int (by decide +kernel) (pa_cons (pe_op op_add (pe_op op_mul (pe_dget hu (pv 0) pe_str (fun _ _ => rfl)) pe_int) (pe_op op_mul (pe_dget hu (pv 0) pe_str (fun _ _ => rfl)) pe_int)) pa_nil)) pe_int))
    (pss_cons (ps_set (i := 3) nd rfl (Or.inl rfl) (pe_op op_modT (pe_callTy call_int1 (by rfl) int (by decide +kernel) (pa_cons (pe_op op_add (pe_op op_add (pe_op op_mul (pv 3) (pv 3)) (pe_op op_mul (pe_dget hu (pv 0) pe_str (fun _ _ => rfl)) pe_int)) pe_int) pa_nil)) pe_int))
    (pss_one (ps_ret (pe_op op_modT (pe_callTy call_int1 (by rfl) int (by decide +kernel) (pa_cons (pv 3) pa_nil)) (pv 1))))))))), ?_⟩
  · rintro D σ H ⟨t, c, ns, a, l, s0, u, rest, rfl, ht, hc, q⟩
    have nct : c ≠ t := fun e => by
      rw [e, ht] at hc
      cases hc
    refine ⟨_, rfl, t, _, rfl, get_left ht, rfl, _, rfl, ?_⟩
    rw [dec_int]
    by_cases hl : l = 0
    · subst hl
      refine iftt rfl ⟨_, rfl, t, _, rfl, get_at ht, _, rfl, t, _, rfl, get_cells ht, c, _, rfl, .inl (SqL.of hc), _, _, rfl, rfl, _, rfl, ?_⟩
      by_cases ha : (a : Int) < ((ns.map V.int).length : Int)
      · have ha' : a < ns.length := by
          rw [List.length_map] at ha
          omega
        refine iftt (decide_eq_true ha) ⟨_, rfl, t, _, rfl, get_cells ht, _, rfl, t, _, rfl, get_at ht, c, _, (a : Int), V.int ns[a], rfl, rfl, SqL.of hc, atI_nat (by rw [List.getElem?_map, List.getElem?_eq_getElem ha']; rfl), _, rfl, t, _, rfl, put_left ht, ?_⟩
        refine ⟨_, rfl, t, _, rfl, get_at upd_same, _, _, rfl, rfl, _, rfl, t, _, rfl, put_at upd_same, ?_⟩
        exact q (a + 1) _ _ ((but_upd (H := H)).trans but_upd) (upd_same) (by rw [upd_ne nct, upd_ne nct]; exact hc)
      · exact iffF (decide_eq_false ha) (q _ _ _ (But.refl _ _) ht hc)
    · exact iffF (by simpa using hl) (q _ _ _ (But.refl _ _) ht hc)
  · refine ⟨t, c, ns, a, l, s0, u, _, rfl, ht, hc, fun a1 l1 H1 hb h1 hc1 => ?_⟩
    refine ⟨_, rfl, t, _, rfl, get_left h1, _, _, rfl, rfl, _, rfl, ?_⟩
    by_cases hl : (0 : Int) < l1
    · refine iftt (decide_eq_true hl) ⟨_, rfl, t, _, rfl, get_left h1, .inl ⟨_, rfl, _, rfl, _, m, rfl, rfl, hm, fun k hk => ?_⟩⟩
      refine ⟨_, rfl, t, _, rfl, get_left h1, _, rfl, _, _, rfl, rfl, ⟨by omega, by omega⟩, _, rfl, t, _, rfl, put_left h1, _, rfl, ?_⟩
      exact q k _ hk (hb.trans but_upd) ⟨ns, a1, _, s0, u, upd_same, by rw [upd_ne nct]; exact hc1⟩
    · refine iffF (decide_eq_false hl) ⟨_, rfl, t, _, rfl, get_salt h1, _, _, rfl, rfl, _, rfl, t, _, rfl, put_salt h1, ?_⟩
      refine ⟨_, rfl, t, _, rfl, get_seed upd_same, _, _, rfl, rfl, .inr ⟨by decide, by decide⟩, _, rfl, t, _, rfl, get_salt upd_same, _, _, rfl, rfl, .inr ⟨by decide, by decide⟩, _, _, rfl, rfl, .inl ⟨_, rfl, _, 2147483647, rfl, rfl, (by decide), fun k1 hk1 => ?_⟩⟩
      refine ⟨_, rfl, _, rfl, _, _, rfl, rfl, .inl ⟨by omega, by omega⟩, _, rfl, t, _, rfl, get_salt upd_same, _, _, rfl, rfl, .inr ⟨by decide, by decide⟩, _, _, rfl, rfl, _, _, rfl, rfl, .inl ⟨_, rfl, _, 2147483399, rfl, rfl, (by decide), fun k2 _ => ?_⟩⟩
      refine ⟨_, rfl, .inl ⟨_, rfl, _, rfl, _, m, rfl, rfl, hm, fun k3 hk3 => ?_⟩⟩
      exact q k3 _ hk3 (hb.trans but_upd) ⟨ns, a1, _, s0, _, upd_same, by rw [upd_ne nct]; exact hc1⟩

theorem sql_same {H H' : Hp} {a : Addr} {xs : List V} (h : SqL K H a xs) (s : Same H H') : SqL K H' a xs := by
  rcases h with (h | ⟨o, h⟩) | h
  · exact .inl (.inl (s _ _ h))
  · exact .inl (.inr ⟨o, s _ _ h⟩)
  · exact .inr h
def spTape (K : PySem.W.Frag) : Sp := fun vs H Q _ => ∃ (a : Addr) (ns : List Int), vs = [.ref a] ∧ SqL K H a (ns.map V.int) ∧ ns.length ≤ 100000 ∧ ∀ (t : Tp) H', Same H H' → TapeAt H' t → Q (.ref t.1) H'
theorem ok_g_tape (abs : mg "abs" = none) (int : mg "int" = none) {f : Addr} {fd : FuncData} (F : FnP K "_law_tape" s_g_tape f fd) : FnOk P w K mg base CX0 1 f fd ["_law_script"] (spTape K) := by
  refine F.ok c_g_tape (fun vs H Q E h => ?_) (fun cdv A outer s H vs Q E hr h => ?_)
  · obtain ⟨t, m, rfl, _⟩ := h
    rfl
  obtain ⟨a, ns, rfl, ha, hn, q⟩ := h
  have nd := c_g_tape.nd
  refine ⟨_, PSs.nox (pss_cons (ps_setLc (i := 1) (own := [("_law_cell", 2)]) (g := gName 2) (tt := tYes) (by rfl) nd rfl rfl (sw_true rfl rfl rfl (by decide +kernel)) (pi_list (pv 0)) (blkOk_by (N := ["_law_script", "_law_cells", "_law_cell", "_law_seed"]) (sc := defScope s_g_tape) (by decide +kernel)) (fun _ _ _ _ _ => pg_name (i := 2) nd rfl (Or.inl rfl)) (fun _ _ _ _ _ => pts_nil)
      (fun _ _ _ _ _ => pe_callB call_abs (by rfl) abs boot_abs (pa_cons (pe_callTy call_int1 (by rfl) int (by decide +kernel) (pa_cons (pv 2) pa_nil)) pa_nil)))
    (pss_cons (ps_set (i := 3) nd rfl (Or.inl rfl) pe_int)
    (pss_cons (ps_for PassesOwn.never rfl (pi_list (pv 1)) (pg_name (i := 2) nd rfl (Or.inl rfl))
      (pss_one (ps_set (i := 3) nd rfl (Or.inl rfl) (pe_op op_modT (pe_callTy call_int1 (by rfl) int (by decide +kernel) (pa_cons (pe_op op_add (pe_op op_mul (pv 3) pe_int) (pv 2)) pa_nil)) pe_int))))
    (pss_one (ps_ret (pe_disp (pps_cons pe_str (pv 1) (pps_cons pe_str pe_int (pps_cons pe_str pe_int (pps_cons pe_str (pv 3) (pps_cons pe_str pe_int pps_nil))))) (by rfl) (by rfl) (by decide) (by decide))))))), ?_⟩
  refine ⟨_, rfl, a, rfl, ⟨_, ha⟩, fun D hD => ?_⟩
  refine lc_list (xs := ns.map V.int) (fun i H' => ∃ ms : List Int, ms.length = i ∧ H' D = some (.lst (ms.map V.int)) ∧ Same H H') ⟨[], rfl, upd_same, same_new (Same.refl H) hD _⟩ (fun i H' _ p => sql_same ha p.choose_spec.2.2) ?_ ?_
  · rintro i x H' hx ⟨ms, hm, hD', s1⟩
    have hi : i < ns.length := by
      obtain ⟨h1, _⟩ := List.getElem?_eq_some_iff.mp hx
      rw [List.length_map] at h1
      exact h1
    obtain ⟨n, _, rfl⟩ := List.mem_map.mp (List.mem_of_getElem? hx)
    refine ⟨rfl, _, rfl, .inl ⟨_, rfl, _, rfl, _, hD', by rw [List.length_map, hm]; exact Nat.lt_of_lt_of_le hi (line_of hn), ?_⟩⟩
    exact ⟨ms ++ [if n < 0 then -n else n], by rw [List.length_append, hm]; rfl, by rw [upd_same, List.map_append]; rfl, same_mut s1 hD _⟩
  · rintro H' ⟨ms, hm, hD', s1⟩
    have hm' : ms.length ≤ 100000 := by
      rw [hm, List.length_map]
      exact hn
    refine ⟨_, rfl, D, rfl, ⟨_, SqL.of hD'⟩, ?_⟩
    refine for_list (xs := ms.map V.int) (fun i σ H1 => ∃ (n : Int) (v : Option V), σ = [some (.ref a), some (.ref D), v, some (.int n)] ∧ H1 = H') ⟨7, none, rfl, rfl⟩ (fun i σ H1 _ p => by obtain ⟨_, _, _, rfl⟩ := p; exact SqL.of hD') ?_ ?_
    · rintro i x σ H1 hx ⟨n, v, rfl, rfl⟩
      obtain ⟨n1, _, rfl⟩ := List.mem_map.mp (List.mem_of_getElem? hx)
      exact ⟨_, rfl, _, _, rfl, rfl, .inr ⟨by decide, by decide⟩, _, rfl, _, _, rfl, rfl, .inl ⟨_, rfl, _, 2147483647, rfl, rfl, by decide, fun k _ => ⟨_, _, rfl, rfl⟩⟩⟩
    · rintro σ H1 ⟨n, v, rfl, rfl⟩
      refine fun p hp => ⟨_, rfl, _, rfl, upd_same, tpL D 0 0 n 0, rfl, (by show 5 ≤ 15; decide), ?_⟩
      have nD : D ≠ p := ne_of_none hD' hp
      refine q (p, D) _ (fun b o e => ?_) ⟨ms, 0, 0, n, 0, upd_same, by rw [upd_ne nD, upd_ne nD]; exact hD'⟩
      have nb : b ≠ p := ne_of_none (s1 _ _ e) hp
      rw [upd_ne nb, upd_ne nb]
      exact s1 _ _ e
/-- is it an int -/
theorem ok_g_is_integer (isi : mg "isinstance" = none) (int : mg "int" = none) (bool : mg "bool" = none) {f : Addr} {fd : FuncData} (F : FnP K "_law_is_integer" s_g_is_integer f fd) : FnOk P w K mg base CX0 1 f fd ["_law_actual"] (fun vs H Q _ => ∃ i, vs = [.int i] ∧ Q (.bl true) H) := by
  refine F.ok c_g_is_integer (fun vs H Q E h => ?_) (fun cdv A outer s H vs Q E hr h => ?_)
  · obtain ⟨t, rfl, _⟩ := h
    rfl
  obtain ⟨i, rfl, q⟩ := h
  refine ⟨_, PSs.nox (pss_one (ps_ret (pe_and (pe_callB call_isi (by rfl) isi boot_isinstance (pa_cons (pv 0) (pa_cons (pe_bltn (v := .ty "int") (by rfl) int (by decide +kernel) rfl) pa_nil))) (pe_one (pe_not (pe_callB call_isi (by rfl) isi boot_isinstance (pa_cons (pv 0) (pa_cons (pe_bltn (v := .ty "bool") (by rfl) bool (by decide +kernel) rfl) pa_nil)))))))), ?_⟩
  exact ⟨_, rfl, _, _, _, _, true, rfl, .ty _, .base (.int _), kit_ty (by decide +kernel), true, rfl, iftt rfl ⟨_, rfl, _, _, _, _, false, rfl, .ty _, .base (.int _), kit_ty (by decide +kernel), false, rfl, q⟩⟩
/-- what same needs of the module -/
structure Sm (P : Program) (w : World) (K : PySem.W.Frag) (mg : Str → Option Value) (base : Heap) : Prop where
  len : mg "len" = none
  range : mg "range" = none
  isi : mg "isinstance" = none
  int : mg "int" = none
  bool : mg "bool" = none
  str : mg "str" = none
  tuple : mg "tuple" = none
theorem ok_g_sameI (T : Sm P w K mg base) (GI : Cl P w K mg base CX0 1 "_law_is_integer" ["_law_actual"] (fun vs H Q _ => ∃ i, vs = [.int i] ∧ Q (.bl true) H)) {f : Addr} {fd : FuncData} (F : FnP K "_law_same" s_g_same f fd) : FnOk P w K mg base CX0 2 f fd ["_law_actual", "_law_expected"] (fun vs H Q _ => ∃ i, vs = [.int i, .int i] ∧ Q (.bl true) H) := by
  refine F.ok c_g_same (fun vs H Q E h => ?_) (fun cdv A outer s H vs Q E hr h => ?_)
  · obtain ⟨t, rfl, _⟩ := h
    rfl
  obtain ⟨i, rfl, q⟩ := h
  refine ⟨_, PSs.nox (pss_cons (ps_if (pt_cmpR op_isN (pv 1) pe_non (nomark _)) pss_never pss_nil)
    (pss_cons (ps_if (pt_truth (pe_callB call_isi (by rfl) T.isi boot_isinstance (pa_cons (pv 1) (pa_cons (pe_bltn (v := .ty "bool") (by rfl) T.bool (by decide +kernel) rfl) pa_nil))) (by intro _; rfl)) pss_never pss_nil)
    (pss_cons (ps_if (pt_truth (pe_callB call_isi (by rfl) T.isi boot_isinstance (pa_cons (pv 1) (pa_cons (pe_bltn (v := .ty "int") (by rfl) T.int (by decide +kernel) rfl) pa_nil))) (by intro _; rfl)) (pss_one (ps_ret (pe_and (pe_f GI hr (by decide) pass0 (pa_cons (pv 0) pa_nil)) (pe_one (pe_cmpR op_eq (pv 0) (pv 1) (nomark _)))))) pss_nil) pss_never))), ?_⟩
  refine ⟨_, rfl, rfl, _, rfl, iffF rfl ⟨_, rfl, _, _, _, _, false, rfl, .ty _, .base (.int _), kit_ty (by decide +kernel), _, rfl, iffF rfl ⟨_, rfl, _, _, _, _, true, rfl, .ty _, .base (.int _), kit_ty (by decide +kernel), _, rfl, iftt rfl ?_⟩⟩⟩
  refine ⟨_, rfl, i, rfl, true, rfl, iftt rfl ⟨_, rfl, _, rfl, rfl, ?_⟩⟩
  rw [dec_int, beq_self_eq_true]
  exact q
theorem ok_g_items (T : Sm P w K mg base) (GS : Cl P w K mg base CX0 2 "_law_same" ["_law_actual", "_law_expected"] (fun vs H Q _ => ∃ i, vs = [.int i, .int i] ∧ Q (.bl true) H)) {f : Addr} {fd : FuncData} (F : FnP K "_law_same_items" s_g_same_items f fd) :
    FnOk P w K mg base CX0 3 f fd ["_law_actual", "_law_expected"] (fun vs H Q _ => ∃ p1 p2 i j, vs = [.ref p1, .ref p2] ∧ H p1 = some (.tup [.int i, .int j]) ∧ H p2 = some (.tup [.int i, .int j]) ∧ Q (.bl true) H) := by
  refine F.ok c_g_same_items (fun vs H Q E h => ?_) (fun cdv A outer s H vs Q E hr h => ?_)
  · obtain ⟨t, _, _, _, rfl, _⟩ := h
    rfl
  obtain ⟨p1, p2, i, j, rfl, h1, h2, q⟩ := h
  have nd := c_g_same_items.nd
  refine ⟨_, PSs.nox (pss_cons (ps_if (pt_cmpR op_ne (pe_callB call_len_seq (by rfl) T.len boot_len (pa_cons (pv 0) pa_nil)) (pe_callB call_len_seq (by rfl) T.len boot_len (pa_cons (pv 1) pa_nil)) (nomark _)) pss_never pss_nil)
    (pss_cons (ps_for PassesOwn.never rfl (pi_range1 (by rfl) T.range (pa_cons (pe_callB call_len_seq (by rfl) T.len boot_len (pa_cons (pv 1) pa_nil)) pa_nil)) (pg_name (i := 2) nd rfl (Or.inl rfl))
      (pss_one (ps_if (pt_not (pt_truth (pe_f GS hr (by decide) pass0 (pa_cons (pe_ix ix_tup (pv 0) (pv 2) (fun _ _ => rfl)) (pa_cons (pe_ix ix_tup (pv 1) (pv 2) (fun _ _ => rfl)) pa_nil))) (by intro _; rfl))) pss_never pss_nil)))
    (pss_one (ps_ret pe_bl)))), ?_⟩
  refine ⟨_, rfl, _, _, rfl, .inr (SqT.of h1), _, rfl, _, _, rfl, .inr (SqT.of h2), rfl, _, rfl, iffF rfl ?_⟩
  refine ⟨_, rfl, _, _, rfl, .inr (SqT.of h2), 2, rfl, by decide, by decide, ?_⟩
  refine for_range (fun n σ H1 => ∃ v, σ = [some (.ref p1), some (.ref p2), v] ∧ H1 = H) ⟨none, rfl, rfl⟩ ?_ ?_
  · rintro k σ H1 hk ⟨v, rfl, rfl⟩
    have hk2 : k = 0 ∨ k = 1 := by
      have : k < 2 := hk
      omega
    rcases hk2 with rfl | rfl
    · exact ⟨_, rfl, _, rfl, p1, _, _, .int i, rfl, rfl, SqT.of h1, rfl, _, rfl, _, rfl, p2, _, _, .int i, rfl, rfl, SqT.of h2, rfl, i, rfl, _, rfl, _, rfl, rfl⟩
    · exact ⟨_, rfl, _, rfl, p1, _, _, .int j, rfl, rfl, SqT.of h1, rfl, _, rfl, _, rfl, p2, _, _, .int j, rfl, rfl, SqT.of h2, rfl, j, rfl, _, rfl, _, rfl, rfl⟩
  · rintro σ H1 ⟨v, rfl, rfl⟩
    exact q
def spSame : Sp := fun vs H Q _ => ∃ p1 p2 i j, vs = [.ref p1, .ref p2] ∧ H p1 = some (.tup [.int i, .int j]) ∧ H p2 = some (.tup [.int i, .int j]) ∧ Q (.bl true) H
theorem ok_g_same (T : Sm P w K mg base) (GI : Cl P w K mg base CX0 3 "_law_same_items" ["_law_actual", "_law_expected"] spSame) {f : Addr} {fd : FuncData} (F : FnP K "_law_same" s_g_same f fd) : FnOk P w K mg base CX0 4 f fd ["_law_actual", "_law_expected"] spSame := by
  refine F.ok c_g_same (fun vs H Q E h => ?_) (fun cdv A outer s H vs Q E hr h => ?_)
  · obtain ⟨t, _, _, _, rfl, _⟩ := h
    rfl
  obtain ⟨p1, p2, i, j, rfl, h1, h2, q⟩ := h
  refine ⟨_, PSs.nox (pss_cons (ps_if (pt_cmpR op_isN (pv 1) pe_non (nomark _)) pss_never pss_nil)
    (pss_cons (ps_if (pt_truth (pe_callB call_isi (by rfl) T.isi boot_isinstance (pa_cons (pv 1) (pa_cons (pe_bltn (v := .ty "bool") (by rfl) T.bool (by decide +kernel) rfl) pa_nil))) (by intro _; rfl)) pss_never pss_nil)
    (pss_cons (ps_if (pt_truth (pe_callB call_isi (by rfl) T.isi boot_isinstance (pa_cons (pv 1) (pa_cons (pe_bltn (v := .ty "int") (by rfl) T.int (by decide +kernel) rfl) pa_nil))) (by intro _; rfl)) pss_never pss_nil)
    (pss_cons (ps_if (pt_truth (pe_callB call_isi (by rfl) T.isi boot_isinstance (pa_cons (pv 1) (pa_cons (pe_bltn (v := .ty "str") (by rfl) T.str (by decide +kernel) rfl) pa_nil))) (by intro _; rfl)) pss_never pss_nil)
    (pss_cons (ps_if (pt_truth (pe_callB call_isi (by rfl) T.isi boot_isinstance (pa_cons (pv 1) (pa_cons (pe_bltn (v := .ty "tuple") (by rfl) T.tuple (by decide +kernel) rfl) pa_nil))) (by intro _; rfl))
      (pss_one (ps_ret (pe_and (pe_callB call_isi (by rfl) T.isi boot_isinstance (pa_cons (pv 0) (pa_cons (pe_bltn (v := .ty "tuple") (by rfl) T.tuple (by decide +kernel) rfl) pa_nil))) (pe_one (pe_f GI hr (by decide) pass0 (pa_cons (pv 0) (pa_cons (pv 1) pa_nil))))))) pss_nil) pss_never))))), ?_⟩
  refine ⟨_, rfl, rfl, _, rfl, iffF rfl ⟨_, rfl, _, _, _, _, false, rfl, .ty _, .base (.tup h2), kit_ty (by decide +kernel), _, rfl, iffF rfl ⟨_, rfl, _, _, _, _, false, rfl, .ty _, .base (.tup h2), kit_ty (by decide +kernel), _, rfl, iffF rfl
    ⟨_, rfl, _, _, _, _, false, rfl, .ty _, .base (.tup h2), kit_ty (by decide +kernel), _, rfl, iffF rfl ⟨_, rfl, _, _, _, _, true, rfl, .ty _, .base (.tup h2), kit_ty (by decide +kernel), _, rfl, iftt rfl ?_⟩⟩⟩⟩⟩
  exact ⟨_, rfl, _, _, _, _, true, rfl, .ty _, .base (.tup h1), kit_ty (by decide +kernel), true, rfl, iftt rfl ⟨_, rfl, _, rfl, p1, p2, i, j, rfl, h1, h2, q⟩⟩
end
end K10
/-! The law's generator: what it writes stays short, and of few tokens. -/
namespace K10
open PySem PySem.Spec PyProof.Rows L2
def ouL (z : Str) : List (Key × V) := [(.inr "text", .str z)]
/-- the first sign is a token's -/
def hdOk : List Nat → Bool
  | [] => true
  | c :: _ => !(decide (c = 32) || decide (c = 10) || decide (c = 35))
def GenAt (H : Hp) (t : Tp) (o : Addr) (b : Nat) : Prop := TapeAt H t ∧ ∃ l, H o = some (.dK (ouL (tx l))) ∧ l.length ≤ 40 * b ∧ bnd 32 l ≤ 4 * b ∧ hdOk l = true
def TxNe (o : Addr) (H : Hp) : Prop := ∃ l, H o = some (.dK (ouL (tx l))) ∧ l ≠ []
theorem TxNe.same {H H' : Hp} {o : Addr} (h : TxNe o H) (s : Same H H') : TxNe o H' := let ⟨l, h1, h2⟩ := h; ⟨l, s _ _ h1, h2⟩
/-- all but the tape and the text stay -/
def Kp (t : Tp) (o : Addr) (H H' : Hp) : Prop := ∀ b x, b ≠ t.1 → b ≠ o → H b = some x → H' b = some x
structure Gn (t : Tp) (o : Addr) (H H' : Hp) (b : Nat) : Prop where
  kp : Kp t o H H'
  at_ : GenAt H' t o b
  ne : TxNe o H → TxNe o H'
theorem ne_to {H : Hp} {t : Tp} {o : Addr} {z : Str} (h : TapeAt H t) (ho : H o = some (.dK (ouL z))) : o ≠ t.1 := fun e => by
  obtain ⟨ns, a, l, s, u, h1, _⟩ := h
  rw [e, h1] at ho
  injection ho with ho
  injection ho with ho
  exact absurd (congrArg List.length ho) (by show ¬ (5 : Nat) = 1; decide)
theorem GenAt.same {H H' : Hp} {t : Tp} {o : Addr} {b : Nat} (h : GenAt H t o b) (s : Same H H') : GenAt H' t o b := by
  obtain ⟨h1, l, h2, h3⟩ := h
  exact ⟨h1.same s, l, s _ _ h2, h3⟩
theorem GenAt.mono {H : Hp} {t : Tp} {o : Addr} {b b' : Nat} (h : GenAt H t o b) (hb : b ≤ b') : GenAt H t o b' := by
  obtain ⟨h1, l, h2, h3, h4, h5⟩ := h
  exact ⟨h1, l, h2, by omega, by omega, h5⟩
theorem Kp.refl (t : Tp) (o : Addr) (H : Hp) : Kp t o H H := fun _ _ _ _ e => e
theorem Kp.trans {t : Tp} {o : Addr} {H H1 H2 : Hp} (a : Kp t o H H1) (b : Kp t o H1 H2) : Kp t o H H2 := fun x y n m e => b x y n m (a x y n m e)
theorem Kp.of {t : Tp} {o : Addr} {H H1 : Hp} (s : Same H H1) : Kp t o H H1 := fun x y _ _ e => s x y e
theorem Gn.refl {t : Tp} {o : Addr} {H : Hp} {b : Nat} (h : GenAt H t o b) : Gn t o H H b := ⟨Kp.refl _ _ _, h, id⟩
theorem Gn.trans {t : Tp} {o : Addr} {H H1 H2 : Hp} {b b' : Nat} (x : Gn t o H H1 b) (y : Gn t o H1 H2 b') : Gn t o H H2 b' := ⟨x.kp.trans y.kp, y.at_, fun z => y.ne (x.ne z)⟩
theorem Gn.mono {t : Tp} {o : Addr} {H H1 : Hp} {b b' : Nat} (x : Gn t o H H1 b) (h : b ≤ b') : Gn t o H H1 b' := ⟨x.kp, x.at_.mono h, x.ne⟩
theorem Gn.new {t : Tp} {o : Addr} {H H1 : Hp} {b : Nat} (x : Gn t o H H1 b) {p : Addr} (hp : H1 p = none) (y : HO) : Gn t o H (upd H1 p y) b := ⟨x.kp.trans (Kp.of (same_new (Same.refl _) hp _)), x.at_.same (same_new (Same.refl _) hp _), fun z => (x.ne z).same (same_new (Same.refl _) hp _)⟩
theorem Gn.same {t : Tp} {o : Addr} {H H1 H2 : Hp} {b : Nat} (x : Gn t o H H1 b) (s : Same H1 H2) : Gn t o H H2 b := ⟨x.kp.trans (Kp.of s), x.at_.same s, fun z => (x.ne z).same s⟩
theorem Gn.take {t : Tp} {o : Addr} {H H1 H2 : Hp} {b : Nat} (x : Gn t o H H1 b) (s : But t.1 H1 H2) (h : TapeAt H2 t) : Gn t o H H2 b := by
  obtain ⟨k, ⟨h1, l, h2, h3⟩, h4⟩ := x
  exact ⟨k.trans fun p y n _ e => s p y n e, ⟨h, l, s o _ (ne_to h1 h2) h2, h3⟩, fun z => let ⟨l', e1, e2⟩ := h4 z; ⟨l', s o _ (ne_to h1 h2) e1, e2⟩⟩
/-- a list or a tuple is neither of them -/
theorem GenAt.off {H : Hp} {t : Tp} {o p : Addr} {b : Nat} {y : HO} (h : GenAt H t o b) (hp : H p = some y) (hy : ∀ z, y ≠ .dK z) : p ≠ t.1 ∧ p ≠ o := by
  obtain ⟨⟨ns, a, l, s, u, h1, _⟩, l2, h2, _⟩ := h
  refine ⟨fun e => ?_, fun e => ?_⟩
  · rw [e, h1] at hp
    injection hp with hp
    exact hy _ hp.symm
  · rw [e, h2] at hp
    injection hp with hp
    exact hy _ hp.symm
theorem GenAt.stay {H H' : Hp} {t : Tp} {o p : Addr} {b : Nat} {y : HO} (h : GenAt H t o b) (k : Kp t o H H') (hp : H p = some y) (hy : ∀ z, y ≠ .dK z := by intro z e; cases e) : H' p = some y :=
  let ⟨h1, h2⟩ := h.off hp hy
  k p y h1 h2 hp
/-- a list that the def made itself is written -/
theorem Gn.mut {t : Tp} {o : Addr} {H H1 : Hp} {b : Nat} (x : Gn t o H H1 b) (h0 : TapeAt H t) {p : Addr} (hp : H p = none) {y : HO} (hy : H1 p = some y) (hz : ∀ z, y ≠ .dK z) (y2 : HO) : Gn t o H (upd H1 p y2) b := by
  obtain ⟨k, h, h7⟩ := x
  have h12 := h.off hy hz
  obtain ⟨⟨ns, a, l0, s, u, h4, h5⟩, l, h2, h3⟩ := h
  obtain ⟨_, _, _, _, _, _, h6⟩ := h0
  exact ⟨fun q u n m e => by rw [upd_ne (ne_of_none e hp)]; exact k q u n m e, ⟨⟨ns, a, l0, s, u, by rw [upd_ne h12.1.symm]; exact h4, by rw [upd_ne (ne_of_none h6 hp)]; exact h5⟩, l, by rw [upd_ne h12.2.symm]; exact h2, h3⟩, fun z => let ⟨l', e1, e2⟩ := h7 z; ⟨l', by rw [upd_ne h12.2.symm]; exact e1, e2⟩⟩
theorem Gn.fresh {t : Tp} {o : Addr} {H H1 : Hp} {b : Nat} (x : Gn t o H H1 b) {p : Addr} (hp : H1 p = none) : H p = none := by
  obtain ⟨k, ⟨⟨ns, a, l0, s, u, h4, h5⟩, l, h2, h3⟩, _⟩ := x
  cases e : H p with
  | none => rfl
  | some z =>
    by_cases e1 : p = t.1
    · rw [e1, h4] at hp
      cases hp
    by_cases e2 : p = o
    · rw [e2, h2] at hp
      cases hp
    rw [k p z e1 e2 e] at hp
    cases hp
/-- a word that is written -/
def Wd (z : Str) : Prop := z.cps.toList ≠ [] ∧ z.length ≤ 20 ∧ bnd 32 z.cps.toList ≤ 2 ∧ hdOk z.cps.toList = true
instance (z : Str) : Decidable (Wd z) := inferInstanceAs (Decidable (_ ∧ _ ∧ _ ∧ _))
section
variable {P : Program} {w : World} {K : PySem.W.Frag} {mg : Str → Option Value} {base : Heap}
theorem get_text {H : Hp} {o : Addr} {z : Str} (h : H o = some (.dK (ouL z))) : DGet H o (.str "text") (some (.str z)) := DGet.k (k := .inr "text") h
theorem put_text {H : Hp} {o : Addr} {z z' : Str} (h : H o = some (.dK (ouL z))) : DPut H o (.str "text") (.str z') (upd H o (.dK (ouL z'))) := DPut.k (k := .inr "text") (v := .str z') h (size6 (by show 1 ≤ 15; decide))
theorem tx_app (a b : List Nat) : tx a ++ tx b = tx (a ++ b) := by
  show (⟨a.toArray ++ b.toArray⟩ : Str) = ⟨(a ++ b).toArray⟩
  simp
/-- // of numbers without a sign -/
theorem op_fdivT {X : Cx} : OpR X (binaryOp .FloorDiv) (fun x y H Q => ∃ n m : Nat, x = .int (n : Int) ∧ y = .int (m : Int) ∧ (0 < m ∧ m < 1000000) ∧ Q (.int ((n / m : Nat) : Int)) H) := by
  intro pins s σ H x y v u Q I rx ry ⟨n, m, ex, ey, hm, h⟩
  exact op_fdiv pins s σ H x y v u Q I rx ry ⟨n, m, ex, ey, ⟨by omega, by omega⟩, by show Q (.int ((n : Int) / (m : Int))) H; rw [← Int.natCast_ediv]; exact h⟩
def spPut : Sp := fun vs H Q _ => ∃ (o : Addr) (z l : List Nat), vs = [.ref o, .str (tx z)] ∧ H o = some (.dK (ouL (tx l))) ∧ l.length + z.length ≤ 100000 ∧ Q .non (upd H o (.dK (ouL (tx (l ++ z)))))
theorem ok_g_put {f : Addr} {fd : FuncData} (F : FnP K "_law_put" s_g_put f fd) : FnOk P w K mg base CX0 1 f fd ["_law_out", "_law_string"] spPut := by
  refine F.ok c_g_put (fun vs H Q E h => ?_) (fun cdv A outer s H vs Q E hr h => ?_)
  · obtain ⟨_, _, _, rfl, _⟩ := h
    rfl
  obtain ⟨o, z, l, rfl, ho, hl, q⟩ := h
  have nd := c_g_put.nd
  have hu := hu_of hr
  refine ⟨_, PSs.nox (pss_one (ps_dput hu (pv 0) pe_str (pe_op op_add_str (pe_dget hu (pv 0) pe_str (fun _ _ => rfl)) (pv 1)) rfl)), ?_⟩
  refine ⟨_, rfl, o, _, rfl, get_text ho, _, rfl, _, _, rfl, rfl, line_of hl, _, rfl, o, _, rfl, put_text ho, ?_⟩
  rw [tx_app]
  exact q
def spGap : Sp := fun vs H Q _ => ∃ (t : Tp) (o : Addr) (c : Bool) (l : List Nat), vs = [.ref t.1, .ref o, .bl c] ∧ TapeAt H t ∧ H o = some (.dK (ouL (tx l))) ∧ l.length ≤ 90000 ∧ ∀ g H', g.length ≤ 15 → bnd 32 g ≤ 2 → Kp t o H H' → TapeAt H' t → H' o = some (.dK (ouL (tx (l ++ g)))) → Q .non H'
def gapS : List Str := [S " ", S "", S "  ", S "\n ", S " # note)\n  "]
theorem gap_ok : ∀ z ∈ gapS, z.cps.toList.length ≤ 15 ∧ bnd 32 z.cps.toList ≤ 2 := by decide +kernel
theorem str_at {zs : List Str} {k : Nat} (h : k < zs.length) : ∃ z ∈ zs, atI (zs.map V.str) (k : Int) = some (.str z) :=
  ⟨zs[k], List.getElem_mem h, atI_nat (by rw [List.getElem?_map, List.getElem?_eq_getElem h]; rfl)⟩
theorem ok_g_gap (GT : Cl P w K mg base CX0 1 "_law_take" ["_law_tape_here", "_law_many"] spTake) (GP : Cl P w K mg base CX0 1 "_law_put" ["_law_out", "_law_string"] spPut) {f : Addr} {fd : FuncData} (F : FnP K "_law_gap" s_g_gap f fd) :
    FnOk P w K mg base CX0 2 f fd ["_law_tape_here", "_law_out", "_law_needed"] spGap := by
  refine F.ok c_g_gap (fun vs H Q E h => ?_) (fun cdv A outer s H vs Q E hr h => ?_)
  · obtain ⟨_, _, _, _, rfl, _⟩ := h
    rfl
  obtain ⟨t, o, c, l, rfl, ht, ho, hl, q⟩ := h
  have nd := c_g_gap.nd
  refine ⟨_, PSs.nox (pss_cons (ps_set (i := 3) nd rfl (Or.inl rfl) (pe_lst (pa_cons pe_str (pa_cons pe_str (pa_cons pe_str (pa_cons pe_str (pa_cons pe_str pa_nil)))))))
    (pss_cons (ps_set (i := 4) nd rfl (Or.inl rfl) (pe_ix ix_list (pv 3) (pe_op op_fdivT (pe_f GT hr (by decide) pass0 (pa_cons (pv 0) (pa_cons pe_int pa_nil))) pe_int) (fun _ _ => rfl)))
    (pss_cons (ps_if (PW.pt (pw_and (pt_truth (pv 2) (by intro _; rfl)) (pw_and1 (pt_cmpR op_eq (pv 4) pe_str (nomark _))))) (pss_one (ps_set (i := 4) nd rfl (Or.inl rfl) pe_str)) pss_nil)
    (pss_one (ps_expr (pe_f GP hr (by decide) pass0 (pa_cons (pv 1) (pa_cons (pv 4) pa_nil)))))))), ?_⟩
  refine ⟨size6 (by show 5 ≤ 15; decide) |> Nat.le_of_lt, fun p hp => ?_⟩
  have s0 := same_new (Same.refl H) hp (.lst (gapS.map V.str))
  have hpt : p ≠ t.1 := fun e => by
    obtain ⟨_, _, _, _, _, h1, _⟩ := ht
    rw [e, h1] at hp
    cases hp
  refine ⟨_, rfl, _, rfl, t, 20, rfl, by decide, by decide, ht.same s0, fun k H1 hk hb1 ht1 => ⟨k, 4, rfl, rfl, ⟨by decide, by decide⟩, ?_⟩⟩
  obtain ⟨z, hz, ez⟩ := str_at (zs := gapS) (k := k / 4) (by show k / 4 < 5; omega)
  refine ⟨p, _, _, _, rfl, rfl, SqL.of (hb1 p _ hpt upd_same), ez, ?_⟩
  have ho1 := hb1 o _ (ne_to ht ho) (s0 o _ ho)
  have kp1 : Kp t o H H1 := fun b x n _ e => hb1 b x n (s0 b x e)
  -- what is put is short
  have fin : ∀ g : List Nat, g.length ≤ 15 → bnd 32 g ≤ 2 → (spPut : Sp) [.ref o, .str (tx g)] H1 (fun _ H' => Q .non H') E := fun g hg hg2 => by
    refine ⟨o, g, l, rfl, ho1, by omega, ?_⟩
    refine q g _ hg hg2 (fun b x n m e => by rw [upd_ne m]; exact kp1 b x n m e) ?_ upd_same
    obtain ⟨ns, a, l0, s1, u, h1, h2⟩ := ht1
    refine ⟨ns, a, l0, s1, u, by rw [upd_ne (ne_to ht ho).symm]; exact h1, ?_⟩
    rw [upd_ne (fun e => by rw [e, ho1] at h2; cases h2)]
    exact h2
  obtain ⟨z1, z2⟩ := gap_ok z hz
  have fz := fin z.cps.toList z1 z2
  rw [tx_of] at fz
  cases c with
  | false => exact ⟨_, rfl, _, rfl, iffF rfl ⟨_, rfl, _, rfl, fz⟩⟩
  | true =>
    refine ⟨_, rfl, _, rfl, iftt rfl ⟨_, rfl, rfl, _, rfl, ?_⟩⟩
    by_cases e : z = S ""
    · exact iftt (by rw [L2.dec_str, beq_iff_eq]; exact e) ⟨_, rfl, _, rfl, fin [32] (by decide) (by decide)⟩
    · exact iffF (by rw [L2.dec_str, beq_eq_false_iff_ne]; exact e) ⟨_, rfl, _, rfl, fz⟩
end
end K10
/-! token_out, some_name, mark, leaf. -/
namespace K10
open PySem PySem.Spec PyProof.Rows L2
/-- what the generator's defs keep: at most n tokens more -/
def spGen (n : Nat) (ar : List V → Hp → Prop) (R : V → Hp → Prop) : Sp := fun vs H Q _ => ∃ (t : Tp) (o : Addr) (b : Nat) (rest : List V), vs = .ref t.1 :: .ref o :: rest ∧ ar rest H ∧ b + n ≤ 1000 ∧ GenAt H t o b ∧ ∀ v H', Gn t o H H' (b + n) → R v H' → Q v H'
/-- token_out's own: behind it there is text -/
def spTokNe : Sp := fun vs H Q _ => ∃ (t : Tp) (o : Addr) (b : Nat) (z : Str), vs = [.ref t.1, .ref o, .str z] ∧ Wd z ∧ b + 1 ≤ 1000 ∧ GenAt H t o b ∧ ∀ v H', Gn t o H H' (b + 1) → (∃ i, v = .int i) → TxNe o H' → Q v H'
def aNo : List V → Hp → Prop := fun r _ => r = []
def aWd : List V → Hp → Prop := fun r _ => ∃ z, r = [.str z] ∧ Wd z
def rInt : V → Hp → Prop := fun v _ => ∃ i, v = .int i
def rAny : V → Hp → Prop := fun _ _ => True
theorem cut_last (l : List Nat) : cutS (tx l) (some (-1)) none = tx (l.drop (l.length - 1)) := by
  show (⟨((l.drop (HT.sIx l.length 0 (some (-1)))).take (l.length - HT.sIx l.length 0 (some (-1)))).toArray⟩ : Str) = tx (l.drop (l.length - 1))
  have e : HT.sIx l.length 0 (some (-1)) = l.length - 1 := by
    show (if (-1 : Int) < 0 then (-1 + (l.length : Int)).toNat else min (-1 : Int).toNat l.length) = l.length - 1
    rw [if_pos (by decide)]
    omega
  rw [e, List.take_of_length_le (by rw [List.length_drop]; omega)]
  rfl
theorem drop_last (l : List Nat) : (l = [] ∧ l.drop (l.length - 1) = []) ∨ ∃ c, l ≠ [] ∧ l.drop (l.length - 1) = [c] := by
  cases l with
  | nil => exact .inl ⟨rfl, rfl⟩
  | cons x r =>
    refine .inr ?_
    have h : ((x :: r).drop ((x :: r).length - 1)).length = 1 := by rw [List.length_drop, List.length_cons]; omega
    obtain ⟨c, hc⟩ := List.length_eq_one_iff.mp h
    exact ⟨c, by simp, hc⟩
section
variable {P : Program} {w : World} {K : PySem.W.Frag} {mg : Str → Option Value} {base : Heap}
theorem wd_first {z : Str} (h : Wd z) : ∃ c r, z = tx (c :: r) ∧ atI z.cps.toList (0 : Int) = some c := by
  cases e : z.cps.toList with
  | nil => exact absurd e h.1
  | cons c r => exact ⟨c, r, by rw [← e, tx_of], by exact atI_nat (j := 0) rfl⟩
/-- the gap, where there is text -/
def tGp : TS := fun D σ H => ∃ (t : Tp) (o : Addr) (l : List Nat) (c : Nat) (r : List Nat) (e : Str) (j k : Bool) (x : Option V), σ = [some (.ref t.1), some (.ref o), some (.str (tx (c :: r))), some (.str e), some (.bl j), some (.bl k), x] ∧ TapeAt H t ∧ H o = some (.dK (ouL (tx l))) ∧ r.length ≤ 100 ∧ l.length ≤ 90000 ∧
  ∀ g H', g.length ≤ 15 → bnd 32 g ≤ 2 → (l = [] → g = []) → Kp t o H H' → TapeAt H' t → H' o = some (.dK (ouL (tx (l ++ g)))) → D.nx σ H'
theorem gp_w {X : Cx} {st : Stmt} {t : TS} (h : PS X st t) (f : ∀ D σ H, tGp D σ H → t D σ H) : PS X st tGp := ps_w h f
theorem ok_g_token_out (len : mg "len" = none) (GG : Cl P w K mg base CX0 2 "_law_gap" ["_law_tape_here", "_law_out", "_law_needed"] spGap) (GP : Cl P w K mg base CX0 1 "_law_put" ["_law_out", "_law_string"] spPut) {f : Addr} {fd : FuncData} (F : FnP K "_law_token_out" s_g_token_out f fd) :
    FnOk P w K mg base CX0 3 f fd ["_law_tape_here", "_law_out", "_law_string"] spTokNe := by
  refine F.ok c_g_token_out (fun vs H Q E h => ?_) (fun cdv A outer s H vs Q E hr h => ?_)
  · obtain ⟨_, _, _, _, rfl, _⟩ := h
    rfl
  obtain ⟨t, o, b, z, rfl, hz, hb, ⟨ht, l, ho, hl, hl2, hhd⟩, q⟩ := h
  have nd := c_g_token_out.nd
  have hu := hu_of hr
  refine ⟨_, PSs.nox (pss_cons (ps_set (i := 3) nd rfl (Or.inl rfl) (pe_slice sl_str (pe_dget hu (pv 1) pe_str (fun _ _ => rfl)) (po_some (pe_un un_neg pe_int)) po_none))
    (pss_cons (ps_set (i := 4) nd rfl (Or.inl rfl) (pe_and (pe_cmpR op_ne (pv 3) pe_str (nomark _)) (pe_one (pe_cmpR op_in_sign (pv 3) pe_str rfl))))
    (pss_cons (ps_set (i := 5) nd rfl (Or.inl rfl) (pe_cmpR op_in_sign (pe_ix ix_str (pv 2) pe_int (fun _ _ => rfl)) pe_str rfl))
    (pss_cons (gp_w (ps_if (pt_cmpR op_ne (pe_dget hu (pv 1) pe_str (fun _ _ => rfl)) pe_str (nomark _))
      (pss_one (ps_expr (pe_f GG hr (by decide) pass0 (pa_cons (pv 0) (pa_cons (pv 1) (pa_cons (pe_or (pe_and (pv 4) (pe_one (pv 5))) (pe_one (pe_and (pe_cmpR op_eq (pv 3) pe_str (nomark _)) (pe_one (pe_cmpR op_eq (pe_ix ix_str (pv 2) pe_int (fun _ _ => rfl)) pe_str (nomark _)))))) pa_nil)))))) pss_nil) ?_)
    (pss_cons (ps_set (i := 6) nd rfl (Or.inl rfl) (pe_callB call_len_str (by rfl) len boot_len (pa_cons (pe_dget hu (pv 1) pe_str (fun _ _ => rfl)) pa_nil)))
    (pss_cons (ps_expr (pe_f GP hr (by decide) pass0 (pa_cons (pv 1) (pa_cons (pv 2) pa_nil)))) (pss_one (ps_ret (pv 6))))))))), ?_⟩
  · rintro D σ H ⟨t, o, l, c, r, e, j, k, x, rfl, ht, ho, hr2, hl, q⟩
    refine ⟨_, rfl, o, _, rfl, get_text ho, rfl, _, rfl, ?_⟩
    by_cases e0 : l = []
    · refine iffF (by rw [e0]; decide +kernel) (q [] H (by decide) (by decide) (fun _ => rfl) (Kp.refl _ _ _) ht (by rw [List.append_nil]; exact ho))
    · refine iftt (by rw [L2.dec_str, Bool.not_eq_true', beq_eq_false_iff_ne]; exact fun z => e0 (tx_inj z)) ⟨_, rfl, _, rfl, _, rfl, j, rfl, ?_⟩
      have go : ∀ d : Bool, spGap [.ref t.1, .ref o, .bl d] H (fun v H' => D.nx [some (.ref t.1), some (.ref o), some (.str (tx (c :: r))), some (.str e), some (.bl j), some (.bl k), x] H') (fun _ _ _ => False) := fun d => ⟨t, o, d, l, rfl, ht, ho, hl, fun g H' a1 a2 a3 a4 a5 => q g H' a1 a2 (fun z => absurd z e0) a3 a4 a5⟩
      have sec : ∀ {A B : Prop} (d : Bool), (d = true → A) → (d = false → B) → if d = true then A else B := fun d a b => by
        cases d
        · exact iffF rfl (b rfl)
        · exact iftt rfl (a rfl)
      cases j with
      | true =>
        refine iftt rfl ⟨_, rfl, k, rfl, sec k (fun _ => go true) fun _ => ⟨_, rfl, rfl, _, rfl, sec _ (fun _ => ⟨_, rfl, _, 0, c, rfl, rfl, line_of (by show r.length + 1 ≤ 100000; omega), atI_nat (j := 0) rfl, rfl, go _⟩) fun _ => go false⟩⟩
      | false =>
        refine iffF rfl ⟨false, rfl, iffF rfl ⟨_, rfl, rfl, _, rfl, sec _ (fun _ => ⟨_, rfl, _, 0, c, rfl, rfl, line_of (by show r.length + 1 ≤ 100000; omega), atI_nat (j := 0) rfl, rfl, go _⟩) fun _ => go false⟩⟩
  obtain ⟨c, r, ez, ec⟩ := wd_first hz
  have hr2 : r.length + 1 ≤ 20 := by
    have := hz.2.1
    rw [ez] at this
    exact this
  have hz2 : bnd 32 (c :: r) ≤ 2 := by
    have := hz.2.2.1
    rw [ez] at this
    exact this
  have hz3 : hdOk (c :: r) = true := by
    have := hz.2.2.2
    rw [ez] at this
    exact this
  subst ez
  -- behind the first three rows
  have tail : ∀ (e : Str) (j k : Bool) (D : Ends), (∀ g H', g.length ≤ 15 → bnd 32 g ≤ 2 → (l = [] → g = []) → Kp t o H H' → TapeAt H' t → H' o = some (.dK (ouL (tx (l ++ g)))) → D.nx [some (.ref t.1), some (.ref o), some (.str (tx (c :: r))), some (.str e), some (.bl j), some (.bl k), none] H') →
      tGp D [some (.ref t.1), some (.ref o), some (.str (tx (c :: r))), some (.str e), some (.bl j), some (.bl k), none] H := fun e j k D z => ⟨t, o, l, c, r, e, j, k, none, rfl, ht, ho, by omega, by omega, z⟩
  have last : ∀ (g : List Nat) (H' : Hp), g.length ≤ 15 → bnd 32 g ≤ 2 → (l = [] → g = []) → Kp t o H H' → TapeAt H' t → H' o = some (.dK (ouL (tx (l ++ g)))) → Gn t o H (upd H' o (.dK (ouL (tx ((l ++ g) ++ (c :: r)))))) (b + 1) := fun g H' h1 h2 h0 h3 h4 h5 => by
    have not := ne_to h4 h5
    obtain ⟨ns, a, l0, s1, u, y1, y2⟩ := h4
    have hco : t.2 ≠ o := fun e => by rw [e, h5] at y2; cases y2
    refine ⟨fun b0 x n m e => by rw [upd_ne m]; exact h3 b0 x n m e, ⟨⟨ns, a, l0, s1, u, by rw [upd_ne not.symm]; exact y1, by rw [upd_ne hco]; exact y2⟩, _, upd_same, ?_, ?_, ?_⟩, fun _ => ⟨_, upd_same, by simp⟩⟩
    · rw [List.length_append, List.length_append]
      show l.length + g.length + (r.length + 1) ≤ 40 * (b + 1)
      omega
    · have k1 := bnd_glue (l ++ g) (c :: r)
      have k2 := bnd_glue l g
      omega
    · cases l with
      | nil =>
        rw [h0 rfl]
        exact hz3
      | cons x y => exact hhd
  refine ⟨_, rfl, o, _, rfl, get_text ho, 1, rfl, -1, rfl, _, rfl, line_of (by show l.length ≤ 100000; omega), ?_⟩
  rw [cut_last]
  rcases drop_last l with ⟨e1, e2⟩ | ⟨d, e1, e2⟩
  · rw [e2]
    exact ⟨_, rfl, rfl, _, rfl, iffF (by decide +kernel) ⟨_, rfl, ⟨_, 0, c, rfl, rfl, line_of (by show r.length + 1 ≤ 100000; omega), ec, c, _, rfl, rfl, tail _ _ _ _ fun g H' h1 h2 h0 h3 h4 h5 => ⟨_, rfl, o, _, rfl, get_text h5, _, rfl, line_of (by show (l ++ g).length ≤ 100000; rw [List.length_append]; omega), _, rfl, _, rfl, o, c :: r, l ++ g, rfl, h5, by rw [List.length_append]; show l.length + g.length + (r.length + 1) ≤ 100000; omega, _, rfl, q _ _ (last g H' h1 h2 h0 h3 h4 h5) ⟨_, rfl⟩ ⟨_, upd_same, by simp⟩⟩⟩⟩⟩
  · rw [e2]
    refine ⟨_, rfl, rfl, _, rfl, iftt (by rw [L2.dec_str, Bool.not_eq_true', beq_eq_false_iff_ne]; exact fun z => absurd (tx_inj (a := [d]) (b := []) z) (by simp)) ⟨_, rfl, d, _, rfl, rfl, ⟨_, rfl, ⟨_, 0, c, rfl, rfl, line_of (by show r.length + 1 ≤ 100000; omega), ec, c, _, rfl, rfl, tail _ _ _ _ fun g H' h1 h2 h0 h3 h4 h5 => ⟨_, rfl, o, _, rfl, get_text h5, _, rfl, line_of (by show (l ++ g).length ≤ 100000; rw [List.length_append]; omega), _, rfl, _, rfl, o, c :: r, l ++ g, rfl, h5, by rw [List.length_append]; show l.length + g.length + (r.length + 1) ≤ 100000; omega, _, rfl, q _ _ (last g H' h1 h2 h0 h3 h4 h5) ⟨_, rfl⟩ ⟨_, upd_same, by simp⟩⟩⟩⟩⟩⟩
theorem tok_gen {k : Nat} {f : Addr} {fd : FuncData} {ps : List Str} (F : FnOk P w K mg base CX0 k f fd ps spTokNe) : FnOk P w K mg base CX0 k f fd ps (spGen 1 aWd rInt) := by
  have weak : ∀ vs H Q E, spGen 1 aWd rInt vs H Q E → spTokNe vs H Q E := by
    rintro vs H Q E ⟨t, o, b, _, rfl, ⟨z, rfl, hz⟩, hb, hg, q⟩
    exact ⟨t, o, b, z, rfl, hz, hb, hg, fun v H' g hv _ => q v H' g hv⟩
  exact F.imp weak
end
end K10
/-! some_name, mark, leaf. -/
namespace K10
open PySem PySem.Spec PyProof.Rows L2
theorem ifB {A B : Prop} (d : Bool) (a : d = true → A) (b : d = false → B) : if d = true then A else B := by
  cases d
  · exact iffF rfl (b rfl)
  · exact iftt rfl (a rfl)
theorem sz {n : Nat} (h : n ≤ 60) : n ≤ sizeLine := line_of (by omega)
def vTr : V → Hp → Prop := fun v H => ∃ p x0 x1 x2 xs, v = .ref p ∧ H p = some (.tup (x0 :: x1 :: x2 :: xs))
def nameS : List Str := [S "a", S "b", S "f", S "x1", S "Point", S "long_name", S "y", S "T", S "iff", S "Ints"]
theorem names_ok : ∀ z ∈ nameS, Wd z := by decide +kernel
def digS : List Str := [S "0", S "7", S "007", S "4294967295", S "4294967297", S "12345678901234567890"]
theorem digs_ok : ∀ z ∈ digS, Wd z ∧ z.length ≤ 640 ∧ (PySem.intText? z).isSome = true := by decide +kernel
def truS : List Str := [S "True", S "False"]
theorem trus_ok : ∀ z ∈ truS, Wd z := by decide +kernel
theorem off_tape {H : Hp} {t : Tp} {p : Addr} (h : TapeAt H t) (hp : H p = none) : p ≠ t.1 := fun e => by
  obtain ⟨_, _, _, _, _, h1, _⟩ := h
  rw [e, h1] at hp
  cases hp
section
variable {P : Program} {w : World} {K : PySem.W.Frag} {mg : Str → Option Value} {base : Heap}
abbrev CTake (P : Program) (w : World) (K : PySem.W.Frag) (mg : Str → Option Value) (base : Heap) : Prop := Cl P w K mg base CX0 1 "_law_take" ["_law_tape_here", "_law_many"] spTake
abbrev CTok (P : Program) (w : World) (K : PySem.W.Frag) (mg : Str → Option Value) (base : Heap) : Prop := Cl P w K mg base CX0 3 "_law_token_out" ["_law_tape_here", "_law_out", "_law_string"] (spGen 1 aWd rInt)
def spName : Sp := fun vs H Q _ => ∃ t : Tp, vs = [.ref t.1] ∧ TapeAt H t ∧ ∀ z H', Wd z → But t.1 H H' → TapeAt H' t → Q (.str z) H'
abbrev CNam (P : Program) (w : World) (K : PySem.W.Frag) (mg : Str → Option Value) (base : Heap) : Prop := Cl P w K mg base CX0 2 "_law_some_name" ["_law_tape_here"] spName
theorem ok_g_some_name (GT : CTake P w K mg base) {f : Addr} {fd : FuncData} (F : FnP K "_law_some_name" s_g_some_name f fd) : FnOk P w K mg base CX0 2 f fd ["_law_tape_here"] spName := by
  refine F.ok c_g_some_name (fun vs H Q E h => ?_) (fun cdv A outer s H vs Q E hr h => ?_)
  · obtain ⟨_, rfl, _⟩ := h
    rfl
  obtain ⟨t, rfl, ht, q⟩ := h
  have nd := c_g_some_name.nd
  refine ⟨_, PSs.nox (pss_cons (ps_set (i := 1) nd rfl (Or.inl rfl) (pe_lst (pa_cons pe_str (pa_cons pe_str (pa_cons pe_str (pa_cons pe_str (pa_cons pe_str (pa_cons pe_str (pa_cons pe_str (pa_cons pe_str (pa_cons pe_str (pa_cons pe_str pa_nil))))))))))))
    (pss_one (ps_ret (pe_ix ix_list (pv 1) (pe_f GT hr (by decide) pass0 (pa_cons (pv 0) (pa_cons pe_int pa_nil))) (fun _ _ => rfl))))), ?_⟩
  refine ⟨sz (by show 10 ≤ 60; decide), fun p hp => ?_⟩
  have s0 := same_new (Same.refl H) hp (.lst (nameS.map V.str))
  refine ⟨_, rfl, _, rfl, t, 10, rfl, by decide, by decide, ht.same s0, fun k H1 hk hb1 ht1 => ?_⟩
  obtain ⟨z, hz, ez⟩ := str_at (zs := nameS) (k := k) hk
  exact ⟨p, _, _, _, rfl, rfl, SqL.of (hb1 p _ (off_tape ht hp) upd_same), ez, q z H1 (names_ok z hz) (fun b x n e => hb1 b x n (s0 b x e)) ht1⟩
theorem ok_g_mark (GN : CNam P w K mg base) (GO : CTok P w K mg base) {f : Addr} {fd : FuncData} (F : FnP K "_law_mark" s_g_mark f fd) : FnOk P w K mg base CX0 4 f fd ["_law_tape_here", "_law_out"] (spGen 1 aNo rAny) := by
  refine F.ok c_g_mark (fun vs H Q E h => ?_) (fun cdv A outer s H vs Q E hr h => ?_)
  · obtain ⟨_, _, _, _, rfl, rfl, _⟩ := h
    rfl
  obtain ⟨t, o, b, _, rfl, rfl, hb, hg, q⟩ := h
  have nd := c_g_mark.nd
  refine ⟨_, PSs.nox (pss_cons (ps_set (i := 2) nd rfl (Or.inl rfl) (pe_f GN hr (by decide) pass0 (pa_cons (pv 0) pa_nil)))
    (pss_one (ps_ret (pe_tup (pa_cons (pv 2) (pa_cons (pe_f GO hr (by decide) pass0 (pa_cons (pv 0) (pa_cons (pv 1) (pa_cons (pv 2) pa_nil)))) pa_nil)))))), ?_⟩
  refine ⟨_, rfl, t, rfl, hg.1, fun z H1 hz hb1 ht1 => ?_⟩
  have g1 := (Gn.refl hg).take hb1 ht1
  refine ⟨_, rfl, _, rfl, _, rfl, _, rfl, t, o, b, _, rfl, ⟨z, rfl, hz⟩, hb, g1.at_, fun v H2 g2 _ => ⟨sz (by show 2 ≤ 60; decide), fun p hp => ?_⟩⟩
  exact q _ _ ((g1.trans g2).new hp _) True.intro
def aChoice : List V → Hp → Prop := fun r _ => ∃ k : Nat, r = [.int (k : Int)]
theorem ok_g_leaf (int : mg "int" = none) (len : mg "len" = none) (GT : CTake P w K mg base) (GO : CTok P w K mg base) {f : Addr} {fd : FuncData} (F : FnP K "_law_leaf" s_g_leaf f fd) : FnOk P w K mg base CX0 4 f fd ["_law_tape_here", "_law_out", "_law_choice"] (spGen 1 aChoice vTr) := by
  refine F.ok c_g_leaf (fun vs H Q E h => ?_) (fun cdv A outer s H vs Q E hr h => ?_)
  · obtain ⟨_, _, _, _, rfl, ⟨_, rfl⟩, _⟩ := h
    rfl
  obtain ⟨t, o, b, _, rfl, ⟨k, rfl⟩, hb, hg, q⟩ := h
  have nd := c_g_leaf.nd
  refine ⟨_, PSs.nox (pss_cons (ps_if (pt_cmpR op_eq (pv 2) pe_int (nomark _))
      (pss_cons (ps_set (i := 3) nd rfl (Or.inl rfl) (pe_ix ix_list (pe_lst (pa_cons pe_str (pa_cons pe_str (pa_cons pe_str (pa_cons pe_str (pa_cons pe_str (pa_cons pe_str pa_nil))))))) (pe_f GT hr (by decide) pass0 (pa_cons (pv 0) (pa_cons pe_int pa_nil))) (fun _ _ => rfl)))
      (pss_cons (ps_set (i := 4) nd rfl (Or.inl rfl) (pe_f GO hr (by decide) pass0 (pa_cons (pv 0) (pa_cons (pv 1) (pa_cons (pv 3) pa_nil)))))
      (pss_one (ps_ret (pe_tup (pa_cons pe_str (pa_cons (pv 4) (pa_cons (pe_op op_add (pv 4) (pe_callB call_len_str (by rfl) len boot_len (pa_cons (pv 3) pa_nil))) (pa_cons (pe_op op_modT (pe_callTy call_int1 (by rfl) int (by decide +kernel) (pa_cons (pe_callTy call_int_str (by rfl) int (by decide +kernel) (pa_cons (pv 3) pa_nil)) pa_nil)) pe_int) pa_nil))))))))) pss_nil)
    (pss_cons (ps_set (i := 5) nd rfl (Or.inl rfl) (pe_ix ix_list (pe_lst (pa_cons pe_str (pa_cons pe_str pa_nil))) (pe_f GT hr (by decide) pass0 (pa_cons (pv 0) (pa_cons pe_int pa_nil))) (fun _ _ => rfl)))
    (pss_cons (ps_set (i := 4) nd rfl (Or.inl rfl) (pe_f GO hr (by decide) pass0 (pa_cons (pv 0) (pa_cons (pv 1) (pa_cons (pv 5) pa_nil)))))
    (pss_one (ps_ret (pe_tup (pa_cons pe_str (pa_cons (pv 4) (pa_cons (pe_op op_add (pv 4) (pe_callB call_len_str (by rfl) len boot_len (pa_cons (pv 5) pa_nil))) (pa_cons (pe_cmpR op_eq (pv 5) pe_str (nomark _)) pa_nil)))))))))), ?_⟩
  refine ⟨_, rfl, rfl, _, rfl, ?_⟩
  refine ifB _ (fun _ => ?_) (fun _ => ?_)
  · refine ⟨sz (by show 6 ≤ 60; decide), fun p hp => ?_⟩
    have g0 := (Gn.refl hg).new hp (.lst (digS.map V.str))
    refine ⟨_, rfl, t, 6, rfl, by decide, by decide, g0.at_.1, fun k H1 hk hb1 ht1 => ?_⟩
    obtain ⟨z, hz, ez⟩ := str_at (zs := digS) (k := k) hk
    obtain ⟨z1, z2, z3⟩ := digs_ok z hz
    obtain ⟨n, z3⟩ := Option.isSome_iff_exists.mp z3
    have g1 := g0.take hb1 ht1
    refine ⟨p, _, _, _, rfl, rfl, SqL.of (hb1 p _ (off_tape hg.1 hp) upd_same), ez, ?_⟩
    refine ⟨_, rfl, _, rfl, _, rfl, t, o, b, _, rfl, ⟨z, rfl, z1⟩, hb, g1.at_, fun v H2 g2 hv => ?_⟩
    obtain ⟨i, rfl⟩ := hv
    refine ⟨_, rfl, _, rfl, _, rfl, _, rfl, line_of (by have := z1.2.1; omega), _, _, rfl, rfl, _, rfl, z, n, rfl, z3, z2, .inl ⟨_, rfl, _, 4294967296, rfl, rfl, by decide, fun m _ => ⟨sz (by show 4 ≤ 60; decide), fun p2 hp2 => ?_⟩⟩⟩
    exact q _ _ ((g1.trans g2).new hp2 _) ⟨p2, _, _, _, _, rfl, upd_same⟩
  · refine ⟨sz (by show 2 ≤ 60; decide), fun p hp => ?_⟩
    have g0 := (Gn.refl hg).new hp (.lst (truS.map V.str))
    refine ⟨_, rfl, t, 2, rfl, by decide, by decide, g0.at_.1, fun k H1 hk hb1 ht1 => ?_⟩
    obtain ⟨z, hz, ez⟩ := str_at (zs := truS) (k := k) hk
    have z1 := trus_ok z hz
    have g1 := g0.take hb1 ht1
    refine ⟨p, _, _, _, rfl, rfl, SqL.of (hb1 p _ (off_tape hg.1 hp) upd_same), ez, ?_⟩
    refine ⟨_, rfl, _, rfl, _, rfl, t, o, b, _, rfl, ⟨z, rfl, z1⟩, hb, g1.at_, fun v H2 g2 hv => ?_⟩
    obtain ⟨i, rfl⟩ := hv
    refine ⟨_, rfl, _, rfl, _, rfl, _, rfl, line_of (by have := z1.2.1; omega), _, _, rfl, rfl, _, rfl, rfl, sz (by show 4 ≤ 60; decide), fun p2 hp2 => ?_⟩
    exact q _ _ ((g1.trans g2).new hp2 _) ⟨p2, _, _, _, _, rfl, upd_same⟩
end
end K10
/-! call, reach, prefix, binary, wide. -/
namespace K10
open PySem PySem.Spec PyProof.Rows L2
def tn : Nat → Nat
  | 0 => 1
  | d + 1 => 6 + 3 * tn d
def aTree (d : Nat) : List V → Hp → Prop := fun r _ => ∃ l : Nat, r = [.int (d : Int), .int (l : Int)] ∧ l ≤ 6
theorem dep1 (d : Nat) : V.int (((d + 1 : Nat) : Int) - 1) = V.int (d : Int) := by rw [show ((d + 1 : Nat) : Int) - 1 = (d : Int) by omega]
theorem aT (d l : Nat) (h : l ≤ 6) (H : Hp) : aTree d [.int (((d + 1 : Nat) : Int) - 1), .int (l : Int)] H := ⟨l, by rw [dep1], h⟩
theorem vTr.stay {v : V} {H H' : Hp} {t : Tp} {o : Addr} {b : Nat} (h : vTr v H) (g : GenAt H t o b) (k : Kp t o H H') : vTr v H' := by
  obtain ⟨p, x0, x1, x2, xs, rfl, hp⟩ := h
  exact ⟨p, x0, x1, x2, xs, rfl, g.stay k hp⟩
theorem vTr.new {v : V} {H : Hp} (h : vTr v H) {p : Addr} (hp : H p = none) {y : HO} : vTr v (upd H p y) := by
  obtain ⟨q, x0, x1, x2, xs, rfl, hq⟩ := h
  exact ⟨q, x0, x1, x2, xs, rfl, by rw [upd_ne (ne_of_none hq hp)]; exact hq⟩
def wordS : List Str := [S "(", S ")", S ",", S ".", S "-", S "not", S "if", S "then", S "else", S "let", S "loop", S "=", S "times", S "do", S "in", S ":", S "[", S "]", S "import", S "data", S "trait", S "impl", S "def", S "for", S "with"]
theorem words_ok : ∀ z ∈ wordS, Wd z := by decide +kernel
theorem wd_in {z : Str} (h : z ∈ wordS := by decide +kernel) : Wd z := words_ok z h
section
variable {P : Program} {w : World} {K : PySem.W.Frag} {mg : Str → Option Value} {base : Heap}
abbrev CTree (P : Program) (w : World) (K : PySem.W.Frag) (mg : Str → Option Value) (base : Heap) (k d : Nat) : Prop := Cl P w K mg base CX0 k "_law_tree" ["_law_tape_here", "_law_out", "_law_depth", "_law_level"] (spGen (tn d) (aTree d) vTr)
def aDep (d : Nat) : List V → Hp → Prop := fun r _ => r = [.int (((d + 1 : Nat)) : Int)]
structure Gk (P : Program) (w : World) (K : PySem.W.Frag) (mg : Str → Option Value) (base : Heap) : Prop where
  len : mg "len" = none
  range : mg "range" = none
  tuple : mg "tuple" = none
  int : mg "int" = none
  take : CTake P w K mg base
  tok : CTok P w K mg base
  nam : CNam P w K mg base
/-- x in y's place: a token more -/
theorem ok_g_call (G : Gk P w K mg base) {d k : Nat} (GT : CTree P w K mg base k d) (hk : 4 ≤ k) {f : Addr} {fd : FuncData} (F : FnP K "_law_call" s_g_call f fd) : FnOk P w K mg base CX0 (k + 1) f fd ["_law_tape_here", "_law_out", "_law_depth"] (spGen (tn (d + 1)) (aDep d) vTr) := by
  refine F.ok c_g_call (fun vs H Q E h => ?_) (fun cdv A outer s H vs Q E hr h => ?_)
  · obtain ⟨_, _, _, _, rfl, rfl, _⟩ := h
    rfl
  obtain ⟨t, o, b, _, rfl, rfl, hb, hg, q⟩ := h
  have nd := c_g_call.nd
  have e1 : tn (d + 1) = 6 + 3 * tn d := rfl
  rw [e1] at hb q
  refine ⟨_, PSs.nox (pss_cons (ps_set (i := 3) nd rfl (Or.inl rfl) (pe_f G.nam hr (by omega) pass0 (pa_cons (pv 0) pa_nil)))
    (pss_cons (ps_set (i := 4) nd rfl (Or.inl rfl) (pe_f G.tok hr (by omega) pass0 (pa_cons (pv 0) (pa_cons (pv 1) (pa_cons (pv 3) pa_nil)))))
    (pss_cons (ps_expr (pe_f G.tok hr (by omega) pass0 (pa_cons (pv 0) (pa_cons (pv 1) (pa_cons pe_str pa_nil)))))
    (pss_cons (ps_set (i := 5) nd rfl (Or.inl rfl) (pe_lst pa_nil))
    (pss_cons (ps_for PassesOwn.never rfl (pi_range1 (by rfl) G.range (pa_cons (pe_f G.take hr (by omega) pass0 (pa_cons (pv 0) (pa_cons pe_int pa_nil))) pa_nil)) (pg_name (i := 6) nd rfl (Or.inl rfl))
      (pss_cons (ps_if (pt_cmpR op_gt (pv 6) pe_int (nomark _))
      (pss_one (ps_expr (pe_f G.tok hr (by omega) pass0 (pa_cons (pv 0) (pa_cons (pv 1) (pa_cons pe_str pa_nil)))))) pss_nil)
    (pss_one (ps_expr (pe_bm PySem.F.plainAttrs_list PySem.F.slot_list_append PySem.F.type_list_append mt_append (pv 5) (pa_cons (pe_f GT hr (by omega) pass0 (pa_cons (pv 0) (pa_cons (pv 1) (pa_cons (pe_op op_sub (pv 2) pe_int) (pa_cons pe_int pa_nil))))) pa_nil))))))
    (pss_cons (ps_set (i := 7) nd rfl (Or.inl rfl) (pe_op op_add (pe_f G.tok hr (by omega) pass0 (pa_cons (pv 0) (pa_cons (pv 1) (pa_cons pe_str pa_nil)))) pe_int))
    (pss_one (ps_ret (pe_tup (pa_cons pe_str (pa_cons (pv 4) (pa_cons (pv 7) (pa_cons (pv 3) (pa_cons (pe_callTy call_tuple_of (by rfl) G.tuple (by decide +kernel) (pa_cons (pv 5) pa_nil)) pa_nil)))))))))))))), ?_⟩
  refine ⟨_, rfl, t, rfl, hg.1, fun z H1 hz hb1 ht1 => ?_⟩
  have g1 := (Gn.refl hg).take hb1 ht1
  refine ⟨_, rfl, _, rfl, _, rfl, t, o, b, _, rfl, ⟨z, rfl, hz⟩, by omega, g1.at_, fun v H2 g2 hv => ?_⟩
  obtain ⟨i, rfl⟩ := hv
  have g2 := g1.trans g2
  refine ⟨_, rfl, _, rfl, t, o, b + 1, _, rfl, ⟨_, rfl, wd_in⟩, by omega, g2.at_, fun v H3 g3 hv => ?_⟩
  have g3 := g2.trans g3
  refine ⟨sz (by show 0 ≤ 60; decide), fun p hp => ?_⟩
  have hp0 := g3.fresh hp
  have g4 := g3.new hp (.lst [])
  refine ⟨_, rfl, t, 4, rfl, by decide, by decide, g4.at_.1, fun k H5 hk hb5 ht5 => ?_⟩
  have g5 := g4.take hb5 ht5
  have hp5 := hb5 p _ (off_tape g3.at_.1 hp) upd_same
  refine ⟨(k : Int), rfl, by omega, by omega, ?_⟩
  refine for_range (n := k) (fun n σ H' => n ≤ k ∧ ∃ (x : Option V) (ys : List V), σ = [some (.ref t.1), some (.ref o), some (.int ((d + 1 : Nat) : Int)), some (.str z), some (.int i), some (.ref p), x, none] ∧ Gn t o H H' (b + 1 + 1 + n * (1 + tn d)) ∧ H' p = some (.lst ys) ∧ ys.length = n) ⟨Nat.zero_le _, none, [], rfl, by rw [Nat.zero_mul]; exact g5, hp5, rfl⟩ ?_ ?_
  · rintro n σ H6 hn ⟨_, x, ys, rfl, g6, hp6, hy⟩
    have hn3 : n * (1 + tn d) ≤ 2 * (1 + tn d) := Nat.mul_le_mul_right _ (by omega)
    have hm : n * (1 + tn d) + (1 + tn d) = (n + 1) * (1 + tn d) := (Nat.succ_mul _ _).symm
    refine ⟨_, rfl, _, _, rfl, rfl, _, rfl, ifB _ (fun _ => ?_) (fun _ => ?_)⟩
    · refine ⟨_, rfl, _, rfl, t, o, _, _, rfl, ⟨_, rfl, wd_in⟩, by omega, g6.at_, fun v H7 g7 hv => ?_⟩
      have hp7 := g6.at_.stay g7.kp hp6
      refine ⟨_, rfl, Or.inl ⟨rfl, _, SqL.of hp7⟩, _, rfl, _, rfl, _, rfl, _, _, rfl, rfl, t, o, _, _, rfl, aT d 0 (by omega) _, by omega, (g6.trans g7).at_, fun v H8 g8 _ => ?_⟩
      have hp8 := (g6.trans g7).at_.stay g8.kp hp7
      exact ⟨p, ys, v, rfl, rfl, hp8, (by rw [hy]; exact Nat.lt_of_lt_of_le (by omega) (line_of (n := 1000) (by omega))), hn, _, _, rfl, (((g6.trans g7).trans g8).mut hg.1 hp0 hp8 (by intro z e; cases e) _).mono (by omega), upd_same, (by rw [List.length_append, hy]; rfl)⟩
    · skip
      refine ⟨_, rfl, Or.inl ⟨rfl, _, SqL.of hp6⟩, _, rfl, _, rfl, _, rfl, _, _, rfl, rfl, t, o, _, _, rfl, aT d 0 (by omega) _, by omega, (g6).at_, fun v H8 g8 _ => ?_⟩
      have hp8 := (g6).at_.stay g8.kp hp6
      exact ⟨p, ys, v, rfl, rfl, hp8, (by rw [hy]; exact Nat.lt_of_lt_of_le (by omega) (line_of (n := 1000) (by omega))), hn, _, _, rfl, (((g6).trans g8).mut hg.1 hp0 hp8 (by intro z e; cases e) _).mono (by omega), upd_same, (by rw [List.length_append, hy]; rfl)⟩
  · rintro σ H6 ⟨_, x, ys, rfl, g6, hp6, hy⟩
    have hn3 : k * (1 + tn d) ≤ 3 * (1 + tn d) := Nat.mul_le_mul_right _ (by omega)
    refine ⟨_, rfl, _, rfl, t, o, _, _, rfl, ⟨_, rfl, wd_in⟩, by omega, g6.at_, fun v H7 g7 hv => ?_⟩
    obtain ⟨j, rfl⟩ := hv
    have hp7 := g6.at_.stay g7.kp hp6
    refine ⟨_, _, rfl, rfl, _, rfl, _, rfl, _, rfl, _, rfl, p, ys, rfl, .inl ⟨SqL.of hp7, fun l hl => ⟨sz (by show 5 ≤ 60; decide), fun p2 hp2 => ?_⟩⟩⟩
    exact q _ _ ((((g6.trans g7).new hl _).new hp2 _).mono (by omega)) ⟨p2, _, _, _, _, rfl, upd_same⟩
end
end K10
/-! reach, prefix, binary. -/
namespace K10
open PySem PySem.Spec PyProof.Rows L2
/-- the items of a tree's tuple -/
theorem vTr.at1 {p : Addr} {x0 x1 x2 : V} {xs : List V} : atI (x0 :: x1 :: x2 :: xs) (1 : Int) = some x1 := atI_nat (j := 1) rfl
theorem vTr.at2 {p : Addr} {x0 x1 x2 : V} {xs : List V} : atI (x0 :: x1 :: x2 :: xs) (2 : Int) = some x2 := atI_nat (j := 2) rfl
def lvS : List V := [.int 1, .int 2, .int 3, .int 4, .int 5]
theorem lv_at {k : Nat} (h : k < 5) : ∃ n : Nat, n ≤ 6 ∧ atI lvS (k : Int) = some (.int (n : Int)) := by
  rcases k with _ | _ | _ | _ | _ | k
  · exact ⟨1, by decide, atI_nat (j := 0) rfl⟩
  · exact ⟨2, by decide, atI_nat (j := 1) rfl⟩
  · exact ⟨3, by decide, atI_nat (j := 2) rfl⟩
  · exact ⟨4, by decide, atI_nat (j := 3) rfl⟩
  · exact ⟨5, by decide, atI_nat (j := 4) rfl⟩
  · omega
/-- the sum of numbers without a sign -/
theorem op_addT {X : Cx} : OpR X (binaryOp .Add) (fun x y H Q => ∃ n m : Nat, x = .int (n : Int) ∧ y = .int (m : Int) ∧ Q (.int ((n + m : Nat) : Int)) H) := by
  intro pins s σ H x y v u Q I rx ry ⟨n, m, ex, ey, h⟩
  exact op_add pins s σ H x y v u Q I rx ry ⟨n, m, ex, ey, by show Q (.int ((n : Int) + (m : Int))) H; rw [← Int.natCast_add]; exact h⟩
theorem op_subT {X : Cx} : OpR X (binaryOp .Sub) (fun x y H Q => ∃ n m : Nat, x = .int (n : Int) ∧ y = .int (m : Int) ∧ m ≤ n ∧ Q (.int ((n - m : Nat) : Int)) H) := by
  intro pins s σ H x y v u Q I rx ry ⟨n, m, ex, ey, hm, h⟩
  exact op_sub pins s σ H x y v u Q I rx ry ⟨n, m, ex, ey, by show Q (.int ((n : Int) - (m : Int))) H; rw [← Int.natCast_sub hm]; exact h⟩
section
variable {P : Program} {w : World} {K : PySem.W.Frag} {mg : Str → Option Value} {base : Heap}
theorem ok_g_reach (G : Gk P w K mg base) {d k : Nat} (GT : CTree P w K mg base k 0) (hk : 4 ≤ k) {f : Addr} {fd : FuncData} (F : FnP K "_law_reach" s_g_reach f fd) : FnOk P w K mg base CX0 (k + 1) f fd ["_law_tape_here", "_law_out", "_law_depth"] (spGen (tn (d + 1)) (aDep d) vTr) := by
  refine F.ok c_g_reach (fun vs H Q E h => ?_) (fun cdv A outer s H vs Q E hr h => ?_)
  · obtain ⟨_, _, _, _, rfl, rfl, _⟩ := h
    rfl
  obtain ⟨t, o, b, _, rfl, rfl, hb, hg, q⟩ := h
  have nd := c_g_reach.nd
  have e1 : tn (d + 1) = 6 + 3 * tn d := rfl
  have e0 : tn 0 = 1 := rfl
  rw [e1] at hb q
  refine ⟨_, PSs.nox (pss_cons (ps_set (i := 3) nd rfl (Or.inl rfl) (pe_f GT hr (by omega) pass0 (pa_cons (pv 0) (pa_cons (pv 1) (pa_cons pe_int (pa_cons pe_int pa_nil))))))
    (pss_cons (ps_for PassesOwn.never rfl (pi_range1 (by rfl) G.range (pa_cons (pe_op op_addT pe_int (pe_f G.take hr (by omega) pass0 (pa_cons (pv 0) (pa_cons pe_int pa_nil)))) pa_nil)) (pg_name (i := 4) nd rfl (Or.inl rfl))
      (pss_cons (ps_expr (pe_f G.tok hr (by omega) pass0 (pa_cons (pv 0) (pa_cons (pv 1) (pa_cons pe_str pa_nil)))))
    (pss_cons (ps_set (i := 5) nd rfl (Or.inl rfl) (pe_f G.nam hr (by omega) pass0 (pa_cons (pv 0) pa_nil)))
    (pss_cons (ps_set (i := 6) nd rfl (Or.inl rfl) (pe_op op_add (pe_f G.tok hr (by omega) pass0 (pa_cons (pv 0) (pa_cons (pv 1) (pa_cons (pv 5) pa_nil)))) (pe_callB call_len_str (by rfl) G.len boot_len (pa_cons (pv 5) pa_nil))))
    (pss_one (ps_set (i := 3) nd rfl (Or.inl rfl) (pe_tup (pa_cons pe_str (pa_cons (pe_ix ix_tup (pv 3) pe_int (fun _ _ => rfl)) (pa_cons (pv 6) (pa_cons (pv 3) (pa_cons (pv 5) pa_nil))))))))))))
    (pss_one (ps_ret (pv 3))))), ?_⟩
  refine ⟨_, rfl, _, rfl, t, o, _, _, rfl, ⟨6, rfl, by omega⟩, by omega, hg, fun v H1 g1 hv => ?_⟩
  refine ⟨_, rfl, t, 2, rfl, by decide, by decide, g1.at_.1, fun k H2 hk hb2 ht2 => ⟨1, k, rfl, rfl, ((1 + k : Nat) : Int), rfl, by omega, by omega, ?_⟩⟩
  have g2 := g1.take hb2 ht2
  have hv2 := hv.stay g1.at_ (fun b x n m e => hb2 b x n e)
  refine for_range (n := 1 + k) (fun n σ H' => n ≤ 1 + k ∧ ∃ (v : V) (x y z : Option V), σ = [some (.ref t.1), some (.ref o), some (.int ((d + 1 : Nat) : Int)), some v, x, y, z] ∧ Gn t o H H' (b + tn 0 + n * 2) ∧ vTr v H') ⟨Nat.zero_le _, v, none, none, none, rfl, g2, hv2⟩ ?_ ?_
  · rintro n σ H3 hn ⟨_, v, x, y, z, rfl, g3, hv3⟩
    refine ⟨_, rfl, _, rfl, t, o, _, _, rfl, ⟨_, rfl, wd_in⟩, by omega, g3.at_, fun u H4 g4 hu => ?_⟩
    have hv4 := hv3.stay g3.at_ g4.kp
    have g4 := g3.trans g4
    refine ⟨_, rfl, t, rfl, g4.at_.1, fun z H5 hz hb5 ht5 => ?_⟩
    have hv5 := hv4.stay g4.at_ (fun b x n m e => hb5 b x n e)
    have g5 := g4.take hb5 ht5
    refine ⟨_, rfl, _, rfl, _, rfl, t, o, _, _, rfl, ⟨z, rfl, hz⟩, by omega, g5.at_, fun u H6 g6 hu => ?_⟩
    obtain ⟨i, rfl⟩ := hu
    have hv6 := hv5.stay g5.at_ g6.kp
    obtain ⟨p, x0, x1, x2, xs, rfl, hp⟩ := hv6
    refine ⟨_, rfl, _, rfl, line_of (by have := hz.2.1; omega), _, _, rfl, rfl, _, rfl, p, _, 1, _, rfl, rfl, SqT.of hp, vTr.at1 (p := p), _, rfl, _, rfl, _, rfl, sz (by show 5 ≤ 60; decide), fun p2 hp2 => ?_⟩
    exact ⟨hn, _, _, _, _, rfl, ((g5.trans g6).new hp2 _).mono (by omega), p2, _, _, _, _, rfl, upd_same⟩
  · rintro σ H3 ⟨_, v, x, y, z, rfl, g3, hv3⟩
    exact ⟨_, rfl, q _ _ (g3.mono (by omega)) hv3⟩
def aPre (d : Nat) : List V → Hp → Prop := fun r _ => ∃ (x z : Str) (l : Nat), r = [.int ((d + 1 : Nat) : Int), .str x, .str z, .int (l : Int)] ∧ Wd z ∧ l ≤ 6
theorem ok_g_prefix (G : Gk P w K mg base) {d k : Nat} (GT : CTree P w K mg base k d) (hk : 4 ≤ k) {f : Addr} {fd : FuncData} (F : FnP K "_law_prefix" s_g_prefix f fd) : FnOk P w K mg base CX0 (k + 1) f fd ["_law_tape_here", "_law_out", "_law_depth", "_law_word", "_law_sign", "_law_level"] (spGen (tn (d + 1)) (aPre d) vTr) := by
  refine F.ok c_g_prefix (fun vs H Q E h => ?_) (fun cdv A outer s H vs Q E hr h => ?_)
  · obtain ⟨_, _, _, _, rfl, ⟨_, _, _, rfl, _⟩, _⟩ := h
    rfl
  obtain ⟨t, o, b, _, rfl, ⟨x, z, l, rfl, hz, hl⟩, hb, hg, q⟩ := h
  have nd := c_g_prefix.nd
  have e1 : tn (d + 1) = 6 + 3 * tn d := rfl
  rw [e1] at hb q
  refine ⟨_, PSs.nox (pss_cons (ps_set (i := 6) nd rfl (Or.inl rfl) (pe_f G.tok hr (by omega) pass0 (pa_cons (pv 0) (pa_cons (pv 1) (pa_cons (pv 4) pa_nil)))))
    (pss_cons (ps_set (i := 7) nd rfl (Or.inl rfl) (pe_f GT hr (by omega) pass0 (pa_cons (pv 0) (pa_cons (pv 1) (pa_cons (pe_op op_sub (pv 2) pe_int) (pa_cons (pv 5) pa_nil))))))
    (pss_one (ps_ret (pe_tup (pa_cons (pv 3) (pa_cons (pv 6) (pa_cons (pe_ix ix_tup (pv 7) pe_int (fun _ _ => rfl)) (pa_cons (pv 7) pa_nil))))))))), ?_⟩
  refine ⟨_, rfl, _, rfl, _, rfl, t, o, _, _, rfl, ⟨z, rfl, hz⟩, by omega, hg, fun u H1 g1 hu => ?_⟩
  refine ⟨_, rfl, _, rfl, _, rfl, _, _, rfl, rfl, _, rfl, t, o, _, _, rfl, aT d l hl _, by omega, g1.at_, fun v H2 g2 hv => ?_⟩
  obtain ⟨p, x0, x1, x2, xs, rfl, hp⟩ := hv
  refine ⟨_, rfl, _, rfl, _, rfl, p, _, 2, _, rfl, rfl, SqT.of hp, vTr.at2 (p := p), _, rfl, sz (by show 4 ≤ 60; decide), fun p2 hp2 => ?_⟩
  exact q _ _ (((g1.trans g2).new hp2 _).mono (by omega)) ⟨p2, _, _, _, _, rfl, upd_same⟩
end
end K10
/-! binary, wide. -/
namespace K10
open PySem PySem.Spec PyProof.Rows L2
theorem pick5 {a1 a2 a3 a4 a5 : Addr} {x1 x2 x3 x4 x5 : List Str} {H : Hp} (h1 : H a1 = some (.lst (x1.map V.str))) (h2 : H a2 = some (.lst (x2.map V.str))) (h3 : H a3 = some (.lst (x3.map V.str))) (h4 : H a4 = some (.lst (x4.map V.str))) (h5 : H a5 = some (.lst (x5.map V.str))) {c : Nat} (h : c < 5) :
    ∃ a x, x ∈ [x1, x2, x3, x4, x5] ∧ H a = some (.lst (x.map V.str)) ∧ atI [V.ref a1, V.ref a2, V.ref a3, V.ref a4, V.ref a5] (c : Int) = some (.ref a) := by
  rcases c with _ | _ | _ | _ | _ | c
  · exact ⟨a1, x1, by simp, h1, atI_nat (j := 0) rfl⟩
  · exact ⟨a2, x2, by simp, h2, atI_nat (j := 1) rfl⟩
  · exact ⟨a3, x3, by simp, h3, atI_nat (j := 2) rfl⟩
  · exact ⟨a4, x4, by simp, h4, atI_nat (j := 3) rfl⟩
  · exact ⟨a5, x5, by simp, h5, atI_nat (j := 4) rfl⟩
  · omega
def opS : List (List Str) := [[S "or"], [S "and"], [S "==", S "<"], [S "+", S "-"], [S "*", S "/"]]
theorem ops_ok : ∀ x ∈ opS, x.length ≠ 0 ∧ x.length ≤ 2 ∧ ∀ z ∈ x, Wd z := by decide +kernel
section
variable {P : Program} {w : World} {K : PySem.W.Frag} {mg : Str → Option Value} {base : Heap}
/-- one turn, or two -/
def tMay : TE := fun σ H Q => ∃ (t : Tp) (x1 x2 x3 : Option V) (c : Int) (rest : List (Option V)), σ = some (.ref t.1) :: x1 :: x2 :: x3 :: some (.int c) :: rest ∧ TapeAt H t ∧ ∀ (k : Nat) H', k < 2 → But t.1 H H' → TapeAt H' t → Q (.int (k : Int)) H'
theorem may_w {X : Cx} {e : Expr} {te : TE} (h : PE X e te) (f : ∀ σ H Q, tMay σ H Q → te σ H Q) : PE X e tMay := pe_w h f
def aBin (d : Nat) : List V → Hp → Prop := fun r _ => ∃ (l : Nat), r = [.int ((d + 1 : Nat) : Int), .int (l : Int)] ∧ l < 5
theorem ok_g_binary (G : Gk P w K mg base) {d k : Nat} (GT : CTree P w K mg base k d) (hk : 4 ≤ k) {f : Addr} {fd : FuncData} (F : FnP K "_law_binary" s_g_binary f fd) : FnOk P w K mg base CX0 (k + 1) f fd ["_law_tape_here", "_law_out", "_law_depth", "_law_level"] (spGen (tn (d + 1)) (aBin d) vTr) := by
  refine F.ok c_g_binary (fun vs H Q E h => ?_) (fun cdv A outer s H vs Q E hr h => ?_)
  · obtain ⟨_, _, _, _, rfl, ⟨_, rfl, _⟩, _⟩ := h
    rfl
  obtain ⟨t, o, b, _, rfl, ⟨l, rfl, hl⟩, hb, hg, q⟩ := h
  have nd := c_g_binary.nd
  have e1 : tn (d + 1) = 6 + 3 * tn d := rfl
  rw [e1] at hb q
  refine ⟨_, PSs.nox (pss_cons (ps_set (i := 4) nd rfl (Or.inl rfl) (pe_op op_addT (pv 3) (pe_f G.take hr (by omega) pass0 (pa_cons (pv 0) (pa_cons (pe_op op_subT pe_int (pv 3)) pa_nil)))))
    (pss_cons (ps_set (i := 5) nd rfl (Or.inl rfl) (pe_ix ix_list (pe_lst (pa_cons (pe_lst (pa_cons pe_str pa_nil)) (pa_cons (pe_lst (pa_cons pe_str pa_nil)) (pa_cons (pe_lst (pa_cons pe_str (pa_cons pe_str pa_nil))) (pa_cons (pe_lst (pa_cons pe_str (pa_cons pe_str pa_nil))) (pa_cons (pe_lst (pa_cons pe_str (pa_cons pe_str pa_nil))) pa_nil)))))) (pv 4) (fun _ _ => rfl)))
    (pss_cons (ps_set (i := 6) nd rfl (Or.inl rfl) (pe_f GT hr (by omega) pass0 (pa_cons (pv 0) (pa_cons (pv 1) (pa_cons (pe_op op_sub (pv 2) pe_int) (pa_cons (pe_ix ix_list (pe_lst (pa_cons pe_int (pa_cons pe_int (pa_cons pe_int (pa_cons pe_int (pa_cons pe_int pa_nil)))))) (pv 4) (fun _ _ => rfl)) pa_nil))))))
    (pss_cons (ps_for PassesOwn.never rfl (pi_range1 (by rfl) G.range (pa_cons (pe_op op_addT pe_int (may_w (pe_ifExp (pt_cmpR op_ne (pv 4) pe_int (nomark _)) (pe_f G.take hr (by omega) pass0 (pa_cons (pv 0) (pa_cons pe_int pa_nil))) pe_int) ?_)) pa_nil)) (pg_name (i := 7) nd rfl (Or.inl rfl))
      (pss_cons (ps_set (i := 8) nd rfl (Or.inl rfl) (pe_ix ix_list (pv 5) (pe_f G.take hr (by omega) pass0 (pa_cons (pv 0) (pa_cons (pe_callB call_len_seq (by rfl) G.len boot_len (pa_cons (pv 5) pa_nil)) pa_nil))) (fun _ _ => rfl)))
    (pss_cons (ps_expr (pe_f G.tok hr (by omega) pass0 (pa_cons (pv 0) (pa_cons (pv 1) (pa_cons (pv 8) pa_nil)))))
    (pss_cons (ps_set (i := 9) nd rfl (Or.inl rfl) (pe_f GT hr (by omega) pass0 (pa_cons (pv 0) (pa_cons (pv 1) (pa_cons (pe_op op_sub (pv 2) pe_int) (pa_cons (pe_ix ix_list (pe_lst (pa_cons pe_int (pa_cons pe_int (pa_cons pe_int (pa_cons pe_int (pa_cons pe_int pa_nil)))))) (pv 4) (fun _ _ => rfl)) pa_nil))))))
    (pss_one (ps_set (i := 6) nd rfl (Or.inl rfl) (pe_tup (pa_cons pe_str (pa_cons (pe_ix ix_tup (pv 6) pe_int (fun _ _ => rfl)) (pa_cons (pe_ix ix_tup (pv 9) pe_int (fun _ _ => rfl)) (pa_cons (pv 8) (pa_cons (pv 6) (pa_cons (pv 9) pa_nil)))))))))))))
    (pss_one (ps_ret (pv 6))))))), ?_⟩
  · rintro σ H Q ⟨t, x1, x2, x3, c, rest, rfl, ht, q⟩
    refine ⟨_, rfl, rfl, _, rfl, ifB _ (fun _ => ⟨_, rfl, t, 2, rfl, by decide, by decide, ht, q⟩) (fun _ => q 0 H (by decide) (But.refl _ _) ht)⟩
  refine ⟨_, rfl, _, rfl, _, rfl, 5, l, rfl, rfl, by omega, t, _, rfl, by omega, by omega, hg.1, fun j H1 hj hb1 ht1 => ⟨l, j, rfl, rfl, ?_⟩⟩
  have g1 := (Gn.refl hg).take hb1 ht1
  refine ⟨sz (by show 1 ≤ 60; decide), fun a1 h1 => ⟨sz (by show 1 ≤ 60; decide), fun a2 h2 => ⟨sz (by show 2 ≤ 60; decide), fun a3 h3 => ⟨sz (by show 2 ≤ 60; decide), fun a4 h4 => ⟨sz (by show 2 ≤ 60; decide), fun a5 h5 => ⟨sz (by show 5 ≤ 60; decide), fun a6 h6 => ?_⟩⟩⟩⟩⟩⟩
  have s2 := same_new (Same.refl _) h2 (.lst ([S "and"].map V.str))
  have s3 := same_new (Same.refl _) h3 (.lst ([S "==", S "<"].map V.str))
  have s4 := same_new (Same.refl _) h4 (.lst ([S "+", S "-"].map V.str))
  have s5 := same_new (Same.refl _) h5 (.lst ([S "*", S "/"].map V.str))
  have s6 := same_new (Same.refl _) h6 (.lst [.ref a1, .ref a2, .ref a3, .ref a4, .ref a5])
  obtain ⟨a, zs, hzs, ha, ea⟩ := pick5 (x1 := [S "or"]) (x2 := [S "and"]) (x3 := [S "==", S "<"]) (x4 := [S "+", S "-"]) (x5 := [S "*", S "/"]) (c := l + j) (s6 _ _ (s5 _ _ (s4 _ _ (s3 _ _ (s2 _ _ upd_same))))) (s6 _ _ (s5 _ _ (s4 _ _ (s3 _ _ upd_same)))) (s6 _ _ (s5 _ _ (s4 _ _ upd_same))) (s6 _ _ (s5 _ _ upd_same)) (s6 _ _ upd_same) (by omega)
  obtain ⟨z0, z2, zW⟩ := ops_ok zs hzs
  have g6 := (((((g1.new h1 (.lst ([S "or"].map V.str))).same s2).same s3).same s4).same s5).same s6
  obtain ⟨n, hn, en⟩ := lv_at (k := l + j) (by omega)
  refine ⟨_, rfl, a6, _, _, _, rfl, rfl, SqL.of upd_same, ea, ?_⟩
  refine ⟨_, rfl, _, rfl, _, rfl, _, _, rfl, rfl, sz (by show 5 ≤ 60; decide), fun a7 h7 => ⟨_, rfl, a7, _, _, _, rfl, rfl, SqL.of upd_same, en, ?_⟩⟩
  have g7 := g6.new h7 (.lst lvS)
  have ha7 := same_new (Same.refl _) h7 (.lst lvS) _ _ ha
  refine ⟨t, o, _, _, rfl, aT d n hn _, by omega, g7.at_, fun v H8 g8 hv => ?_⟩
  have ha8 := g7.at_.stay g8.kp ha7
  have g8 := g7.trans g8
  refine ⟨t, _, _, _, _, _, rfl, g8.at_.1, fun k1 H9 hk1 hb9 ht9 => ⟨1, k1, rfl, rfl, ((1 + k1 : Nat) : Int), rfl, by omega, by omega, ?_⟩⟩
  have g9 := g8.take hb9 ht9
  have hv9 := hv.stay g8.at_ (fun b x n m e => hb9 b x n e)
  have ha9 := hb9 _ _ (g8.at_.off ha8 (by intro z e; cases e)).1 ha8
  refine for_range (n := 1 + k1) (fun n σ H' => n ≤ 1 + k1 ∧ ∃ (v : V) (x y z : Option V), σ = [some (.ref t.1), some (.ref o), some (.int ((d + 1 : Nat) : Int)), some (.int (l : Int)), some (.int ((l + j : Nat) : Int)), some (.ref a), some v, x, y, z] ∧ Gn t o H H' (b + tn d + n * (1 + tn d)) ∧ vTr v H' ∧ H' a = some (.lst (zs.map V.str))) ⟨Nat.zero_le _, v, none, none, none, rfl, by rw [Nat.zero_mul]; exact g9, hv9, ha9⟩ ?_ ?_
  · rintro m σ H10 hm ⟨_, v, x, y, z, rfl, g10, hv10, ha10⟩
    have hn3 : m * (1 + tn d) ≤ 1 * (1 + tn d) := Nat.mul_le_mul_right _ (by omega)
    have hmm : m * (1 + tn d) + (1 + tn d) = (m + 1) * (1 + tn d) := (Nat.succ_mul _ _).symm
    refine ⟨_, rfl, _, rfl, _, rfl, a, _, rfl, .inl (SqL.of ha10), t, (zs.map V.str).length, rfl, by rw [List.length_map]; omega, by rw [List.length_map]; omega, g10.at_.1, fun k2 H11 hk2 hb11 ht11 => ?_⟩
    rw [List.length_map] at hk2
    obtain ⟨z, hz, ez⟩ := str_at (zs := zs) (k := k2) hk2
    have g11 := g10.take hb11 ht11
    have hv11 := hv10.stay g10.at_ (fun b x n m e => hb11 b x n e)
    have ha11 := hb11 _ _ (g10.at_.off ha10 (by intro z e; cases e)).1 ha10
    refine ⟨a, _, _, _, rfl, rfl, SqL.of ha11, ez, ?_⟩
    refine ⟨_, rfl, _, rfl, _, rfl, t, o, _, _, rfl, ⟨z, rfl, zW z hz⟩, by omega, g11.at_, fun u H12 g12 hu => ?_⟩
    have hv12 := hv11.stay g11.at_ g12.kp
    have ha12 := g11.at_.stay g12.kp ha11
    have g12 := g11.trans g12
    refine ⟨_, rfl, _, rfl, _, rfl, _, _, rfl, rfl, sz (by show 5 ≤ 60; decide), fun b7 h7 => ⟨_, rfl, b7, _, _, _, rfl, rfl, SqL.of upd_same, en, ?_⟩⟩
    have g13 := g12.new h7 (.lst lvS)
    have hv13 := hv12.new h7 (y := .lst lvS)
    have ha13 := same_new (Same.refl _) h7 (.lst lvS) _ _ ha12
    refine ⟨t, o, _, _, rfl, aT d n hn _, by omega, g13.at_, fun u2 H14 g14 hu2 => ?_⟩
    have hv14 := hv13.stay g13.at_ g14.kp
    have ha14 := g13.at_.stay g14.kp ha13
    have g14 := g13.trans g14
    obtain ⟨p, x0, x1, x2, xs, rfl, hp⟩ := hv14
    obtain ⟨r, y0, y1, y2, ys, rfl, hr2⟩ := hu2
    refine ⟨_, rfl, p, _, 1, _, rfl, rfl, SqT.of hp, vTr.at1 (p := p), _, rfl, r, _, 2, _, rfl, rfl, SqT.of hr2, vTr.at2 (p := p), _, rfl, _, rfl, _, rfl, sz (by show 6 ≤ 60; decide), fun p2 hp2 => ?_⟩
    exact ⟨hm, _, _, _, _, rfl, (g14.new hp2 _).mono (by omega), ⟨p2, _, _, _, _, rfl, upd_same⟩, same_new (Same.refl _) hp2 _ _ _ ha14⟩
  · rintro σ H10 ⟨_, v, x, y, z, rfl, g10, hv10, ha10⟩
    have hn3 : (1 + k1) * (1 + tn d) ≤ 2 * (1 + tn d) := Nat.mul_le_mul_right _ (by omega)
    exact ⟨_, rfl, q _ _ (g10.mono (by omega)) hv10⟩
end
end K10
/-! wide, tree. -/
namespace K10
open PySem PySem.Spec PyProof.Rows L2
def lopS : List Str := [S "let", S "loop"]
theorem lops_ok : ∀ z ∈ lopS, Wd z := by decide +kernel
section
variable {P : Program} {w : World} {K : PySem.W.Frag} {mg : Str → Option Value} {base : Heap}
def aWide (d : Nat) : List V → Hp → Prop := fun r _ => ∃ (c : Nat), r = [.int ((d + 1 : Nat) : Int), .int (c : Int)] ∧ 11 ≤ c ∧ c ≤ 13
theorem ok_g_wide (G : Gk P w K mg base) {d k : Nat} (GT : CTree P w K mg base k d) (hk : 4 ≤ k) {f : Addr} {fd : FuncData} (F : FnP K "_law_wide" s_g_wide f fd) : FnOk P w K mg base CX0 (k + 1) f fd ["_law_tape_here", "_law_out", "_law_depth", "_law_choice"] (spGen (tn (d + 1)) (aWide d) vTr) := by
  refine F.ok c_g_wide (fun vs H Q E h => ?_) (fun cdv A outer s H vs Q E hr h => ?_)
  · obtain ⟨_, _, _, _, rfl, ⟨_, rfl, _⟩, _⟩ := h
    rfl
  obtain ⟨t, o, b, _, rfl, ⟨c, rfl, hc1, hc2⟩, hb, hg, q⟩ := h
  have nd := c_g_wide.nd
  have e1 : tn (d + 1) = 6 + 3 * tn d := rfl
  rw [e1] at hb q
  have g0 := Gn.refl hg
  refine ⟨_, PSs.nox (pss_cons (ps_if (pt_cmpR op_eq (pv 3) pe_int (nomark _))
      (pss_cons (ps_set (i := 4) nd rfl (Or.inl rfl) (pe_f G.tok hr (by omega) pass0 (pa_cons (pv 0) (pa_cons (pv 1) (pa_cons pe_str pa_nil)))))
    (pss_cons (ps_set (i := 5) nd rfl (Or.inl rfl) (pe_f GT hr (by omega) pass0 (pa_cons (pv 0) (pa_cons (pv 1) (pa_cons (pe_op op_sub (pv 2) pe_int) (pa_cons pe_int pa_nil))))))
    (pss_cons (ps_expr (pe_f G.tok hr (by omega) pass0 (pa_cons (pv 0) (pa_cons (pv 1) (pa_cons pe_str pa_nil)))))
    (pss_cons (ps_set (i := 6) nd rfl (Or.inl rfl) (pe_f GT hr (by omega) pass0 (pa_cons (pv 0) (pa_cons (pv 1) (pa_cons (pe_op op_sub (pv 2) pe_int) (pa_cons pe_int pa_nil))))))
    (pss_cons (ps_expr (pe_f G.tok hr (by omega) pass0 (pa_cons (pv 0) (pa_cons (pv 1) (pa_cons pe_str pa_nil)))))
    (pss_cons (ps_set (i := 7) nd rfl (Or.inl rfl) (pe_f GT hr (by omega) pass0 (pa_cons (pv 0) (pa_cons (pv 1) (pa_cons (pe_op op_sub (pv 2) pe_int) (pa_cons pe_int pa_nil))))))
    (pss_one (ps_ret (pe_tup (pa_cons pe_str (pa_cons (pv 4) (pa_cons (pe_ix ix_tup (pv 7) pe_int (fun _ _ => rfl)) (pa_cons (pv 5) (pa_cons (pv 6) (pa_cons (pv 7) pa_nil))))))))))))))) pss_nil)
    (pss_cons (ps_set (i := 8) nd rfl (Or.inl rfl) (pe_ix ix_list (pe_lst (pa_cons pe_str (pa_cons pe_str pa_nil))) (pe_op op_subT (pv 3) pe_int) (fun _ _ => rfl)))
    (pss_cons (ps_set (i := 4) nd rfl (Or.inl rfl) (pe_f G.tok hr (by omega) pass0 (pa_cons (pv 0) (pa_cons (pv 1) (pa_cons (pv 8) pa_nil)))))
    (pss_cons (ps_set (i := 9) nd rfl (Or.inl rfl) (pe_f G.nam hr (by omega) pass0 (pa_cons (pv 0) pa_nil)))
    (pss_cons (ps_set (i := 10) nd rfl (Or.inl rfl) (pe_f G.tok hr (by omega) pass0 (pa_cons (pv 0) (pa_cons (pv 1) (pa_cons (pv 9) pa_nil)))))
    (pss_cons (ps_expr (pe_f G.tok hr (by omega) pass0 (pa_cons (pv 0) (pa_cons (pv 1) (pa_cons pe_str pa_nil)))))
    (pss_cons (ps_set (i := 11) nd rfl (Or.inl rfl) (pe_f GT hr (by omega) pass0 (pa_cons (pv 0) (pa_cons (pv 1) (pa_cons (pe_op op_sub (pv 2) pe_int) (pa_cons pe_int pa_nil))))))
    (pss_cons (ps_if (pt_cmpR op_eq (pv 8) pe_str (nomark _))
      (pss_cons (ps_expr (pe_f G.tok hr (by omega) pass0 (pa_cons (pv 0) (pa_cons (pv 1) (pa_cons pe_str pa_nil)))))
    (pss_cons (ps_set (i := 12) nd rfl (Or.inl rfl) (pe_f GT hr (by omega) pass0 (pa_cons (pv 0) (pa_cons (pv 1) (pa_cons (pe_op op_sub (pv 2) pe_int) (pa_cons pe_int pa_nil))))))
    (pss_cons (ps_expr (pe_f G.tok hr (by omega) pass0 (pa_cons (pv 0) (pa_cons (pv 1) (pa_cons pe_str pa_nil)))))
    (pss_cons (ps_set (i := 13) nd rfl (Or.inl rfl) (pe_f GT hr (by omega) pass0 (pa_cons (pv 0) (pa_cons (pv 1) (pa_cons (pe_op op_sub (pv 2) pe_int) (pa_cons pe_int pa_nil))))))
    (pss_one (ps_ret (pe_tup (pa_cons (pv 8) (pa_cons (pv 4) (pa_cons (pe_ix ix_tup (pv 13) pe_int (fun _ _ => rfl)) (pa_cons (pv 9) (pa_cons (pv 10) (pa_cons (pv 11) (pa_cons (pv 12) (pa_cons (pv 13) pa_nil))))))))))))))) pss_nil)
    (pss_cons (ps_expr (pe_f G.tok hr (by omega) pass0 (pa_cons (pv 0) (pa_cons (pv 1) (pa_cons pe_str pa_nil)))))
    (pss_cons (ps_set (i := 14) nd rfl (Or.inl rfl) (pe_f GT hr (by omega) pass0 (pa_cons (pv 0) (pa_cons (pv 1) (pa_cons (pe_op op_sub (pv 2) pe_int) (pa_cons pe_int pa_nil))))))
    (pss_one (ps_ret (pe_tup (pa_cons (pv 8) (pa_cons (pv 4) (pa_cons (pe_ix ix_tup (pv 14) pe_int (fun _ _ => rfl)) (pa_cons (pv 9) (pa_cons (pv 10) (pa_cons (pv 11) (pa_cons (pv 14) pa_nil)))))))))))))))))))), ?_⟩
  refine ⟨_, rfl, rfl, _, rfl, ifB _ (fun hc => ?_) (fun hc => ?_)⟩
  · skip
    refine ⟨_, rfl, _, rfl, t, o, _, _, rfl, ⟨_, rfl, wd_in⟩, by omega, g0.at_, fun u1 H1 g1 hu1 => ?_⟩
    have g1 := g0.trans g1
    refine ⟨_, rfl, _, rfl, _, rfl, _, _, rfl, rfl, t, o, _, _, rfl, aT d 0 (by omega) _, by omega, g1.at_, fun u2 H2 g2 hu2 => ?_⟩
    have g2 := g1.trans g2
    refine ⟨_, rfl, _, rfl, t, o, _, _, rfl, ⟨_, rfl, wd_in⟩, by omega, g2.at_, fun u3 H3 g3 hu3 => ?_⟩
    have g3 := g2.trans g3
    refine ⟨_, rfl, _, rfl, _, rfl, _, _, rfl, rfl, t, o, _, _, rfl, aT d 0 (by omega) _, by omega, g3.at_, fun u4 H4 g4 hu4 => ?_⟩
    have g4 := g3.trans g4
    refine ⟨_, rfl, _, rfl, t, o, _, _, rfl, ⟨_, rfl, wd_in⟩, by omega, g4.at_, fun u5 H5 g5 hu5 => ?_⟩
    have g5 := g4.trans g5
    refine ⟨_, rfl, _, rfl, _, rfl, _, _, rfl, rfl, t, o, _, _, rfl, aT d 0 (by omega) _, by omega, g5.at_, fun u6 H6 g6 hu6 => ?_⟩
    have g6 := g5.trans g6
    obtain ⟨p, x0, x1, x2, xs, rfl, hp⟩ := hu6
    refine ⟨_, rfl, _, rfl, p, _, 2, _, rfl, rfl, SqT.of hp, vTr.at2 (p := p), _, rfl, _, rfl, _, rfl, sz (by show 6 ≤ 60; decide), fun p2 hp2 => ?_⟩
    exact q _ _ ((g6.new hp2 _).mono (by omega)) ⟨p2, _, _, _, _, rfl, upd_same⟩
  · have hc : ¬ V.int (c : Int) = V.int 11 := of_decide_eq_false hc
    have hc3 : c ≠ 11 := fun e => hc (by rw [e]; rfl)
    refine ⟨sz (by show 2 ≤ 60; decide), fun p1 hp1 => ⟨_, rfl, c, 12, rfl, rfl, by omega, ?_⟩⟩
    obtain ⟨x, hx, ex⟩ := str_at (zs := lopS) (k := c - 12) (by show c - 12 < 2; omega)
    refine ⟨p1, _, _, _, rfl, rfl, SqL.of upd_same, ex, ?_⟩
    have g1 := g0.new hp1 (.lst (lopS.map V.str))
    refine ⟨_, rfl, _, rfl, _, rfl, t, o, _, _, rfl, ⟨x, rfl, lops_ok x hx⟩, by omega, g1.at_, fun u2 H2 g2 hu2 => ?_⟩
    have g2 := g1.trans g2
    refine ⟨_, rfl, t, rfl, g2.at_.1, fun z H3 hz hb3 ht3 => ?_⟩
    have g3 := g2.take hb3 ht3
    refine ⟨_, rfl, _, rfl, _, rfl, t, o, _, _, rfl, ⟨z, rfl, hz⟩, by omega, g3.at_, fun u4 H4 g4 hu4 => ?_⟩
    have g4 := g3.trans g4
    refine ⟨_, rfl, _, rfl, t, o, _, _, rfl, ⟨_, rfl, wd_in⟩, by omega, g4.at_, fun u5 H5 g5 hu5 => ?_⟩
    have g5 := g4.trans g5
    refine ⟨_, rfl, _, rfl, _, rfl, _, _, rfl, rfl, t, o, _, _, rfl, aT d 0 (by omega) _, by omega, g5.at_, fun u6 H6 g6 hu6 => ?_⟩
    have g6 := g5.trans g6
    refine ⟨_, rfl, rfl, _, rfl, ifB _ (fun _ => ?_) (fun _ => ?_)⟩
    · skip
      refine ⟨_, rfl, _, rfl, t, o, _, _, rfl, ⟨_, rfl, wd_in⟩, by omega, g6.at_, fun u7 H7 g7 hu7 => ?_⟩
      have g7 := g6.trans g7
      refine ⟨_, rfl, _, rfl, _, rfl, _, _, rfl, rfl, t, o, _, _, rfl, aT d 0 (by omega) _, by omega, g7.at_, fun u8 H8 g8 hu8 => ?_⟩
      have g8 := g7.trans g8
      refine ⟨_, rfl, _, rfl, t, o, _, _, rfl, ⟨_, rfl, wd_in⟩, by omega, g8.at_, fun u9 H9 g9 hu9 => ?_⟩
      have g9 := g8.trans g9
      refine ⟨_, rfl, _, rfl, _, rfl, _, _, rfl, rfl, t, o, _, _, rfl, aT d 0 (by omega) _, by omega, g9.at_, fun u10 H10 g10 hu10 => ?_⟩
      have g10 := g9.trans g10
      obtain ⟨p, x0, x1, x2, xs, rfl, hp⟩ := hu10
      refine ⟨_, rfl, _, rfl, _, rfl, p, _, 2, _, rfl, rfl, SqT.of hp, vTr.at2 (p := p), _, rfl, _, rfl, _, rfl, _, rfl, _, rfl, sz (by show 8 ≤ 60; decide), fun p2 hp2 => ?_⟩
      exact q _ _ ((g10.new hp2 _).mono (by omega)) ⟨p2, _, _, _, _, rfl, upd_same⟩
    · skip
      refine ⟨_, rfl, _, rfl, t, o, _, _, rfl, ⟨_, rfl, wd_in⟩, by omega, g6.at_, fun u7 H7 g7 hu7 => ?_⟩
      have g7 := g6.trans g7
      refine ⟨_, rfl, _, rfl, _, rfl, _, _, rfl, rfl, t, o, _, _, rfl, aT d 0 (by omega) _, by omega, g7.at_, fun u8 H8 g8 hu8 => ?_⟩
      have g8 := g7.trans g8
      obtain ⟨p, x0, x1, x2, xs, rfl, hp⟩ := hu8
      refine ⟨_, rfl, _, rfl, _, rfl, p, _, 2, _, rfl, rfl, SqT.of hp, vTr.at2 (p := p), _, rfl, _, rfl, _, rfl, _, rfl, sz (by show 7 ≤ 60; decide), fun p2 hp2 => ?_⟩
      exact q _ _ ((g8.new hp2 _).mono (by omega)) ⟨p2, _, _, _, _, rfl, upd_same⟩
end
end K10
/-! tree. -/
namespace K10
open PySem PySem.Spec PyProof.Rows L2
/-- a test of the level and the choice -/
def tLc2b (f : Int → Int → Bool) : TT := fun σ H Q => ∃ (x0 x1 x2 : Option V) (l c : Int) (rest : List (Option V)), σ = x0 :: x1 :: x2 :: some (.int l) :: some (.int c) :: rest ∧ Q (f l c) H
theorem lc_w {X : Cx} {e : Expr} {t : TT} (f : Int → Int → Bool) (h : PT X e t) (g : ∀ σ H Q, tLc2b f σ H Q → t σ H Q) : PT X e (tLc2b f) := pt_w h g
theorem q_tt {Q : Bool → Hp → Prop} {a b : Bool} {H : Hp} (h : a = true) (q : Q (a && b) H) : Q b H := by rw [h, Bool.true_and] at q; exact q
theorem q_ff {Q : Bool → Hp → Prop} {a b : Bool} {H : Hp} (h : a = false) (q : Q (a && b) H) : Q false H := by rw [h, Bool.false_and] at q; exact q
theorem dec_int' {i j : Int} : decide (V.int i = V.int j) = decide (i = j) := by rw [Bool.eq_iff_iff]; simp
section
variable {P : Program} {w : World} {K : PySem.W.Frag} {mg : Str → Option Value} {base : Heap}
abbrev CLeaf (P : Program) (w : World) (K : PySem.W.Frag) (mg : Str → Option Value) (base : Heap) : Prop := Cl P w K mg base CX0 4 "_law_leaf" ["_law_tape_here", "_law_out", "_law_choice"] (spGen 1 aChoice vTr)
theorem ok_g_tree0 (G : Gk P w K mg base) (GL : CLeaf P w K mg base) {f : Addr} {fd : FuncData} (F : FnP K "_law_tree" s_g_tree f fd) : FnOk P w K mg base CX0 5 f fd ["_law_tape_here", "_law_out", "_law_depth", "_law_level"] (spGen (tn 0) (aTree 0) vTr) := by
  refine F.ok c_g_tree (fun vs H Q E h => ?_) (fun cdv A outer s H vs Q E hr h => ?_)
  · obtain ⟨_, _, _, _, rfl, ⟨_, rfl, _⟩, _⟩ := h
    rfl
  obtain ⟨t, o, b, _, rfl, ⟨l, rfl, hl⟩, hb, hg, q⟩ := h
  have nd := c_g_tree.nd
  have e1 : tn 0 = 1 := rfl
  rw [e1] at hb q
  have g0 := Gn.refl hg
  refine ⟨_, PSs.nox (pss_cons (ps_set (i := 4) nd rfl (Or.inl rfl) (pe_ifExp (pt_cmpR op_gt (pv 2) pe_int (nomark _)) (pe_f G.take hr (by omega) pass0 (pa_cons (pv 0) (pa_cons pe_int pa_nil))) (pe_f G.take hr (by omega) pass0 (pa_cons (pv 0) (pa_cons pe_int pa_nil)))))
    (pss_cons (ps_if (lc_w (fun l c => decide (l = 0) && decide (10 < c)) (PW.pt (pw_and (pt_cmpR op_eq (pv 3) pe_int (nomark _)) (pw_and1 (pt_cmpR op_gt (pv 4) pe_int (nomark _))))) ?_)
      pss_never pss_nil)
    (pss_cons (ps_if (pt_cmpR op_lt (pv 4) pe_int (nomark _))
      (pss_one (ps_ret (pe_f GL hr (by omega) pass0 (pa_cons (pv 0) (pa_cons (pv 1) (pa_cons (pv 4) pa_nil)))))) pss_nil)
    (pss_cons (ps_if (pt_cmpR op_lt (pv 4) pe_int (nomark _))
      (pss_cons (ps_set (i := 5) nd rfl (Or.inl rfl) (pe_f G.nam hr (by omega) pass0 (pa_cons (pv 0) pa_nil)))
    (pss_cons (ps_set (i := 6) nd rfl (Or.inl rfl) (pe_f G.tok hr (by omega) pass0 (pa_cons (pv 0) (pa_cons (pv 1) (pa_cons (pv 5) pa_nil)))))
    (pss_one (ps_ret (pe_tup (pa_cons pe_str (pa_cons (pv 6) (pa_cons (pe_op op_add (pv 6) (pe_callB call_len_str (by rfl) G.len boot_len (pa_cons (pv 5) pa_nil))) (pa_cons (pv 5) pa_nil))))))))) pss_nil)
    pss_never)))), ?_⟩
  · rintro σ H Q ⟨x0, x1, x2, l, c, rest, rfl, q⟩
    exact ⟨_, rfl, rfl, _, rfl, ifB _ (fun h => ⟨_, rfl, _, _, rfl, rfl, _, rfl, q_tt (dec_int'.symm.trans h) q⟩) (fun h => q_ff (dec_int'.symm.trans h) q)⟩
  refine ⟨_, rfl, _, _, rfl, rfl, _, rfl, iffF rfl ⟨_, rfl, t, 4, rfl, by decide, by decide, hg.1, fun j H1 hj hb1 ht1 => ?_⟩⟩
  have g1 := g0.take hb1 ht1
  refine ⟨_, _, _, _, _, _, rfl, iffF ?_ ?_⟩
  · show (decide ((l : Int) = 0) && decide ((10 : Int) < (j : Int))) = false
    rw [decide_eq_false (show ¬ (10 : Int) < (j : Int) by omega), Bool.and_false]
  refine ⟨_, rfl, _, _, rfl, rfl, _, rfl, ifB _ (fun h => ?_) (fun h => ?_)⟩
  · refine ⟨_, rfl, _, rfl, _, rfl, t, o, _, _, rfl, ⟨j, rfl⟩, by omega, g1.at_, fun v H2 g2 hv => ?_⟩
    exact q _ _ (g1.trans g2) hv
  refine ⟨_, rfl, _, _, rfl, rfl, _, rfl, iftt (decide_eq_true (by omega)) ?_⟩
  · skip
    refine ⟨_, rfl, t, rfl, g1.at_.1, fun z H2 hz hb2 ht2 => ?_⟩
    have g2 := g1.take hb2 ht2
    refine ⟨_, rfl, _, rfl, _, rfl, t, o, _, _, rfl, ⟨z, rfl, hz⟩, by omega, g2.at_, fun u3 H3 g3 hu3 => ?_⟩
    have g3 := g2.trans g3
    obtain ⟨i, rfl⟩ := hu3
    refine ⟨_, rfl, _, rfl, _, rfl, _, rfl, line_of (by have := hz.2.1; omega), _, _, rfl, rfl, _, rfl, sz (by show 4 ≤ 60; decide), fun p2 hp2 => ?_⟩
    exact q _ _ ((g3.new hp2 _).mono (by omega)) ⟨p2, _, _, _, _, rfl, upd_same⟩
/-- what a tree of some depth calls -/
structure Gt (P : Program) (w : World) (K : PySem.W.Frag) (mg : Str → Option Value) (base : Heap) (k d : Nat) : Prop where
  leaf : CLeaf P w K mg base
  tree : CTree P w K mg base k d
  call : Cl P w K mg base CX0 (k + 1) "_law_call" ["_law_tape_here", "_law_out", "_law_depth"] (spGen (tn (d + 1)) (aDep d) vTr)
  reach : Cl P w K mg base CX0 (k + 1) "_law_reach" ["_law_tape_here", "_law_out", "_law_depth"] (spGen (tn (d + 1)) (aDep d) vTr)
  pre : Cl P w K mg base CX0 (k + 1) "_law_prefix" ["_law_tape_here", "_law_out", "_law_depth", "_law_word", "_law_sign", "_law_level"] (spGen (tn (d + 1)) (aPre d) vTr)
  bin : Cl P w K mg base CX0 (k + 1) "_law_binary" ["_law_tape_here", "_law_out", "_law_depth", "_law_level"] (spGen (tn (d + 1)) (aBin d) vTr)
  wide : Cl P w K mg base CX0 (k + 1) "_law_wide" ["_law_tape_here", "_law_out", "_law_depth", "_law_choice"] (spGen (tn (d + 1)) (aWide d) vTr)
theorem ok_g_treeS (G : Gk P w K mg base) {k d : Nat} (GT : Gt P w K mg base k d) (hk : 4 ≤ k) {f : Addr} {fd : FuncData} (F : FnP K "_law_tree" s_g_tree f fd) : FnOk P w K mg base CX0 (k + 2) f fd ["_law_tape_here", "_law_out", "_law_depth", "_law_level"] (spGen (tn (d + 1)) (aTree (d + 1)) vTr) := by
  refine F.ok c_g_tree (fun vs H Q E h => ?_) (fun cdv A outer s H vs Q E hr h => ?_)
  · obtain ⟨_, _, _, _, rfl, ⟨_, rfl, _⟩, _⟩ := h
    rfl
  obtain ⟨t, o, b, _, rfl, ⟨l, rfl, hl⟩, hb, hg, q⟩ := h
  have nd := c_g_tree.nd
  have e1 : tn (d + 1) = 6 + 3 * tn d := rfl
  have g0 := Gn.refl hg
  refine ⟨_, PSs.nox (pss_cons (ps_set (i := 4) nd rfl (Or.inl rfl) (pe_ifExp (pt_cmpR op_gt (pv 2) pe_int (nomark _)) (pe_f G.take hr (by omega) pass0 (pa_cons (pv 0) (pa_cons pe_int pa_nil))) (pe_f G.take hr (by omega) pass0 (pa_cons (pv 0) (pa_cons pe_int pa_nil)))))
    (pss_cons (ps_if (lc_w (fun l c => decide (l = 0) && decide (10 < c)) (PW.pt (pw_and (pt_cmpR op_eq (pv 3) pe_int (nomark _)) (pw_and1 (pt_cmpR op_gt (pv 4) pe_int (nomark _))))) ?_)
      (pss_one (ps_ret (pe_f GT.wide hr (by omega) pass0 (pa_cons (pv 0) (pa_cons (pv 1) (pa_cons (pv 2) (pa_cons (pv 4) pa_nil))))))) pss_nil)
    (pss_cons (ps_if (pt_cmpR op_lt (pv 4) pe_int (nomark _))
      (pss_one (ps_ret (pe_f GT.leaf hr (by omega) pass0 (pa_cons (pv 0) (pa_cons (pv 1) (pa_cons (pv 4) pa_nil)))))) pss_nil)
    (pss_cons (ps_if (pt_cmpR op_lt (pv 4) pe_int (nomark _))
      (pss_cons (ps_set (i := 5) nd rfl (Or.inl rfl) (pe_f G.nam hr (by omega) pass0 (pa_cons (pv 0) pa_nil)))
    (pss_cons (ps_set (i := 6) nd rfl (Or.inl rfl) (pe_f G.tok hr (by omega) pass0 (pa_cons (pv 0) (pa_cons (pv 1) (pa_cons (pv 5) pa_nil)))))
    (pss_one (ps_ret (pe_tup (pa_cons pe_str (pa_cons (pv 6) (pa_cons (pe_op op_add (pv 6) (pe_callB call_len_str (by rfl) G.len boot_len (pa_cons (pv 5) pa_nil))) (pa_cons (pv 5) pa_nil))))))))) pss_nil)
    (pss_cons (ps_if (pt_cmpR op_eq (pv 4) pe_int (nomark _))
      (pss_one (ps_ret (pe_f GT.call hr (by omega) pass0 (pa_cons (pv 0) (pa_cons (pv 1) (pa_cons (pv 2) pa_nil)))))) pss_nil)
    (pss_cons (ps_if (pt_cmpR op_eq (pv 4) pe_int (nomark _))
      (pss_one (ps_ret (pe_f GT.reach hr (by omega) pass0 (pa_cons (pv 0) (pa_cons (pv 1) (pa_cons (pv 2) pa_nil)))))) pss_nil)
    (pss_cons (ps_if (lc_w (fun l c => decide (c = 6) && decide (l < 6)) (PW.pt (pw_and (pt_cmpR op_eq (pv 4) pe_int (nomark _)) (pw_and1 (pt_cmpR op_lt (pv 3) pe_int (nomark _))))) ?_)
      (pss_one (ps_ret (pe_f GT.pre hr (by omega) pass0 (pa_cons (pv 0) (pa_cons (pv 1) (pa_cons (pv 2) (pa_cons pe_str (pa_cons pe_str (pa_cons pe_int pa_nil))))))))) pss_nil)
    (pss_cons (ps_if (lc_w (fun l c => decide (c = 7) && decide (l < 3)) (PW.pt (pw_and (pt_cmpR op_eq (pv 4) pe_int (nomark _)) (pw_and1 (pt_cmpR op_lt (pv 3) pe_int (nomark _))))) ?_)
      (pss_one (ps_ret (pe_f GT.pre hr (by omega) pass0 (pa_cons (pv 0) (pa_cons (pv 1) (pa_cons (pv 2) (pa_cons pe_str (pa_cons pe_str (pa_cons pe_int pa_nil))))))))) pss_nil)
    (pss_cons (ps_if (lc_w (fun l c => decide (c < 11) && decide (l < 5)) (PW.pt (pw_and (pt_cmpR op_lt (pv 4) pe_int (nomark _)) (pw_and1 (pt_cmpR op_lt (pv 3) pe_int (nomark _))))) ?_)
      (pss_one (ps_ret (pe_f GT.bin hr (by omega) pass0 (pa_cons (pv 0) (pa_cons (pv 1) (pa_cons (pv 2) (pa_cons (pv 3) pa_nil))))))) pss_nil)
    (pss_cons (ps_set (i := 6) nd rfl (Or.inl rfl) (pe_f G.tok hr (by omega) pass0 (pa_cons (pv 0) (pa_cons (pv 1) (pa_cons pe_str pa_nil)))))
    (pss_cons (ps_set (i := 7) nd rfl (Or.inl rfl) (pe_f GT.tree hr (by omega) pass0 (pa_cons (pv 0) (pa_cons (pv 1) (pa_cons (pe_op op_sub (pv 2) pe_int) (pa_cons pe_int pa_nil))))))
    (pss_cons (ps_set (i := 8) nd rfl (Or.inl rfl) (pe_op op_add (pe_f G.tok hr (by omega) pass0 (pa_cons (pv 0) (pa_cons (pv 1) (pa_cons pe_str pa_nil)))) pe_int))
    (pss_one (ps_ret (pe_tup (pa_cons pe_str (pa_cons (pv 6) (pa_cons (pv 8) (pa_cons (pv 7) pa_nil))))))))))))))))))), ?_⟩
  · rintro σ H Q ⟨x0, x1, x2, l, c, rest, rfl, q⟩
    exact ⟨_, rfl, rfl, _, rfl, ifB _ (fun h => ⟨_, rfl, _, _, rfl, rfl, _, rfl, q_tt (dec_int'.symm.trans h) q⟩) (fun h => q_ff (dec_int'.symm.trans h) q)⟩
  · rintro σ H Q ⟨x0, x1, x2, l, c, rest, rfl, q⟩
    exact ⟨_, rfl, rfl, _, rfl, ifB _ (fun h => ⟨_, rfl, _, _, rfl, rfl, _, rfl, q_tt (dec_int'.symm.trans h) q⟩) (fun h => q_ff (dec_int'.symm.trans h) q)⟩
  · rintro σ H Q ⟨x0, x1, x2, l, c, rest, rfl, q⟩
    exact ⟨_, rfl, rfl, _, rfl, ifB _ (fun h => ⟨_, rfl, _, _, rfl, rfl, _, rfl, q_tt (dec_int'.symm.trans h) q⟩) (fun h => q_ff (dec_int'.symm.trans h) q)⟩
  · rintro σ H Q ⟨x0, x1, x2, l, c, rest, rfl, q⟩
    exact ⟨_, rfl, _, _, rfl, rfl, _, rfl, ifB _ (fun h => ⟨_, rfl, _, _, rfl, rfl, _, rfl, q_tt h q⟩) (fun h => q_ff h q)⟩
  refine ⟨_, rfl, _, _, rfl, rfl, _, rfl, iftt (decide_eq_true (by omega)) ⟨_, rfl, t, 14, rfl, by decide, by decide, hg.1, fun j H1 hj hb1 ht1 => ?_⟩⟩
  have g1 := g0.take hb1 ht1
  refine ⟨_, _, _, _, _, _, rfl, ifB _ (fun h => ?_) (fun h => ?_)⟩
  · have h2 := of_decide_eq_true (Bool.and_eq_true_iff.mp h).2
    refine ⟨_, rfl, _, rfl, _, rfl, _, rfl, t, o, _, _, rfl, ⟨j, rfl, by omega, by omega⟩, hb, g1.at_, fun v H2 g2 hv => ?_⟩
    exact q _ _ (g1.trans g2) hv
  refine ⟨_, rfl, _, _, rfl, rfl, _, rfl, ifB _ (fun h => ?_) (fun h => ?_)⟩
  · refine ⟨_, rfl, _, rfl, _, rfl, t, o, _, _, rfl, ⟨j, rfl⟩, by omega, g1.at_, fun v H2 g2 hv => ?_⟩
    exact q _ _ ((g1.trans g2).mono (by omega)) hv
  refine ⟨_, rfl, _, _, rfl, rfl, _, rfl, ifB _ (fun h => ?_) (fun h => ?_)⟩
  · skip
    refine ⟨_, rfl, t, rfl, g1.at_.1, fun z H2 hz hb2 ht2 => ?_⟩
    have g2 := g1.take hb2 ht2
    refine ⟨_, rfl, _, rfl, _, rfl, t, o, _, _, rfl, ⟨z, rfl, hz⟩, by omega, g2.at_, fun u3 H3 g3 hu3 => ?_⟩
    have g3 := g2.trans g3
    obtain ⟨i, rfl⟩ := hu3
    refine ⟨_, rfl, _, rfl, _, rfl, _, rfl, line_of (by have := hz.2.1; omega), _, _, rfl, rfl, _, rfl, sz (by show 4 ≤ 60; decide), fun p2 hp2 => ?_⟩
    exact q _ _ ((g3.new hp2 _).mono (by omega)) ⟨p2, _, _, _, _, rfl, upd_same⟩
  refine ⟨_, rfl, rfl, _, rfl, ifB _ (fun h => ?_) (fun h => ?_)⟩
  · refine ⟨_, rfl, _, rfl, _, rfl, t, o, _, _, rfl, rfl, hb, g1.at_, fun v H2 g2 hv => ?_⟩
    exact q _ _ (g1.trans g2) hv
  refine ⟨_, rfl, rfl, _, rfl, ifB _ (fun h => ?_) (fun h => ?_)⟩
  · refine ⟨_, rfl, _, rfl, _, rfl, t, o, _, _, rfl, rfl, hb, g1.at_, fun v H2 g2 hv => ?_⟩
    exact q _ _ (g1.trans g2) hv
  refine ⟨_, _, _, _, _, _, rfl, ifB _ (fun h => ?_) (fun h => ?_)⟩
  · refine ⟨_, rfl, _, rfl, _, rfl, t, o, _, _, rfl, ⟨_, _, 5, rfl, wd_in, by decide⟩, hb, g1.at_, fun v H2 g2 hv => ?_⟩
    exact q _ _ (g1.trans g2) hv
  refine ⟨_, _, _, _, _, _, rfl, ifB _ (fun h => ?_) (fun h => ?_)⟩
  · refine ⟨_, rfl, _, rfl, _, rfl, t, o, _, _, rfl, ⟨_, _, 2, rfl, wd_in, by decide⟩, hb, g1.at_, fun v H2 g2 hv => ?_⟩
    exact q _ _ (g1.trans g2) hv
  refine ⟨_, _, _, _, _, _, rfl, ifB _ (fun h => ?_) (fun h => ?_)⟩
  · have h2 := of_decide_eq_true (Bool.and_eq_true_iff.mp h).2
    refine ⟨_, rfl, _, rfl, _, rfl, _, rfl, t, o, _, _, rfl, ⟨l, rfl, by omega⟩, hb, g1.at_, fun v H2 g2 hv => ?_⟩
    exact q _ _ (g1.trans g2) hv
  rw [e1] at hb q
  refine ⟨_, rfl, _, rfl, t, o, _, _, rfl, ⟨_, rfl, wd_in⟩, by omega, g1.at_, fun u2 H2 g2 hu2 => ?_⟩
  have g2 := g1.trans g2
  refine ⟨_, rfl, _, rfl, _, rfl, _, _, rfl, rfl, t, o, _, _, rfl, aT d 0 (by omega) _, by omega, g2.at_, fun u3 H3 g3 hu3 => ?_⟩
  have g3 := g2.trans g3
  refine ⟨_, rfl, _, rfl, t, o, _, _, rfl, ⟨_, rfl, wd_in⟩, by omega, g3.at_, fun u4 H4 g4 hu4 => ?_⟩
  have g4 := g3.trans g4
  obtain ⟨i, rfl⟩ := hu4
  refine ⟨_, _, rfl, rfl, _, rfl, _, rfl, _, rfl, sz (by show 4 ≤ 60; decide), fun p2 hp2 => ?_⟩
  exact q _ _ ((g4.new hp2 _).mono (by omega)) ⟨p2, _, _, _, _, rfl, upd_same⟩
end
end K10
/-! list, brackets. -/
namespace K10
open PySem PySem.Spec PyProof.Rows L2
/-- a comma, from the second on -/
def tComma : TS := fun D σ H => ∃ (t : Tp) (o : Addr) (b : Nat) (x2 x3 x4 : Option V) (k : Int) (rest : List (Option V)), σ = some (.ref t.1) :: some (.ref o) :: x2 :: x3 :: x4 :: some (.int k) :: rest ∧ GenAt H t o b ∧ b + 1 ≤ 1000 ∧ ∀ H', Gn t o H H' (b + 1) → D.nx σ H'
theorem comma_w {X : Cx} {st : Stmt} {t : TS} (h : PS X st t) (f : ∀ D σ H, tComma D σ H → t D σ H) : PS X st tComma := ps_w h f
/-- a second mark, perhaps -/
def tOth : TS := fun D σ H => ∃ (t : Tp) (o : Addr) (b : Nat) (x2 x4 x5 x6 : Option V) (c : Int), σ = [some (.ref t.1), some (.ref o), x2, some (.int c), x4, x5, x6, some .non] ∧ GenAt H t o b ∧ b + 2 ≤ 1000 ∧
  ∀ v H', Gn t o H H' (b + 2) → D.nx [some (.ref t.1), some (.ref o), x2, some (.int c), x4, x5, x6, some v] H'
theorem oth_w {X : Cx} {st : Stmt} {t : TS} (h : PS X st t) (f : ∀ D σ H, tOth D σ H → t D σ H) : PS X st tOth := ps_w h f
/-- a test that may draw -/
def tMayT : TT := fun σ H Q => ∃ (t : Tp) (x1 x2 : Option V) (c : Int) (rest : List (Option V)), σ = some (.ref t.1) :: x1 :: x2 :: some (.int c) :: rest ∧ TapeAt H t ∧ ∀ b H', But t.1 H H' → TapeAt H' t → Q b H'
theorem mayT_w {X : Cx} {e : Expr} {t : TT} (h : PT X e t) (f : ∀ σ H Q, tMayT σ H Q → t σ H Q) : PT X e tMayT := pt_w h f
section
variable {P : Program} {w : World} {K : PySem.W.Frag} {mg : Str → Option Value} {base : Heap}
abbrev CMark (P : Program) (w : World) (K : PySem.W.Frag) (mg : Str → Option Value) (base : Heap) : Prop := Cl P w K mg base CX0 4 "_law_mark" ["_law_tape_here", "_law_out"] (spGen 1 aNo rAny)
def aList : List V → Hp → Prop := fun r _ => ∃ (m c : Nat), r = [.int (m : Int), .int (c : Int)] ∧ m ≤ 3
theorem ok_g_list (G : Gk P w K mg base) (GM : CMark P w K mg base) {f : Addr} {fd : FuncData} (F : FnP K "_law_list" s_g_list f fd) : FnOk P w K mg base CX0 5 f fd ["_law_tape_here", "_law_out", "_law_many", "_law_colon"] (spGen 12 aList rAny) := by
  refine F.ok c_g_list (fun vs H Q E h => ?_) (fun cdv A outer s H vs Q E hr h => ?_)
  · obtain ⟨_, _, _, _, rfl, ⟨_, _, rfl, _⟩, _⟩ := h
    rfl
  obtain ⟨t, o, b, _, rfl, ⟨m, c, rfl, hm⟩, hb, hg, q⟩ := h
  have nd := c_g_list.nd
  have g0 := Gn.refl hg
  refine ⟨_, PSs.nox (pss_cons (ps_set (i := 4) nd rfl (Or.inl rfl) (pe_lst pa_nil))
    (pss_cons (ps_for PassesOwn.never rfl (pi_range1 (by rfl) G.range (pa_cons (pv 2) pa_nil)) (pg_name (i := 5) nd rfl (Or.inl rfl))
      (pss_cons (comma_w (ps_if (pt_cmpR op_gt (pv 5) pe_int (nomark _))
      (pss_one (ps_expr (pe_f G.tok hr (by omega) pass0 (pa_cons (pv 0) (pa_cons (pv 1) (pa_cons pe_str pa_nil)))))) pss_nil) ?_)
    (pss_cons (ps_set (i := 6) nd rfl (Or.inl rfl) (pe_f GM hr (by omega) pass0 (pa_cons (pv 0) (pa_cons (pv 1) pa_nil))))
    (pss_cons (ps_set (i := 7) nd rfl (Or.inl rfl) pe_non)
    (pss_cons (oth_w (ps_if (mayT_w (PW.pt (pw_or (pt_cmpR op_eq (pv 3) pe_int (nomark _)) (pw_or1 (PW.pt (pw_and (pt_cmpR op_eq (pv 3) pe_int (nomark _)) (pw_and1 (pt_cmpR op_eq (pe_f G.take hr (by omega) pass0 (pa_cons (pv 0) (pa_cons pe_int pa_nil))) pe_int (nomark _)))))))) ?_)
      (pss_cons (ps_expr (pe_f G.tok hr (by omega) pass0 (pa_cons (pv 0) (pa_cons (pv 1) (pa_cons pe_str pa_nil)))))
    (pss_one (ps_set (i := 7) nd rfl (Or.inl rfl) (pe_f GM hr (by omega) pass0 (pa_cons (pv 0) (pa_cons (pv 1) pa_nil)))))) pss_nil) ?_)
    (pss_one (ps_expr (pe_bm PySem.F.plainAttrs_list PySem.F.slot_list_append PySem.F.type_list_append mt_append (pv 4) (pa_cons (pe_ifExp (pt_cmpR op_gt (pv 3) pe_int (nomark _)) (pe_tup (pa_cons (pv 6) (pa_cons (pv 7) pa_nil))) (pv 6)) pa_nil)))))))))
    (pss_one (ps_ret (pe_callTy call_tuple_of (by rfl) G.tuple (by decide +kernel) (pa_cons (pv 4) pa_nil)))))), ?_⟩
  · rintro D σ H ⟨t, o, b, x2, x3, x4, k, rest, rfl, hg, hb, q⟩
    refine ⟨_, rfl, _, _, rfl, rfl, _, rfl, ifB _ (fun _ => ?_) (fun _ => q _ ((Gn.refl hg).mono (by omega)))⟩
    exact ⟨_, rfl, _, rfl, t, o, _, _, rfl, ⟨_, rfl, wd_in⟩, hb, hg, fun v H' g _ => q _ g⟩
  · rintro σ H Q ⟨t, x1, x2, c, rest, rfl, ht, q⟩
    refine ⟨_, rfl, rfl, _, rfl, ifB _ (fun _ => q _ _ (But.refl _ _) ht) (fun _ => ⟨_, rfl, rfl, _, rfl, ifB _ (fun _ => ?_) (fun _ => q _ _ (But.refl _ _) ht)⟩)⟩
    exact ⟨_, rfl, t, 2, rfl, by decide, by decide, ht, fun k H' _ hb ht' => ⟨rfl, _, rfl, q _ _ hb ht'⟩⟩
  · rintro D σ H ⟨t, o, b, x2, x4, x5, x6, c, rfl, hg, hb, q⟩
    refine ⟨t, _, _, _, _, rfl, hg.1, fun j H1 hb1 ht1 => ?_⟩
    have g1 := (Gn.refl hg).take hb1 ht1
    refine ifB _ (fun _ => ?_) (fun _ => q _ _ (g1.mono (by omega)))
    refine ⟨_, rfl, _, rfl, t, o, _, _, rfl, ⟨_, rfl, wd_in⟩, by omega, g1.at_, fun v H2 g2 _ => ?_⟩
    have g2 := g1.trans g2
    exact ⟨_, rfl, _, rfl, t, o, _, _, rfl, rfl, by omega, g2.at_, fun v H3 g3 _ => q _ _ (g2.trans g3)⟩
  refine ⟨sz (by show 0 ≤ 60; decide), fun p hp => ⟨_, rfl, (m : Int), rfl, by omega, by omega, ?_⟩⟩
  have g1 := g0.new hp (.lst [])
  refine for_range (n := m) (fun n σ H' => n ≤ m ∧ ∃ (x y z : Option V) (ys : List V), σ = [some (.ref t.1), some (.ref o), some (.int (m : Int)), some (.int (c : Int)), some (.ref p), x, y, z] ∧ Gn t o H H' (b + n * 4) ∧ H' p = some (.lst ys) ∧ ys.length = n) ⟨Nat.zero_le _, none, none, none, [], rfl, by rw [Nat.zero_mul]; exact g1, upd_same, rfl⟩ ?_ ?_
  · rintro n σ H2 hn ⟨_, x, y, z, ys, rfl, g2, hp2, hy⟩
    refine ⟨t, o, _, _, _, _, _, _, rfl, g2.at_, by omega, fun H3 g3 => ?_⟩
    have hp3 := g2.at_.stay g3.kp hp2
    have g3 := g2.trans g3
    refine ⟨_, rfl, _, rfl, t, o, _, _, rfl, rfl, by omega, g3.at_, fun v H4 g4 _ => ?_⟩
    have hp4 := g3.at_.stay g4.kp hp3
    have g4 := g3.trans g4
    refine ⟨t, o, _, _, _, _, _, _, rfl, g4.at_, by omega, fun v2 H5 g5 => ?_⟩
    have hp5 := g4.at_.stay g5.kp hp4
    have g5 := g4.trans g5
    have fin : ∀ (H6 : Hp) (u : V), Gn t o H H6 (b + n * 4 + 1 + 1 + 2) → H6 p = some (.lst ys) → Gn t o H (upd H6 p (.lst (ys ++ [u]))) (b + (n + 1) * 4) := fun H6 u g6 hp6 => (g6.mut hg.1 hp hp6 (by intro z e; cases e) _).mono (by omega)
    refine ⟨_, rfl, Or.inl ⟨rfl, _, SqL.of hp5⟩, _, rfl, _, _, rfl, rfl, _, rfl, ifB _ (fun _ => ?_) (fun _ => ?_)⟩
    · refine ⟨_, rfl, _, rfl, sz (by show 2 ≤ 60; decide), fun p7 hp7 => ?_⟩
      have hp6 := same_new (Same.refl _) hp7 (.tup [v, v2]) _ _ hp5
      exact ⟨p, ys, _, rfl, rfl, hp6, (by rw [hy]; exact Nat.lt_of_lt_of_le (by omega) (line_of (n := 1000) (by omega))), hn, _, _, _, _, rfl, fin _ _ (g5.new hp7 _) hp6, upd_same, (by rw [List.length_append, hy]; rfl)⟩
    · exact ⟨_, rfl, p, ys, _, rfl, rfl, hp5, (by rw [hy]; exact Nat.lt_of_lt_of_le (by omega) (line_of (n := 1000) (by omega))), hn, _, _, _, _, rfl, fin _ _ g5 hp5, upd_same, (by rw [List.length_append, hy]; rfl)⟩
  · rintro σ H2 ⟨_, x, y, z, ys, rfl, g2, hp2, hy⟩
    exact ⟨_, rfl, p, ys, rfl, .inl ⟨SqL.of hp2, fun l hl => q _ _ ((g2.new hl _).mono (by omega)) True.intro⟩⟩
end
end K10
/-! brackets, def, item. -/
namespace K10
open PySem PySem.Spec PyProof.Rows L2
/-- a statement that may write n tokens and set the slot i -/
def tGo (n i : Nat) (ok : L2.St → Prop) : TS := fun D σ H => ∃ (t : Tp) (o : Addr) (b : Nat) (rest : L2.St), σ = some (.ref t.1) :: some (.ref o) :: rest ∧ ok rest ∧ GenAt H t o b ∧ b + n ≤ 1000 ∧ (∀ H', Gn t o H H' (b + n) → D.nx σ H') ∧ ∀ v H', Gn t o H H' (b + n) → D.nx (σ.set i (some v)) H'
theorem go_w {X : Cx} {st : Stmt} {t : TS} (n i : Nat) (ok : L2.St → Prop) (h : PS X st t) (f : ∀ D σ H, tGo n i ok D σ H → t D σ H) : PS X st (tGo n i ok) := ps_w h f
def vPair : V → Hp → Prop := fun v H => ∃ p x y, v = .ref p ∧ H p = some (.tup [x, y])
section
variable {P : Program} {w : World} {K : PySem.W.Frag} {mg : Str → Option Value} {base : Heap}
abbrev CList (P : Program) (w : World) (K : PySem.W.Frag) (mg : Str → Option Value) (base : Heap) : Prop := Cl P w K mg base CX0 5 "_law_list" ["_law_tape_here", "_law_out", "_law_many", "_law_colon"] (spGen 12 aList rAny)
def aBr : List V → Hp → Prop := fun r _ => ∃ c : Bool, r = [.bl c]
theorem ok_g_brackets (G : Gk P w K mg base) (GM : CMark P w K mg base) (GL : CList P w K mg base) {f : Addr} {fd : FuncData} (F : FnP K "_law_brackets" s_g_brackets f fd) : FnOk P w K mg base CX0 6 f fd ["_law_tape_here", "_law_out", "_law_first"] (spGen 16 aBr vPair) := by
  refine F.ok c_g_brackets (fun vs H Q E h => ?_) (fun cdv A outer s H vs Q E hr h => ?_)
  · obtain ⟨_, _, _, _, rfl, ⟨_, rfl⟩, _⟩ := h
    rfl
  obtain ⟨t, o, b, _, rfl, ⟨c, rfl⟩, hb, hg, q⟩ := h
  have nd := c_g_brackets.nd
  have g0 := Gn.refl hg
  refine ⟨_, PSs.nox (pss_cons (ps_expr (pe_f G.tok hr (by omega) pass0 (pa_cons (pv 0) (pa_cons (pv 1) (pa_cons pe_str pa_nil)))))
    (pss_cons (ps_set (i := 3) nd rfl (Or.inl rfl) (pe_tup pa_nil))
    (pss_cons (ps_set (i := 4) nd rfl (Or.inl rfl) pe_non)
    (pss_cons (go_w 1 4 (fun r => ∃ (c : Bool) (x3 x4 x5 : Option V), r = [some (.bl c), x3, x4, x5]) (ps_if (pt_truth (pv 2) (by intro _; rfl))
      (pss_one (ps_set (i := 4) nd rfl (Or.inl rfl) (pe_f GM hr (by omega) pass0 (pa_cons (pv 0) (pa_cons (pv 1) pa_nil))))) pss_nil) ?_)
    (pss_cons (ps_set (i := 5) nd rfl (Or.inl rfl) (pe_f G.take hr (by omega) pass0 (pa_cons (pv 0) (pa_cons pe_int pa_nil))))
    (pss_cons (go_w 13 3 (fun r => ∃ (c : Bool) (x3 x4 : Option V) (k : Nat), r = [some (.bl c), x3, x4, some (.int (k : Int))] ∧ k ≤ 3) (ps_if (pt_cmpR op_gt (pv 5) pe_int (nomark _))
      (pss_cons (ps_if (pt_truth (pv 2) (by intro _; rfl))
      (pss_one (ps_expr (pe_f G.tok hr (by omega) pass0 (pa_cons (pv 0) (pa_cons (pv 1) (pa_cons pe_str pa_nil)))))) pss_nil)
    (pss_one (ps_set (i := 3) nd rfl (Or.inl rfl) (pe_f GL hr (by omega) pass0 (pa_cons (pv 0) (pa_cons (pv 1) (pa_cons (pv 5) (pa_cons pe_int pa_nil)))))))) pss_nil) ?_)
    (pss_cons (ps_expr (pe_f G.tok hr (by omega) pass0 (pa_cons (pv 0) (pa_cons (pv 1) (pa_cons pe_str pa_nil)))))
    (pss_one (ps_ret (pe_tup (pa_cons (pv 4) (pa_cons (pv 3) pa_nil)))))))))))), ?_⟩
  · rintro D σ H ⟨t, o, b, _, rfl, ⟨c, x3, x4, x5, rfl⟩, hg, hb, q1, q2⟩
    refine ⟨_, rfl, c, rfl, ifB _ (fun _ => ?_) (fun _ => q1 _ ((Gn.refl hg).mono (by omega)))⟩
    exact ⟨_, rfl, _, rfl, t, o, _, _, rfl, rfl, hb, hg, fun v H' g _ => q2 v H' g⟩
  · rintro D σ H ⟨t, o, b, _, rfl, ⟨c, x3, x4, k, rfl, hk⟩, hg, hb, q1, q2⟩
    refine ⟨_, rfl, _, _, rfl, rfl, _, rfl, ifB _ (fun _ => ?_) (fun _ => q1 _ ((Gn.refl hg).mono (by omega)))⟩
    refine ⟨_, rfl, c, rfl, ifB _ (fun _ => ?_) (fun _ => ?_)⟩
    · refine ⟨_, rfl, _, rfl, t, o, _, _, rfl, ⟨_, rfl, wd_in⟩, by omega, hg, fun v H1 g1 _ => ?_⟩
      exact ⟨_, rfl, _, rfl, _, rfl, t, o, _, _, rfl, ⟨k, 2, rfl, hk⟩, by omega, g1.at_, fun v H' g _ => q2 v H' ((g1.trans g).mono (by omega))⟩
    · exact ⟨_, rfl, _, rfl, _, rfl, t, o, _, _, rfl, ⟨k, 2, rfl, hk⟩, by omega, hg, fun v H' g _ => q2 v H' (g.mono (by omega))⟩
  refine ⟨_, rfl, _, rfl, t, o, _, _, rfl, ⟨_, rfl, wd_in⟩, by omega, hg, fun v H1 g1 _ => ?_⟩
  refine ⟨sz (by show 0 ≤ 60; decide), fun p hp => ?_⟩
  have g1 := g1.new hp (.tup [])
  refine ⟨t, o, _, _, rfl, ⟨c, _, _, _, rfl⟩, g1.at_, by omega, fun H2 g2 => ?_, fun m H2 g2 => ?_⟩
  · have g2 := g1.trans g2
    refine ⟨_, rfl, t, 4, rfl, by decide, by decide, g2.at_.1, fun k H3 hk hb3 ht3 => ?_⟩
    have g3 := g2.take hb3 ht3
    refine ⟨t, o, _, _, rfl, ⟨c, _, _, k, rfl, by omega⟩, g3.at_, by omega, fun H4 g4 => ?_, fun r H4 g4 => ?_⟩
    all_goals
      have g4 := g3.trans g4
      refine ⟨_, rfl, _, rfl, t, o, _, _, rfl, ⟨_, rfl, wd_in⟩, by omega, g4.at_, fun v H5 g5 _ => ?_⟩
      refine ⟨_, rfl, _, rfl, sz (by show 2 ≤ 60; decide), fun p2 hp2 => ?_⟩
      exact q _ _ (((g4.trans g5).new hp2 _).mono (by omega)) ⟨p2, _, _, rfl, upd_same⟩
  · have g2 := g1.trans g2
    refine ⟨_, rfl, t, 4, rfl, by decide, by decide, g2.at_.1, fun k H3 hk hb3 ht3 => ?_⟩
    have g3 := g2.take hb3 ht3
    refine ⟨t, o, _, _, rfl, ⟨c, _, _, k, rfl, by omega⟩, g3.at_, by omega, fun H4 g4 => ?_, fun r H4 g4 => ?_⟩
    all_goals
      have g4 := g3.trans g4
      refine ⟨_, rfl, _, rfl, t, o, _, _, rfl, ⟨_, rfl, wd_in⟩, by omega, g4.at_, fun v H5 g5 _ => ?_⟩
      refine ⟨_, rfl, _, rfl, sz (by show 2 ≤ 60; decide), fun p2 hp2 => ?_⟩
      exact q _ _ (((g4.trans g5).new hp2 _).mono (by omega)) ⟨p2, _, _, rfl, upd_same⟩
abbrev CBr (P : Program) (w : World) (K : PySem.W.Frag) (mg : Str → Option Value) (base : Heap) : Prop := Cl P w K mg base CX0 6 "_law_brackets" ["_law_tape_here", "_law_out", "_law_first"] (spGen 16 aBr vPair)
theorem ok_g_def (G : Gk P w K mg base) (GM : CMark P w K mg base) (GL : CList P w K mg base) (GB : CBr P w K mg base) {k : Nat} (GT : CTree P w K mg base k 2) (hk : 6 ≤ k) {f : Addr} {fd : FuncData} (F : FnP K "_law_def" s_g_def f fd) : FnOk P w K mg base CX0 (k + 1) f fd ["_law_tape_here", "_law_out"] (spGen 67 aNo rAny) := by
  refine F.ok c_g_def (fun vs H Q E h => ?_) (fun cdv A outer s H vs Q E hr h => ?_)
  · obtain ⟨_, _, _, _, rfl, rfl, _⟩ := h
    rfl
  obtain ⟨t, o, b, _, rfl, rfl, hb, hg, q⟩ := h
  have nd := c_g_def.nd
  have e2 : tn 2 = 33 := rfl
  refine ⟨_, PSs.nox (pss_cons (ps_set (i := 2) nd rfl (Or.inl rfl) (pe_f GM hr (by omega) pass0 (pa_cons (pv 0) (pa_cons (pv 1) pa_nil))))
    (pss_cons (ps_set (i := 3) nd rfl (Or.inl rfl) (pe_tup pa_nil))
    (pss_cons (go_w 14 3 (fun r => ∃ (x2 x3 x4 x5 : Option V), r = [x2, x3, x4, x5]) (ps_if (pt_cmpR op_eq (pe_f G.take hr (by omega) pass0 (pa_cons (pv 0) (pa_cons pe_int pa_nil))) pe_int (nomark _))
      (pss_cons (ps_expr (pe_f G.tok hr (by omega) pass0 (pa_cons (pv 0) (pa_cons (pv 1) (pa_cons pe_str pa_nil)))))
    (pss_cons (ps_set (i := 3) nd rfl (Or.inl rfl) (pe_f GL hr (by omega) pass0 (pa_cons (pv 0) (pa_cons (pv 1) (pa_cons (pe_op op_addT pe_int (pe_f G.take hr (by omega) pass0 (pa_cons (pv 0) (pa_cons pe_int pa_nil)))) (pa_cons pe_int pa_nil))))))
    (pss_one (ps_expr (pe_f G.tok hr (by omega) pass0 (pa_cons (pv 0) (pa_cons (pv 1) (pa_cons pe_str pa_nil)))))))) pss_nil) ?_)
    (pss_cons (ps_set (i := 4) nd rfl (Or.inl rfl) (pe_ix ix_tup (pe_f GB hr (by omega) pass0 (pa_cons (pv 0) (pa_cons (pv 1) (pa_cons pe_bl pa_nil)))) pe_int (fun _ _ => rfl)))
    (pss_cons (ps_set (i := 5) nd rfl (Or.inl rfl) pe_non)
    (pss_cons (go_w 2 5 (fun r => ∃ (x2 x3 x4 x5 : Option V), r = [x2, x3, x4, x5]) (ps_if (pt_cmpR op_eq (pe_f G.take hr (by omega) pass0 (pa_cons (pv 0) (pa_cons pe_int pa_nil))) pe_int (nomark _))
      (pss_cons (ps_expr (pe_f G.tok hr (by omega) pass0 (pa_cons (pv 0) (pa_cons (pv 1) (pa_cons pe_str pa_nil)))))
    (pss_one (ps_set (i := 5) nd rfl (Or.inl rfl) (pe_f GM hr (by omega) pass0 (pa_cons (pv 0) (pa_cons (pv 1) pa_nil)))))) pss_nil) ?_)
    (pss_cons (ps_expr (pe_f G.tok hr (by omega) pass0 (pa_cons (pv 0) (pa_cons (pv 1) (pa_cons pe_str pa_nil)))))
    (pss_one (ps_ret (pe_tup (pa_cons pe_str (pa_cons (pv 2) (pa_cons (pv 3) (pa_cons (pv 4) (pa_cons (pv 5) (pa_cons (pe_f GT hr (by omega) pass0 (pa_cons (pv 0) (pa_cons (pv 1) (pa_cons pe_int (pa_cons pe_int pa_nil))))) pa_nil)))))))))))))))), ?_⟩
  · rintro D σ H ⟨t, o, b, _, rfl, ⟨x2, x3, x4, x5, rfl⟩, hg, hb, q1, q2⟩
    refine ⟨_, rfl, t, 2, rfl, by decide, by decide, hg.1, fun j H1 hj hb1 ht1 => ⟨rfl, _, rfl, ?_⟩⟩
    have g1 := (Gn.refl hg).take hb1 ht1
    refine ifB _ (fun _ => ?_) (fun _ => q1 _ (g1.mono (by omega)))
    refine ⟨_, rfl, _, rfl, t, o, _, _, rfl, ⟨_, rfl, wd_in⟩, by omega, g1.at_, fun v H2 g2 _ => ?_⟩
    have g2 := g1.trans g2
    refine ⟨_, rfl, _, rfl, _, rfl, t, 3, rfl, by decide, by decide, g2.at_.1, fun j H3 hj hb3 ht3 => ⟨1, j, rfl, rfl, ?_⟩⟩
    have g3 := g2.take hb3 ht3
    refine ⟨t, o, _, _, rfl, ⟨1 + j, 1, rfl, by omega⟩, by omega, g3.at_, fun v H4 g4 _ => ?_⟩
    have g4 := g3.trans g4
    exact ⟨_, rfl, _, rfl, t, o, _, _, rfl, ⟨_, rfl, wd_in⟩, by omega, g4.at_, fun v2 H5 g5 _ => q2 v H5 (g4.trans g5)⟩
  · rintro D σ H ⟨t, o, b, _, rfl, ⟨x2, x3, x4, x5, rfl⟩, hg, hb, q1, q2⟩
    refine ⟨_, rfl, t, 2, rfl, by decide, by decide, hg.1, fun j H1 hj hb1 ht1 => ⟨rfl, _, rfl, ?_⟩⟩
    have g1 := (Gn.refl hg).take hb1 ht1
    refine ifB _ (fun _ => ?_) (fun _ => q1 _ (g1.mono (by omega)))
    refine ⟨_, rfl, _, rfl, t, o, _, _, rfl, ⟨_, rfl, wd_in⟩, by omega, g1.at_, fun v H2 g2 _ => ?_⟩
    have g2 := g1.trans g2
    exact ⟨_, rfl, _, rfl, t, o, _, _, rfl, rfl, by omega, g2.at_, fun v2 H5 g5 _ => q2 v2 H5 (g2.trans g5)⟩
  refine ⟨_, rfl, _, rfl, t, o, _, _, rfl, rfl, by omega, hg, fun m H1 g1 _ => ?_⟩
  refine ⟨sz (by show 0 ≤ 60; decide), fun p hp => ?_⟩
  have g1 := g1.new hp (.tup [])
  refine ⟨t, o, _, _, rfl, ⟨_, _, _, _, rfl⟩, g1.at_, by omega, fun H2 g2 => ?_, fun m2 H2 g2 => ?_⟩
  all_goals
    have g2 := g1.trans g2
    refine ⟨_, rfl, _, rfl, t, o, _, _, rfl, ⟨false, rfl⟩, by omega, g2.at_, fun v H3 g3 hv => ?_⟩
    obtain ⟨p3, x, y, rfl, hp3⟩ := hv
    have g3 := g2.trans g3
    refine ⟨p3, _, 1, _, rfl, rfl, SqT.of hp3, atI_nat (j := 1) rfl, ?_⟩
    refine ⟨t, o, _, _, rfl, ⟨_, _, _, _, rfl⟩, g3.at_, by omega, fun H4 g4 => ?_, fun m4 H4 g4 => ?_⟩
    all_goals
      have g4 := g3.trans g4
      refine ⟨_, rfl, _, rfl, t, o, _, _, rfl, ⟨_, rfl, wd_in⟩, by omega, g4.at_, fun v H5 g5 _ => ?_⟩
      have g5 := g4.trans g5
      refine ⟨_, rfl, _, rfl, _, rfl, _, rfl, _, rfl, _, rfl, t, o, _, _, rfl, ⟨0, rfl, by decide⟩, by omega, g5.at_, fun v H6 g6 _ => ⟨sz (by show 6 ≤ 60; decide), fun p7 hp7 => ?_⟩⟩
      exact q _ _ (((g5.trans g6).new hp7 _).mono (by omega)) True.intro
end
end K10
/-! item. -/
namespace K10
open PySem PySem.Spec PyProof.Rows L2
def itemS : List Str := [S "import", S "data", S "trait", S "impl", S "def"]
theorem items_ok : ∀ z ∈ itemS, Wd z := by decide +kernel
section
variable {P : Program} {w : World} {K : PySem.W.Frag} {mg : Str → Option Value} {base : Heap}
def spItemG : Sp := fun vs H Q _ => ∃ (t : Tp) (o : Addr) (b : Nat), vs = [.ref t.1, .ref o] ∧ b + 68 ≤ 1000 ∧ GenAt H t o b ∧ ∀ v H', Gn t o H H' (b + 68) → TxNe o H' → Q v H'
theorem ok_g_item (G : Gk P w K mg base) (GM : CMark P w K mg base) (GL : CList P w K mg base) (GB : CBr P w K mg base) {k : Nat} (GT : CTree P w K mg base k 2) (hk : 6 ≤ k) (GD : Cl P w K mg base CX0 (k + 1) "_law_def" ["_law_tape_here", "_law_out"] (spGen 67 aNo rAny)) (GN : Cl P w K mg base CX0 3 "_law_token_out" ["_law_tape_here", "_law_out", "_law_string"] spTokNe) {f : Addr} {fd : FuncData} (F : FnP K "_law_item" s_g_item f fd) : FnOk P w K mg base CX0 (k + 2) f fd ["_law_tape_here", "_law_out"] spItemG := by
  refine F.ok c_g_item (fun vs H Q E h => ?_) (fun cdv A outer s H vs Q E hr h => ?_)
  · obtain ⟨_, _, _, rfl, _⟩ := h
    rfl
  obtain ⟨t, o, b, rfl, hb, hg, q⟩ := h
  have nd := c_g_item.nd
  have e2 : tn 2 = 33 := rfl
  have g0 := Gn.refl hg
  refine ⟨_, PSs.nox (pss_cons (ps_set (i := 2) nd rfl (Or.inl rfl) (pe_ix ix_list (pe_lst (pa_cons pe_str (pa_cons pe_str (pa_cons pe_str (pa_cons pe_str (pa_cons pe_str pa_nil)))))) (pe_f G.take hr (by omega) pass0 (pa_cons (pv 0) (pa_cons pe_int pa_nil))) (fun _ _ => rfl)))
    (pss_cons (ps_expr (pe_f GN hr (by omega) pass0 (pa_cons (pv 0) (pa_cons (pv 1) (pa_cons (pv 2) pa_nil)))))
    (pss_cons (ps_if (pt_cmpR op_eq (pv 2) pe_str (nomark _))
      (pss_one (ps_ret (pe_f GD hr (by omega) pass0 (pa_cons (pv 0) (pa_cons (pv 1) pa_nil))))) pss_nil)
    (pss_cons (ps_set (i := 3) nd rfl (Or.inl rfl) (pe_f GM hr (by omega) pass0 (pa_cons (pv 0) (pa_cons (pv 1) pa_nil))))
    (pss_cons (ps_if (pt_cmpR op_eq (pv 2) pe_str (nomark _))
      (pss_cons (ps_expr (pe_f G.tok hr (by omega) pass0 (pa_cons (pv 0) (pa_cons (pv 1) (pa_cons pe_str pa_nil)))))
    (pss_one (ps_ret (pe_tup (pa_cons (pv 2) (pa_cons (pv 3) (pa_cons (pe_f GL hr (by omega) pass0 (pa_cons (pv 0) (pa_cons (pv 1) (pa_cons (pe_op op_addT pe_int (pe_f G.take hr (by omega) pass0 (pa_cons (pv 0) (pa_cons pe_int pa_nil)))) (pa_cons pe_int pa_nil))))) pa_nil))))))) pss_nil)
    (pss_cons (ps_if (pt_cmpR op_eq (pv 2) pe_str (nomark _))
      (pss_one (ps_ret (pe_tup (pa_cons (pv 2) (pa_cons (pv 3) (pa_cons (pe_ix ix_tup (pe_f GB hr (by omega) pass0 (pa_cons (pv 0) (pa_cons (pv 1) (pa_cons pe_bl pa_nil)))) pe_int (fun _ _ => rfl)) pa_nil)))))) pss_nil)
    (pss_cons (ps_if (pt_cmpR op_eq (pv 2) pe_str (nomark _))
      (pss_cons (ps_expr (pe_f G.tok hr (by omega) pass0 (pa_cons (pv 0) (pa_cons (pv 1) (pa_cons pe_str pa_nil)))))
    (pss_cons (ps_set (i := 4) nd rfl (Or.inl rfl) (pe_f GM hr (by omega) pass0 (pa_cons (pv 0) (pa_cons (pv 1) pa_nil))))
    (pss_cons (ps_expr (pe_f G.tok hr (by omega) pass0 (pa_cons (pv 0) (pa_cons (pv 1) (pa_cons pe_str pa_nil)))))
    (pss_one (ps_ret (pe_tup (pa_cons (pv 2) (pa_cons (pv 3) (pa_cons (pv 4) (pa_cons (pe_f GT hr (by omega) pass0 (pa_cons (pv 0) (pa_cons (pv 1) (pa_cons pe_int (pa_cons pe_int pa_nil))))) pa_nil)))))))))) pss_nil)
    (pss_cons (ps_expr (pe_f G.tok hr (by omega) pass0 (pa_cons (pv 0) (pa_cons (pv 1) (pa_cons pe_str pa_nil)))))
    (pss_cons (ps_set (i := 5) nd rfl (Or.inl rfl) (pe_f GM hr (by omega) pass0 (pa_cons (pv 0) (pa_cons (pv 1) pa_nil))))
    (pss_cons (ps_asg (pe_f GB hr (by omega) pass0 (pa_cons (pv 0) (pa_cons (pv 1) (pa_cons pe_bl pa_nil)))) (pg_tup (n := 2) rfl (pgs_cons (pg_name (i := 6) nd rfl (Or.inl rfl)) (pgs_cons (pg_name (i := 7) nd rfl (Or.inl rfl)) pgs_nil))))
    (pss_cons (ps_expr (pe_f G.tok hr (by omega) pass0 (pa_cons (pv 0) (pa_cons (pv 1) (pa_cons pe_str pa_nil)))))
    (pss_one (ps_ret (pe_tup (pa_cons (pv 2) (pa_cons (pv 3) (pa_cons (pv 5) (pa_cons (pv 6) (pa_cons (pv 7) (pa_cons (pe_f GM hr (by omega) pass0 (pa_cons (pv 0) (pa_cons (pv 1) pa_nil))) pa_nil)))))))))))))))))))), ?_⟩
  refine ⟨sz (by show 5 ≤ 60; decide), fun p hp => ?_⟩
  have g1 := g0.new hp (.lst (itemS.map V.str))
  refine ⟨_, rfl, t, 5, rfl, by decide, by decide, g1.at_.1, fun j H2 hj hb2 ht2 => ?_⟩
  obtain ⟨x, hx, ex⟩ := str_at (zs := itemS) (k := j) hj
  have g2 := g1.take hb2 ht2
  refine ⟨p, _, _, _, rfl, rfl, SqL.of (hb2 p _ (off_tape hg.1 hp) upd_same), ex, ?_⟩
  refine ⟨_, rfl, _, rfl, _, rfl, t, o, _, x, rfl, items_ok x hx, by omega, g2.at_, fun u3 H3 g3 hu3 ne3 => ?_⟩
  have gA := g2.trans g3
  have g3 := Gn.refl gA.at_
  have fin : ∀ v Hf n, Gn t o H3 Hf n → n ≤ b + 68 → Q v Hf := fun v Hf n g hn => q v Hf ((gA.trans g).mono hn) (g.ne ne3)
  refine ⟨_, rfl, rfl, _, rfl, ifB _ (fun _ => ?_) (fun _ => ?_)⟩
  · refine ⟨_, rfl, _, rfl, t, o, _, _, rfl, rfl, by omega, g3.at_, fun v H4 g4 _ => ?_⟩
    exact fin _ _ _ (g3.trans g4) (by omega)
  refine ⟨_, rfl, _, rfl, t, o, _, _, rfl, rfl, by omega, g3.at_, fun u4 H4 g4 hu4 => ?_⟩
  have g4 := g3.trans g4
  refine ⟨_, rfl, rfl, _, rfl, ifB _ (fun _ => ?_) (fun _ => ?_)⟩
  · skip
    refine ⟨_, rfl, _, rfl, t, o, _, _, rfl, ⟨_, rfl, wd_in⟩, by omega, g4.at_, fun u5 H5 g5 hu5 => ?_⟩
    have g5 := g4.trans g5
    refine ⟨_, rfl, _, rfl, _, rfl, _, rfl, _, rfl, t, 3, rfl, by decide, by decide, g5.at_.1, fun j H6 hj hb6 ht6 => ⟨1, j, rfl, rfl, ?_⟩⟩
    have g6 := g5.take hb6 ht6
    refine ⟨t, o, _, _, rfl, ⟨1 + j, 0, rfl, by omega⟩, by omega, g6.at_, fun v H7 g7 _ => ⟨sz (by show 3 ≤ 60; decide), fun p7 hp7 => ?_⟩⟩
    exact fin _ _ _ ((g6.trans g7).new hp7 _) (by omega)
  refine ⟨_, rfl, rfl, _, rfl, ifB _ (fun _ => ?_) (fun _ => ?_)⟩
  · refine ⟨_, rfl, _, rfl, _, rfl, _, rfl, t, o, _, _, rfl, ⟨false, rfl⟩, by omega, g4.at_, fun v H5 g5 hv => ?_⟩
    obtain ⟨p3, x, y, rfl, hp3⟩ := hv
    have g5 := g4.trans g5
    refine ⟨p3, _, 1, _, rfl, rfl, SqT.of hp3, atI_nat (j := 1) rfl, sz (by show 3 ≤ 60; decide), fun p7 hp7 => ?_⟩
    exact fin _ _ _ (g5.new hp7 _) (by omega)
  refine ⟨_, rfl, rfl, _, rfl, ifB _ (fun _ => ?_) (fun _ => ?_)⟩
  · skip
    refine ⟨_, rfl, _, rfl, t, o, _, _, rfl, ⟨_, rfl, wd_in⟩, by omega, g4.at_, fun u5 H5 g5 hu5 => ?_⟩
    have g5 := g4.trans g5
    refine ⟨_, rfl, _, rfl, t, o, _, _, rfl, rfl, by omega, g5.at_, fun u6 H6 g6 hu6 => ?_⟩
    have g6 := g5.trans g6
    refine ⟨_, rfl, _, rfl, t, o, _, _, rfl, ⟨_, rfl, wd_in⟩, by omega, g6.at_, fun u7 H7 g7 hu7 => ?_⟩
    have g7 := g6.trans g7
    refine ⟨_, rfl, _, rfl, _, rfl, _, rfl, _, rfl, t, o, _, _, rfl, ⟨0, rfl, by decide⟩, by omega, g7.at_, fun v H8 g8 _ => ⟨sz (by show 4 ≤ 60; decide), fun p7 hp7 => ?_⟩⟩
    exact fin _ _ _ ((g7.trans g8).new hp7 _) (by omega)
  refine ⟨_, rfl, _, rfl, t, o, _, _, rfl, ⟨_, rfl, wd_in⟩, by omega, g4.at_, fun u5 H5 g5 hu5 => ?_⟩
  have g5 := g4.trans g5
  refine ⟨_, rfl, _, rfl, t, o, _, _, rfl, rfl, by omega, g5.at_, fun u6 H6 g6 hu6 => ?_⟩
  have g6 := g5.trans g6
  refine ⟨_, rfl, _, rfl, t, o, _, _, rfl, ⟨true, rfl⟩, by omega, g6.at_, fun v H7 g7 hv => ?_⟩
  obtain ⟨p3, x, y, rfl, hp3⟩ := hv
  have g7 := g6.trans g7
  refine ⟨p3, _, rfl, SqT.of hp3, rfl, _, _, rfl, _, _, rfl, rfl, ?_⟩
  refine ⟨_, rfl, _, rfl, t, o, _, _, rfl, ⟨_, rfl, wd_in⟩, by omega, g7.at_, fun u8 H8 g8 hu8 => ?_⟩
  have g8 := g7.trans g8
  refine ⟨_, rfl, _, rfl, _, rfl, _, rfl, _, rfl, _, rfl, _, rfl, t, o, _, _, rfl, rfl, by omega, g8.at_, fun v H9 g9 _ => ⟨sz (by show 6 ≤ 60; decide), fun p7 hp7 => ?_⟩⟩
  exact fin _ _ _ ((g8.trans g9).new hp7 _) (by omega)
end
end K10
/-! The law's own lexer. -/
namespace K10
open PySem PySem.Spec PyProof.Rows L2
theorem op_le_sg {X : Cx} : OpR X (compareOp .LtE) (fun x y H Q => ∃ c d : Nat, x = .str ⟨#[c]⟩ ∧ y = .str ⟨#[d]⟩ ∧ Q (.bl (decide (c ≤ d))) H) := by
  intro pins s σ H x y v u Q I rx ry ⟨c, d, ex, ey, h⟩
  refine op_le_str pins s σ H x y v u Q I rx ry ⟨_, _, ex, ey, ?_⟩
  have e : (!decide (([d] : List Nat) < [c])) = decide (c ≤ d) := by
    by_cases hh : c ≤ d
    · rw [decide_eq_true hh, decide_eq_false]
      · rfl
      · intro z
        rcases List.cons_lt_cons_iff.mp z with z | ⟨_, z⟩
        · omega
        · exact absurd z (List.not_lt_nil _)
    · rw [decide_eq_false hh, decide_eq_true]
      · rfl
      · exact List.cons_lt_cons_iff.mpr (.inl (by omega))
  show Q (.bl (!decide (([d] : List Nat) < [c]))) H
  rw [e]
  exact h
theorem sgA : (Str.ofString "a" : Str) = ⟨#[97]⟩ ∧ (Str.ofString "z" : Str) = ⟨#[122]⟩ ∧ (Str.ofString "A" : Str) = ⟨#[65]⟩ ∧ (Str.ofString "Z" : Str) = ⟨#[90]⟩ ∧ (Str.ofString "0" : Str) = ⟨#[48]⟩ ∧ (Str.ofString "9" : Str) = ⟨#[57]⟩ ∧ (Str.ofString "_" : Str) = ⟨#[95]⟩ := by decide +kernel
theorem isLet_eq (c : Nat) : isLet c = ((decide (97 ≤ c) && decide (c ≤ 122)) || (decide (65 ≤ c) && decide (c ≤ 90))) := by
  unfold isLet
  rw [Bool.decide_and, Bool.decide_and]
theorem isDig_eq (c : Nat) : isDig c = (decide (48 ≤ c) && decide (c ≤ 57)) := by
  unfold isDig
  rw [Bool.decide_and]
section
variable {P : Program} {w : World} {K : PySem.W.Frag} {mg : Str → Option Value} {base : Heap}
def spSg (q : Nat → Bool) : Sp := fun vs H Q _ => ∃ c, vs = [.str ⟨#[c]⟩] ∧ Q (.bl (q c)) H
theorem ok_g_is_letter {f : Addr} {fd : FuncData} (F : FnP K "_law_is_letter" s_g_is_letter f fd) : FnOk P w K mg base CX0 1 f fd ["_law_char"] (spSg isLet) := by
  refine F.ok c_g_is_letter (fun vs H Q E h => ?_) (fun cdv A outer s H vs Q E hr h => ?_)
  · obtain ⟨_, rfl, _⟩ := h
    rfl
  obtain ⟨c, rfl, q⟩ := h
  obtain ⟨e1, e2, e3, e4, _⟩ := sgA
  refine ⟨_, PSs.nox (pss_one (ps_ret (pe_or (pe_chain op_le_sg op_le_sg pe_str (pv 0) pe_str) (pe_one (pe_chain op_le_sg op_le_sg pe_str (pv 0) pe_str))))), ?_⟩
  rw [isLet_eq] at q
  refine ⟨_, rfl, 97, c, congrArg V.str e1, rfl, _, rfl, ifB _ (fun h1 => ?_) (fun h1 => ?_)⟩
  · refine ⟨c, 122, rfl, congrArg V.str e2, _, rfl, ifB _ (fun h2 => ?_) (fun h2 => ?_)⟩
    · rw [h1, h2] at q
      exact q
    · rw [h1, h2, Bool.and_false, Bool.false_or] at q
      refine ⟨_, rfl, 65, c, congrArg V.str e3, rfl, _, rfl, ifB _ (fun h3 => ?_) (fun h3 => ?_)⟩
      · rw [h3, Bool.true_and] at q
        exact ⟨c, 90, rfl, congrArg V.str e4, q⟩
      · rw [h3, Bool.false_and] at q
        exact q
  · rw [h1, Bool.false_and, Bool.false_or] at q
    refine ⟨_, rfl, iffF rfl ?_⟩
    refine ⟨_, rfl, 65, c, congrArg V.str e3, rfl, _, rfl, ifB _ (fun h3 => ?_) (fun h3 => ?_)⟩
    · rw [h3, Bool.true_and] at q
      exact ⟨c, 90, rfl, congrArg V.str e4, q⟩
    · rw [h3, Bool.false_and] at q
      exact q
theorem ok_g_is_digit {f : Addr} {fd : FuncData} (F : FnP K "_law_is_digit" s_g_is_digit f fd) : FnOk P w K mg base CX0 1 f fd ["_law_char"] (spSg isDig) := by
  refine F.ok c_g_is_digit (fun vs H Q E h => ?_) (fun cdv A outer s H vs Q E hr h => ?_)
  · obtain ⟨_, rfl, _⟩ := h
    rfl
  obtain ⟨c, rfl, q⟩ := h
  obtain ⟨_, _, _, _, e1, e2, _⟩ := sgA
  refine ⟨_, PSs.nox (pss_one (ps_ret (pe_chain op_le_sg op_le_sg pe_str (pv 0) pe_str))), ?_⟩
  rw [isDig_eq] at q
  refine ⟨_, rfl, 48, c, congrArg V.str e1, rfl, _, rfl, ifB _ (fun h1 => ?_) (fun h1 => ?_)⟩
  · rw [h1, Bool.true_and] at q
    exact ⟨c, 57, rfl, congrArg V.str e2, q⟩
  · rw [h1, Bool.false_and] at q
    exact q
end
end K10
/-! run, token. -/
namespace K10
open PySem PySem.Spec PyProof.Rows L2
theorem span_yes {q : Nat → Bool} {l : List Nat} {i c : Nat} (hc : l[i]? = some c) (h : q c = true) : spanN q (l.drop i) = spanN q (l.drop (i + 1)) + 1 := by
  rw [drop_cons hc]
  show (if q c = true then spanN q (l.drop (i + 1)) + 1 else 0) = _
  rw [if_pos h]
theorem span_no {q : Nat → Bool} {l : List Nat} {i c : Nat} (hc : l[i]? = some c) (h : q c = false) : spanN q (l.drop i) = 0 := by
  rw [drop_cons hc]
  show (if q c = true then spanN q (l.drop (i + 1)) + 1 else 0) = _
  rw [if_neg (by rw [h]; exact Bool.false_ne_true)]
section
variable {P : Program} {w : World} {K : PySem.W.Frag} {mg : Str → Option Value} {base : Heap}
abbrev CLet (P : Program) (w : World) (K : PySem.W.Frag) (mg : Str → Option Value) (base : Heap) : Prop := Cl P w K mg base CX0 1 "_law_is_letter" ["_law_char"] (spSg isLet)
abbrev CDig (P : Program) (w : World) (K : PySem.W.Frag) (mg : Str → Option Value) (base : Heap) : Prop := Cl P w K mg base CX0 1 "_law_is_digit" ["_law_char"] (spSg isDig)
def spRun : Sp := fun vs H Q _ => ∃ (l : List Nat) (a c : Nat), vs = [.str (tx l), .int (a : Int)] ∧ l.length ≤ 100000 ∧ l[a]? = some c ∧ Q (.int ((a + (if isDig c = true then spanN isDig (l.drop a) else spanN isNam (l.drop a)) : Nat) : Int)) H
theorem ok_g_run (GL : CLet P w K mg base) (GD : CDig P w K mg base) {f : Addr} {fd : FuncData} (F : FnP K "_law_run" s_g_run f fd) : FnOk P w K mg base CX0 2 f fd ["_law_text", "_law_at"] spRun := by
  refine F.ok c_g_run (fun vs H Q E h => ?_) (fun cdv A outer s H vs Q E hr h => ?_)
  · obtain ⟨_, _, _, rfl, _⟩ := h
    rfl
  obtain ⟨l, a, c, rfl, hl, hc, q⟩ := h
  have nd := c_g_run.nd
  have at_ : atI (tx l).cps.toList (a : Int) = some c := atI_nat (xs := (tx l).cps.toList) hc
  refine ⟨_, PSs.nox (pss_cons (ps_set (i := 2) nd rfl (Or.inl rfl) (pv 1))
    (pss_cons (ps_if (pt_truth (pe_f GD hr (by omega) pass0 (pa_cons (pe_ix ix_str (pv 0) (pv 1) (fun _ _ => rfl)) pa_nil)) (by intro _; rfl))
      (pss_cons (ps_for PassesOwn.never rfl (pi_str (pe_slice sl_str (pv 0) (po_some (pv 1)) po_none)) (pg_name (i := 3) nd rfl (Or.inl rfl)) (pss_cons (ps_if (PW.pt (pw_and (pt_cmpR op_ge (pv 2) pe_int (nomark _)) (pw_and1 (pt_not (pt_truth (pe_f GD hr (by omega) pass0 (pa_cons (pv 3) pa_nil)) (by intro _; rfl))))))
      (pss_one (ps_ret (pv 2))) pss_nil)
    (pss_one (ps_set (i := 2) nd rfl (Or.inl rfl) (pe_op op_addT (pv 2) pe_int)))))
    (pss_one (ps_ret (pv 2)))) pss_nil)
    (pss_cons (ps_for PassesOwn.never rfl (pi_str (pe_slice sl_str (pv 0) (po_some (pv 1)) po_none)) (pg_name (i := 3) nd rfl (Or.inl rfl)) (pss_cons (ps_if (PW.pt (pw_and (pt_not (pt_truth (pe_f GL hr (by omega) pass0 (pa_cons (pv 3) pa_nil)) (by intro _; rfl))) (pw_and (pt_not (pt_truth (pe_f GD hr (by omega) pass0 (pa_cons (pv 3) pa_nil)) (by intro _; rfl))) (pw_and1 (pt_cmpR op_ne (pv 3) pe_str (nomark _))))))
      (pss_one (ps_ret (pv 2))) pss_nil)
    (pss_one (ps_set (i := 2) nd rfl (Or.inl rfl) (pe_op op_addT (pv 2) pe_int)))))
    (pss_one (ps_ret (pv 2)))))), ?_⟩
  refine ⟨_, rfl, _, rfl, _, rfl, _, _, _, rfl, rfl, line_of hl, at_, c, rfl, _, rfl, ifB _ (fun h1 => ?_) (fun h1 => ?_)⟩
  · rw [if_pos h1] at q
    refine ⟨_, rfl, _, rfl, _, rfl, _, rfl, line_of hl, ?_⟩
    rw [cut_from]
    refine ⟨_, rfl, for_tx (l := l.drop a) (fun i σ H' => ∃ (v : Option V), σ = [some (.str (tx l)), some (.int (a : Int)), some (.int ((a + i : Nat) : Int)), v] ∧ H' = H ∧ i + spanN isDig ((l.drop a).drop i) = spanN isDig (l.drop a)) ⟨none, rfl, rfl, by rw [Nat.zero_add]; rfl⟩ ?_ ?_⟩
    · rintro i d σ H' hd ⟨v, rfl, rfl, hs⟩
      refine ⟨_, rfl, _, _, rfl, rfl, _, rfl, iftt (decide_eq_true (by omega)) ⟨_, rfl, d, rfl, _, rfl, ?_⟩⟩
      cases hq : isDig d with
      | true =>
        refine iffF rfl ⟨_, rfl, a + i, 1, rfl, rfl, some (.str ⟨#[d]⟩), rfl, rfl, ?_⟩
        rw [span_yes hd hq] at hs
        omega
      | false =>
        rw [span_no hd hq] at hs
        rw [← hs] at q
        exact iftt rfl ⟨_, rfl, q⟩
    · rintro σ H' ⟨v, rfl, rfl, hs⟩
      rw [List.drop_eq_nil_of_le (Nat.le_refl _)] at hs
      have hs : (l.drop a).length = spanN isDig (l.drop a) := hs
      rw [← hs] at q
      exact ⟨_, rfl, q⟩
  · rw [if_neg (by rw [h1]; exact Bool.false_ne_true)] at q
    refine ⟨_, rfl, _, rfl, _, rfl, _, rfl, line_of hl, ?_⟩
    rw [cut_from]
    refine ⟨_, rfl, for_tx (l := l.drop a) (fun i σ H' => ∃ (v : Option V), σ = [some (.str (tx l)), some (.int (a : Int)), some (.int ((a + i : Nat) : Int)), v] ∧ H' = H ∧ i + spanN isNam ((l.drop a).drop i) = spanN isNam (l.drop a)) ⟨none, rfl, rfl, by rw [Nat.zero_add]; rfl⟩ ?_ ?_⟩
    · rintro i d σ H' hd ⟨v, rfl, rfl, hs⟩
      have yes : isNam d = true → ∃ (v : Option V), [some (V.str (tx l)), some (.int (a : Int)), some (.int ((a + i + 1 : Nat) : Int)), some (.str ⟨#[d]⟩)] = [some (.str (tx l)), some (.int (a : Int)), some (.int ((a + (i + 1) : Nat) : Int)), v] ∧ H' = H' ∧ (i + 1) + spanN isNam ((l.drop a).drop (i + 1)) = spanN isNam (l.drop a) := fun hq => by
        rw [span_yes hd hq] at hs
        exact ⟨_, rfl, rfl, by omega⟩
      refine ⟨_, rfl, d, rfl, _, rfl, ?_⟩
      have e : isNam d = (isLet d || isDig d || decide (d = 95)) := rfl
      cases hq1 : isLet d with
      | true => exact iffF rfl ⟨_, rfl, a + i, 1, rfl, rfl, yes (by rw [e, hq1]; rfl)⟩
      | false =>
        refine iftt rfl ⟨_, rfl, d, rfl, _, rfl, ?_⟩
        cases hq2 : isDig d with
        | true => exact iffF rfl ⟨_, rfl, a + i, 1, rfl, rfl, yes (by rw [e, hq1, hq2]; rfl)⟩
        | false =>
          refine iftt rfl ⟨_, rfl, rfl, _, rfl, ?_⟩
          rw [sgA.2.2.2.2.2.2, dec_sg]
          by_cases hq3 : d = 95
          · rw [decide_eq_true hq3]
            exact iffF rfl ⟨_, rfl, a + i, 1, rfl, rfl, yes (by rw [e, hq1, hq2, decide_eq_true hq3]; rfl)⟩
          · rw [decide_eq_false hq3]
            have hq : isNam d = false := by rw [e, hq1, hq2, decide_eq_false hq3]; rfl
            rw [span_no hd hq] at hs
            rw [← hs] at q
            exact iftt rfl ⟨_, rfl, q⟩
    · rintro σ H' ⟨v, rfl, rfl, hs⟩
      rw [List.drop_eq_nil_of_le (Nat.le_refl _)] at hs
      have hs : (l.drop a).length = spanN isNam (l.drop a) := hs
      rw [← hs] at q
      exact ⟨_, rfl, q⟩
end
end K10
/-! token. -/
namespace K10
open PySem PySem.Spec PyProof.Rows L2
def ws1 : List V := [.str "import", .str "data", .str "trait", .str "with", .str "impl", .str "for", .str "def", .str "let", .str "in", .str "if", .str "then", .str "else", .str "loop"]
def ws2 : List V := [.str "times", .str "do", .str "not", .str "and", .str "or", .str "True", .str "False"]
theorem ws_eq : ws1 ++ ws2 = words.map fun x => V.str (tx x) := by
  show _ = [V.str (tx (cl "import")), .str (tx (cl "data")), .str (tx (cl "trait")), .str (tx (cl "with")), .str (tx (cl "impl")), .str (tx (cl "for")), .str (tx (cl "def")), .str (tx (cl "let")), .str (tx (cl "in")), .str (tx (cl "if")), .str (tx (cl "then")), .str (tx (cl "else")), .str (tx (cl "loop")),
    .str (tx (cl "times")), .str (tx (cl "do")), .str (tx (cl "not")), .str (tx (cl "and")), .str (tx (cl "or")), .str (tx (cl "True")), .str (tx (cl "False"))]
  simp only [tx_cl]
  rfl
section
variable {P : Program} {w : World} {K : PySem.W.Frag} {mg : Str → Option Value} {base : Heap}
abbrev CRun (P : Program) (w : World) (K : PySem.W.Frag) (mg : Str → Option Value) (base : Heap) : Prop := Cl P w K mg base CX0 2 "_law_run" ["_law_text", "_law_at"] spRun
theorem ok_g_token (GL : CLet P w K mg base) (GD : CDig P w K mg base) (GR : CRun P w K mg base) {f : Addr} {fd : FuncData} (F : FnP K "_law_token" s_g_token f fd) : FnOk P w K mg base CX0 3 f fd ["_law_text", "_law_at"] spTokenAt := by
  refine F.ok c_g_token (fun vs H Q E h => ?_) (fun cdv A outer s H vs Q E hr h => ?_)
  · obtain ⟨_, _, rfl, _⟩ := h
    rfl
  obtain ⟨l, n, rfl, hl, hn, q⟩ := h
  have nd := c_g_token.nd
  obtain ⟨c, hc⟩ := get_some hn
  have ed := drop_cons hc
  rw [ed] at q
  have at_ : atI (tx l).cps.toList (n : Int) = some c := atI_nat (xs := (tx l).cps.toList) hc
  refine ⟨_, PSs.nox (pss_cons (ps_set (i := 2) nd rfl (Or.inl rfl) (pe_lst (pa_cons pe_str (pa_cons pe_str (pa_cons pe_str (pa_cons pe_str (pa_cons pe_str (pa_cons pe_str (pa_cons pe_str (pa_cons pe_str (pa_cons pe_str (pa_cons pe_str (pa_cons pe_str (pa_cons pe_str (pa_cons pe_str pa_nil)))))))))))))))
    (pss_cons (ps_set (i := 2) nd rfl (Or.inl rfl) (pe_op op_cat (pv 2) (pe_lst (pa_cons pe_str (pa_cons pe_str (pa_cons pe_str (pa_cons pe_str (pa_cons pe_str (pa_cons pe_str (pa_cons pe_str pa_nil))))))))))
    (pss_cons (ps_set (i := 3) nd rfl (Or.inl rfl) (pe_ix ix_str (pv 0) (pv 1) (fun _ _ => rfl)))
    (pss_cons (ps_if (pt_truth (pe_f GL hr (by omega) pass0 (pa_cons (pv 3) pa_nil)) (by intro _; rfl))
      (pss_cons (ps_set (i := 4) nd rfl (Or.inl rfl) (pe_f GR hr (by omega) pass0 (pa_cons (pv 0) (pa_cons (pv 1) pa_nil))))
    (pss_one (ps_ret (pe_tup (pa_cons (pe_ifExp (pt_cmpR op_in_seq (pe_slice sl_str (pv 0) (po_some (pv 1)) (po_some (pv 4))) (pv 2) rfl) pe_str pe_str) (pa_cons (pv 1) (pa_cons (pv 4) pa_nil))))))) pss_nil)
    (pss_cons (ps_if (pt_truth (pe_f GD hr (by omega) pass0 (pa_cons (pv 3) pa_nil)) (by intro _; rfl))
      (pss_one (ps_ret (pe_tup (pa_cons pe_str (pa_cons (pv 1) (pa_cons (pe_f GR hr (by omega) pass0 (pa_cons (pv 0) (pa_cons (pv 1) pa_nil))) pa_nil)))))) pss_nil)
    (pss_cons (ps_if (pt_cmpR op_eq (pe_slice sl_str (pv 0) (po_some (pv 1)) (po_some (pe_op op_add (pv 1) pe_int))) pe_str (nomark _))
      (pss_one (ps_ret (pe_tup (pa_cons pe_str (pa_cons (pv 1) (pa_cons (pe_op op_addT (pv 1) pe_int) pa_nil)))))) pss_nil)
    (pss_one (ps_ret (pe_tup (pa_cons (pe_ifExp (pt_cmpR op_in_sign (pv 3) pe_str rfl) pe_str pe_str) (pa_cons (pv 1) (pa_cons (pe_op op_addT (pv 1) pe_int) pa_nil)))))))))))), ?_⟩
  refine ⟨sz (by show 13 ≤ 60; decide), fun p hp => ⟨_, rfl, sz (by show 7 ≤ 60; decide), fun p2 hp2 => ?_⟩⟩
  have s1 := same_new (Same.refl H) hp (.lst ws1)
  have s2 := same_new s1 hp2 (.lst ws2)
  refine ⟨p, p2, ws1, ws2, rfl, rfl, same_new (Same.refl _) hp2 _ _ _ upd_same, upd_same, sz (by decide), fun p3 hp3 => ?_⟩
  have s3 := same_new s2 hp3 (.lst (ws1 ++ ws2))
  refine ⟨_, rfl, _, rfl, _, _, _, rfl, rfl, line_of hl, at_, ?_⟩
  refine ⟨_, rfl, c, rfl, _, rfl, ifB _ (fun h1 => ?_) (fun h1 => ?_)⟩
  · refine ⟨_, rfl, _, rfl, l, n, c, rfl, hl, hc, ?_⟩
    have hd : isDig c = false := by
      cases e : isDig c with
      | false => rfl
      | true => rw [dig_let e] at h1; cases h1
    rw [if_neg (by rw [hd]; exact Bool.false_ne_true), ed]
    rw [tokN_cons, if_pos h1, tokS_cons, if_pos h1] at q
    refine ⟨_, rfl, _, rfl, _, rfl, _, rfl, _, rfl, _, rfl, line_of hl, ?_⟩
    rw [cut_tx, ed]
    have e1 : n + spanN isNam (c :: l.drop (n + 1)) - n = spanN isNam (c :: l.drop (n + 1)) := by omega
    rw [e1]
    refine ⟨_, rfl, p3, _, rfl, .inl (SqL.of upd_same), rfl, by rw [ws_eq]; exact wordsFlat, _, rfl, ?_⟩
    rw [if_neg Bool.false_ne_true, ws_eq, inV_words]
    by_cases c2 : (c :: l.drop (n + 1)).take (spanN isNam (c :: l.drop (n + 1))) ∈ words
    · rw [if_pos c2] at q
      exact iftt (decide_eq_true c2) ⟨_, rfl, _, rfl, sz (by show 3 ≤ 60; decide), fun p4 hp4 => q p4 _ (same_new s3 hp4 _) upd_same⟩
    · rw [if_neg c2] at q
      exact iffF (decide_eq_false c2) ⟨_, rfl, _, rfl, sz (by show 3 ≤ 60; decide), fun p4 hp4 => q p4 _ (same_new s3 hp4 _) upd_same⟩
  · have h1' : ¬ isLet c = true := by rw [h1]; exact Bool.false_ne_true
    rw [tokN_cons, if_neg h1', tokS_cons, if_neg h1'] at q
    refine ⟨_, rfl, c, rfl, _, rfl, ifB _ (fun h2 => ?_) (fun h2 => ?_)⟩
    · rw [if_pos h2, if_pos h2] at q
      refine ⟨_, rfl, _, rfl, _, rfl, l, n, c, rfl, hl, hc, ?_⟩
      rw [if_pos h2, ed]
      exact ⟨sz (by show 3 ≤ 60; decide), fun p4 hp4 => q p4 _ (same_new s3 hp4 _) upd_same⟩
    · have h2' : ¬ isDig c = true := by rw [h2]; exact Bool.false_ne_true
      rw [if_neg h2', if_neg h2'] at q
      refine ⟨_, rfl, _, rfl, _, rfl, _, rfl, _, _, rfl, rfl, _, rfl, _, rfl, line_of hl, ?_⟩
      rw [cut_two, eqeq, ed]
      refine ⟨rfl, _, rfl, ?_⟩
      rw [dec_tx]
      by_cases c3 : (c :: l.drop (n + 1)).take 2 = [61, 61]
      · rw [if_pos c3, if_pos c3] at q
        exact iftt (decide_eq_true c3) ⟨_, rfl, _, rfl, n, 2, rfl, rfl, sz (by show 3 ≤ 60; decide), fun p4 hp4 => q p4 _ (same_new s3 hp4 _) upd_same⟩
      · rw [if_neg c3, if_neg c3] at q
        refine iffF (decide_eq_false c3) ⟨_, rfl, c, _, rfl, rfl, _, rfl, ?_⟩
        by_cases c4 : c ∈ signL
        · rw [if_pos c4] at q
          exact iftt (decide_eq_true c4) ⟨_, rfl, _, rfl, n, 1, rfl, rfl, sz (by show 3 ≤ 60; decide), fun p4 hp4 => q p4 _ (same_new s3 hp4 _) upd_same⟩
        · rw [if_neg c4] at q
          exact iffF (decide_eq_false c4) ⟨_, rfl, _, rfl, n, 1, rfl, rfl, sz (by show 3 ≤ 60; decide), fun p4 hp4 => q p4 _ (same_new s3 hp4 _) upd_same⟩
end
end K10
/-! tokens. -/
namespace K10
open PySem PySem.Spec PyProof.Rows L2
/-- where the lexer goes on: behind the comment, or behind the token -/
def goOn (l : List Nat) (i be : Nat) (co : Bool) : Nat := if co = true then i + spanN notNl (l.drop i) else max i be
structure LexAt (l : List Nat) (i be : Nat) (co : Bool) (ts : List Tk) : Prop where
  all : ts ++ lex (l.drop (goOn l i be co)) (goOn l i be co) = lex l 0
  co : co = true → be ≤ i
theorem LexAt.nl {l : List Nat} {i be : Nat} {co : Bool} {ts : List Tk} (h : LexAt l i be co ts) {c : Nat} (hc : l[i]? = some c) (e : c = 10) : LexAt l (i + 1) be false ts := by
  obtain ⟨h1, h2⟩ := h
  have hm : goOn l i be co = max i be := by
    unfold goOn
    split
    · rename_i hco
      rw [span_no hc (show notNl c = false by unfold notNl; rw [e]; decide), Nat.max_eq_left (h2 hco)]
      rfl
    · rfl
  rw [hm] at h1
  refine ⟨?_, fun z => Bool.noConfusion z⟩
  show ts ++ lex (l.drop (max (i + 1) be)) (max (i + 1) be) = _
  by_cases hb : i < be
  · rw [Nat.max_eq_right (by omega)] at h1 ⊢
    exact h1
  · rw [Nat.max_eq_left (by omega)] at h1 ⊢
    rw [drop_cons hc, lex_sp (.inr e)] at h1
    exact h1
theorem LexAt.inn {l : List Nat} {i be : Nat} {co : Bool} {ts : List Tk} (h : LexAt l i be co ts) {c : Nat} (hc : l[i]? = some c) (hb : i < be) : LexAt l (i + 1) be co ts := by
  obtain ⟨h1, h2⟩ := h
  have hco : co = false := by
    cases co with
    | false => rfl
    | true => have := h2 rfl; omega
  subst hco
  refine ⟨?_, fun z => Bool.noConfusion z⟩
  have h1 : ts ++ lex (l.drop (max i be)) (max i be) = _ := h1
  show ts ++ lex (l.drop (max (i + 1) be)) (max (i + 1) be) = _
  rw [Nat.max_eq_right (by omega)] at h1 ⊢
  exact h1
theorem LexAt.com {l : List Nat} {i be : Nat} {ts : List Tk} (h : LexAt l i be true ts) {c : Nat} (hc : l[i]? = some c) (e : c ≠ 10) : LexAt l (i + 1) be true ts := by
  obtain ⟨h1, h2⟩ := h
  refine ⟨?_, fun z => by have := h2 z; omega⟩
  have h1 : ts ++ lex (l.drop (i + spanN notNl (l.drop i))) (i + spanN notNl (l.drop i)) = _ := h1
  show ts ++ lex (l.drop (i + 1 + spanN notNl (l.drop (i + 1)))) (i + 1 + spanN notNl (l.drop (i + 1))) = _
  rw [span_yes hc (show notNl c = true by unfold notNl; rw [decide_eq_false e]; rfl)] at h1
  have e2 : i + (spanN notNl (l.drop (i + 1)) + 1) = i + 1 + spanN notNl (l.drop (i + 1)) := by omega
  rw [e2] at h1
  exact h1
theorem LexAt.at_ {l : List Nat} {i be : Nat} {ts : List Tk} (h : LexAt l i be false ts) (hb : ¬ i < be) : ts ++ lex (l.drop i) i = lex l 0 := by
  have h1 : ts ++ lex (l.drop (max i be)) (max i be) = _ := h.all
  rw [Nat.max_eq_left (by omega)] at h1
  exact h1
theorem LexAt.sp {l : List Nat} {i be : Nat} {ts : List Tk} (h : LexAt l i be false ts) {c : Nat} (hc : l[i]? = some c) (e : c = 32) (hb : ¬ i < be) : LexAt l (i + 1) be false ts := by
  have h1 := h.at_ hb
  rw [drop_cons hc, lex_sp (.inl e)] at h1
  refine ⟨?_, fun z => Bool.noConfusion z⟩
  show ts ++ lex (l.drop (max (i + 1) be)) (max (i + 1) be) = _
  rw [Nat.max_eq_left (by omega)]
  exact h1
theorem LexAt.hash {l : List Nat} {i be : Nat} {ts : List Tk} (h : LexAt l i be false ts) {c : Nat} (hc : l[i]? = some c) (e : c = 35) (hb : ¬ i < be) : LexAt l (i + 1) be true ts := by
  have h1 := h.at_ hb
  subst e
  have ed := drop_cons hc
  rw [ed, lex_com, ← ed, List.drop_drop, span_yes hc (by decide)] at h1
  refine ⟨?_, fun _ => by omega⟩
  show ts ++ lex (l.drop (i + 1 + spanN notNl (l.drop (i + 1)))) (i + 1 + spanN notNl (l.drop (i + 1))) = _
  have e2 : i + (spanN notNl (l.drop (i + 1)) + 1) = i + 1 + spanN notNl (l.drop (i + 1)) := by omega
  rw [e2] at h1
  exact h1
theorem LexAt.tok {l : List Nat} {i be : Nat} {ts : List Tk} (h : LexAt l i be false ts) {c : Nat} (hc : l[i]? = some c) (e1 : c ≠ 32) (e2 : c ≠ 10) (e3 : c ≠ 35) (hb : ¬ i < be) : LexAt l (i + 1) (i + tokN (l.drop i)) false (ts ++ [(tokS (l.drop i), i, i + tokN (l.drop i))]) := by
  have h1 := h.at_ hb
  have ed := drop_cons hc
  have hp := tokN_pos (c := c) (r := l.drop (i + 1))
  rw [← ed] at hp
  rw [ed, lex_tok (by rintro (z | z) <;> contradiction) e3, ← ed, List.drop_drop] at h1
  refine ⟨?_, fun z => Bool.noConfusion z⟩
  show _ ++ lex (l.drop (max (i + 1) (i + tokN (l.drop i)))) (max (i + 1) (i + tokN (l.drop i))) = _
  rw [Nat.max_eq_right (by omega), List.append_assoc]
  exact h1
theorem LexAt.done {l : List Nat} {be : Nat} {co : Bool} {ts : List Tk} (h : LexAt l l.length be co ts) : ts = lex l 0 := by
  obtain ⟨h1, _⟩ := h
  have hm : l.length ≤ goOn l l.length be co := by
    unfold goOn
    split <;> omega
  rw [List.drop_eq_nil_of_le hm, lex_nil, List.append_nil] at h1
  exact h1
section
variable {P : Program} {w : World} {K : PySem.W.Frag} {mg : Str → Option Value} {base : Heap}
def spToks : Sp := fun vs H Q _ => ∃ l : List Nat, vs = [.str (tx l)] ∧ l.length ≤ 100000 ∧ ∀ r as H', Same H H' → H' r = some (.lst (as.map V.ref)) → ToksAt H' as (lex l 0) → Q (.ref r) H'
/-- comment = False at a line's end -/
def tNl : TS := fun D σ H => ∃ (x0 x1 x2 x4 : Option V) (co : Bool) (c : Nat), σ = [x0, x1, x2, some (.bl co), x4, some (.str ⟨#[c]⟩)] ∧ D.nx [x0, x1, x2, some (.bl (co && !decide (c = 10))), x4, some (.str ⟨#[c]⟩)] H
theorem nl_w {X : Cx} {st : Stmt} {t : TS} (h : PS X st t) (f : ∀ D σ H, tNl D σ H → t D σ H) : PS X st tNl := ps_w h f
/-- is the sign passed over -/
def tPass : TT := fun σ H Q => ∃ (x0 x1 : Option V) (be i : Nat) (co : Bool) (c : Nat), σ = [x0, x1, some (.int (be : Int)), some (.bl co), some (.int (i : Int)), some (.str ⟨#[c]⟩)] ∧ Q (decide (i < be) || (co || (decide (c = 32) || decide (c = 10)))) H
theorem pass_w {X : Cx} {e : Expr} {t : TT} (h : PT X e t) (f : ∀ σ H Q, tPass σ H Q → t σ H Q) : PT X e tPass := pt_w h f
theorem ok_g_tokens (len : mg "len" = none) (range : mg "range" = none) (GT : Cl P w K mg base CX0 3 "_law_token" ["_law_text", "_law_at"] spTokenAt) {f : Addr} {fd : FuncData} (F : FnP K "_law_tokens" s_g_tokens f fd) : FnOk P w K mg base CX0 4 f fd ["_law_text"] spToks := by
  refine F.ok c_g_tokens (fun vs H Q E h => ?_) (fun cdv A outer s H vs Q E hr h => ?_)
  · obtain ⟨_, rfl, _⟩ := h
    rfl
  obtain ⟨l, rfl, hl, q⟩ := h
  have nd := c_g_tokens.nd
  refine ⟨_, PSs.nox (pss_cons (ps_set (i := 1) nd rfl (Or.inl rfl) (pe_lst pa_nil))
    (pss_cons (ps_set (i := 2) nd rfl (Or.inl rfl) pe_int)
    (pss_cons (ps_set (i := 3) nd rfl (Or.inl rfl) pe_bl)
    (pss_cons (ps_for PassesOwn.never rfl (pi_range1 (by rfl) range (pa_cons (pe_callB call_len_str (by rfl) len boot_len (pa_cons (pv 0) pa_nil)) pa_nil)) (pg_name (i := 4) nd rfl (Or.inl rfl))
      (pss_cons (ps_set (i := 5) nd rfl (Or.inl rfl) (pe_ix ix_str (pv 0) (pv 4) (fun _ _ => rfl)))
    (pss_cons (nl_w (ps_if (pt_cmpR op_eq (pv 5) pe_str (nomark _))
      (pss_one (ps_set (i := 3) nd rfl (Or.inl rfl) pe_bl)) pss_nil) ?_)
    (pss_cons (ps_if (pass_w (PW.pt (pw_or (pt_cmpR op_lt (pv 4) (pv 2) (nomark _)) (pw_or (pt_truth (pv 3) (by intro _; rfl)) (pw_or (pt_cmpR op_eq (pv 5) pe_str (nomark _)) (pw_or1 (pt_cmpR op_eq (pv 5) pe_str (nomark _))))))) ?_)
      (pss_one ps_continue) pss_nil)
    (pss_one (ps_if (pt_cmpR op_eq (pv 5) pe_str (nomark _))
      (pss_one (ps_set (i := 3) nd rfl (Or.inl rfl) pe_bl)) (pss_cons (ps_expr (pe_bm PySem.F.plainAttrs_list PySem.F.slot_list_append PySem.F.type_list_append mt_append (pv 1) (pa_cons (pe_f GT hr (by omega) pass0 (pa_cons (pv 0) (pa_cons (pv 4) pa_nil))) pa_nil)))
    (pss_one (ps_set (i := 2) nd rfl (Or.inl rfl) (pe_ix ix_tup (pe_ix ix_list (pv 1) (pe_un un_neg pe_int) (fun _ _ => rfl)) pe_int (fun _ _ => rfl)))))))))))
    (pss_one (ps_ret (pv 1))))))), ?_⟩
  · rintro D σ H ⟨x0, x1, x2, x4, co, c, rfl, q⟩
    refine ⟨_, rfl, rfl, _, rfl, ?_⟩
    rw [sg10, dec_sg]
    by_cases e : c = 10
    · rw [decide_eq_true e] at q ⊢
      rw [Bool.not_true, Bool.and_false] at q
      exact iftt rfl q
    · rw [decide_eq_false e] at q ⊢
      rw [Bool.not_false, Bool.and_true] at q
      exact iffF rfl q
  · rintro σ H Q ⟨x0, x1, be, i, co, c, rfl, q⟩
    refine ⟨_, rfl, _, rfl, _, _, rfl, rfl, _, rfl, ?_⟩
    have ei : decide ((i : Int) < (be : Int)) = decide (i < be) := by
      rw [Bool.eq_iff_iff]
      simp
    rw [ei]
    cases h1 : decide (i < be) with
    | true =>
      rw [h1, Bool.true_or] at q
      exact iftt rfl q
    | false =>
      rw [h1, Bool.false_or] at q
      refine iffF rfl ⟨_, rfl, co, rfl, ?_⟩
      cases co with
      | true =>
        rw [Bool.true_or] at q
        exact iftt rfl q
      | false =>
        rw [Bool.false_or] at q
        refine iffF rfl ⟨_, rfl, rfl, _, rfl, ?_⟩
        rw [sg32, dec_sg]
        cases h3 : decide (c = 32) with
        | true =>
          rw [h3, Bool.true_or] at q
          exact iftt rfl q
        | false =>
          rw [h3, Bool.false_or] at q
          refine iffF rfl ⟨_, rfl, rfl, _, rfl, ?_⟩
          rw [sg10, dec_sg]
          exact q
  refine ⟨sz (by show 0 ≤ 60; decide), fun p hp => ⟨_, rfl, _, rfl, line_of hl, (l.length : Int), rfl, by omega, by omega, ?_⟩⟩
  have s0 : Same H (upd H p (.lst [])) := same_new (Same.refl H) hp _
  refine for_range (n := l.length) (fun n σ H' => ∃ (be : Nat) (co : Bool) (as : List Addr) (ts : List Tk) (x4 x5 : Option V), σ = [some (.str (tx l)), some (.ref p), some (.int (be : Int)), some (.bl co), x4, x5] ∧ Same H H' ∧ H' p = some (.lst (as.map V.ref)) ∧ ToksAt H' as ts ∧ LexAt l n be co ts) ⟨0, false, [], [], none, none, rfl, s0, upd_same, ⟨rfl, fun i a t h => by simp at h⟩, ⟨rfl, fun z => Bool.noConfusion z⟩⟩ ?_ ?_
  · rintro i σ H' hi ⟨be, co, as, ts, x4, x5, rfl, s1, hL, hT, hX⟩
    obtain ⟨c, hc⟩ := get_some hi
    have at_ : atI (tx l).cps.toList ((0 : Int) + (i : Int)) = some c := by
      rw [Int.zero_add]
      exact atI_nat (xs := (tx l).cps.toList) hc
    refine ⟨_, rfl, _, rfl, _, _, _, rfl, rfl, line_of hl, at_, ?_⟩
    refine ⟨_, _, _, _, co, c, rfl, ?_⟩
    refine ⟨_, _, be, i, _, c, by rw [Int.zero_add], ?_⟩
    by_cases e10 : c = 10
    · refine iftt (by rw [decide_eq_true e10, Bool.or_true, Bool.or_true, Bool.or_true]) ?_
      refine ⟨be, _, as, ts, _, _, rfl, s1, hL, hT, ?_⟩
      rw [decide_eq_true e10, Bool.not_true, Bool.and_false]
      exact hX.nl hc e10
    have eco : (co && !decide (c = 10)) = co := by rw [decide_eq_false e10, Bool.not_false, Bool.and_true]
    rw [eco]
    by_cases hb : i < be
    · exact iftt (by rw [decide_eq_true hb, Bool.true_or]) ⟨be, co, as, ts, _, _, rfl, s1, hL, hT, hX.inn hc hb⟩
    cases co with
    | true => exact iftt (by rw [Bool.true_or, Bool.or_true]) ⟨be, true, as, ts, _, _, rfl, s1, hL, hT, hX.com hc e10⟩
    | false =>
      by_cases e32 : c = 32
      · exact iftt (by rw [decide_eq_true e32, Bool.true_or, Bool.or_true, Bool.or_true]) ⟨be, false, as, ts, _, _, rfl, s1, hL, hT, hX.sp hc e32 hb⟩
      refine iffF (by rw [decide_eq_false hb, decide_eq_false e32, decide_eq_false e10]; rfl) ?_
      refine ⟨_, rfl, rfl, _, rfl, ?_⟩
      rw [sg35, dec_sg]
      by_cases e35 : c = 35
      · exact iftt (decide_eq_true e35) ⟨be, true, as, ts, _, _, rfl, s1, hL, hT, hX.hash hc e35 hb⟩
      refine iffF (decide_eq_false e35) ?_
      refine ⟨_, rfl, Or.inl ⟨rfl, _, SqL.of hL⟩, _, rfl, _, rfl, l, i, (by rw [Int.zero_add] : [V.str (tx l), V.int (0 + (i : Int))] = [V.str (tx l), V.int (i : Int)]), hl, hi, fun p2 H2 s2 h2 => ?_⟩
      have hL2 := s2 _ _ hL
      have hTl := hT.1
      have room : ts.length ≤ 100000 := tok_room hl hX.all
      have np : p2 ≠ p := fun e => by rw [e, hL2] at h2; cases h2
      refine ⟨p, _, _, rfl, rfl, hL2, by rw [List.length_map, hTl]; exact Nat.lt_of_le_of_lt room (by rw [sizeLine_eq]; decide), ?_⟩
      have hT2 := (hT.same s2).but (r := p) (fun xs e => by rw [hL2] at e; cases e) (fun b o n e => by rw [upd_ne n]; exact e) (H' := upd H2 p (.lst (as.map V.ref ++ [.ref p2])))
      refine ⟨_, rfl, 1, rfl, p, _, -1, _, rfl, rfl, SqL.of upd_same, atI_last _ _, p2, _, 2, _, rfl, rfl, SqT.of (by rw [upd_ne np]; exact h2), atI_nat (j := 2) rfl, ?_⟩
      refine ⟨i + tokN (l.drop i), false, as ++ [p2], _, _, _, rfl, same_mut (show Same H H2 from fun b o e => s2 b o (s1 b o e)) hp _, ?_, hT2.more (by rw [upd_ne np]; exact h2), hX.tok hc e32 e10 e35 hb⟩
      rw [upd_same, List.map_append]
      rfl
  · rintro σ H' ⟨be, co, as, ts, x4, x5, rfl, s1, hL, hT, hX⟩
    rw [hX.done] at hT
    exact ⟨_, rfl, q p as H' s1 hL hT⟩
end
end K10
/-! Lists of tokens and of places, as data; spoilt. -/
namespace K10
open PySem PySem.Spec PyProof.Rows L2
section
variable {K : PySem.W.Frag}
def tkD (t : Tk) : PyData := .tuple [.str (Str.ofString t.1), .int (t.2.1 : Int), .int (t.2.2 : Int)]
def plD (p : Nat × Nat) : PyData := .tuple [.int (p.1 : Int), .int (p.2 : Int)]
def plV (p : Nat × Nat) : HO := .tup [.int (p.1 : Int), .int (p.2 : Int)]
theorem flat_lay : ∀ (ds : List PyData), (∀ d ∈ ds, d.canLay0 = true ∧ d.depth ≤ 2) → PyData.canLayAll0 ds = true ∧ PyData.depthAll ds ≤ 2
  | [], _ => ⟨rfl, Nat.zero_le _⟩
  | d :: r, h => by
    obtain ⟨h1, h2⟩ := flat_lay r fun x hx => h x (.tail _ hx)
    obtain ⟨h3, h4⟩ := h d (.head _)
    refine ⟨?_, ?_⟩
    · show (d.canLay0 && PyData.canLayAll0 r) = true
      rw [h3, h1]
      rfl
    · show max d.depth (PyData.depthAll r) ≤ 2
      omega
theorem shaped_list {ds : List PyData} (h : ∀ d ∈ ds, d.canLay0 = true ∧ d.depth ≤ 2) : SeqAt.shaped (.list ds) = true := by
  obtain ⟨h1, h2⟩ := flat_lay ds h
  show (PyData.canLay0 (.list ds) && decide (PyData.depth (.list ds) ≤ 64)) = true
  have e1 : PyData.canLay0 (.list ds) = true := h1
  have e2 : PyData.depth (.list ds) ≤ 64 := by
    show PyData.depthAll ds + 1 ≤ 64
    omega
  rw [e1, decide_eq_true e2]
  rfl
def sorts : List String := ["word", "name", "number", "sign", "wrong"]
theorem tokS_in (c : Nat) (r : List Nat) : tokS (c :: r) ∈ sorts := by
  rw [tokS_cons]
  split
  · split <;> decide
  · split
    · decide
    · split
      · decide
      · split <;> decide
theorem lex_sorts (l : List Nat) : ∀ (o : Nat) (t : Tk), t ∈ lex l o → t.1 ∈ sorts := by
  refine lex_ind (M := fun l => ∀ (o : Nat) (t : Tk), t ∈ lex l o → t.1 ∈ sorts) ?_ ?_ ?_ ?_ l.length l (Nat.le_refl _)
  · intro o t h
    rw [lex_nil] at h
    cases h
  · intro c r a ih o t h
    rw [lex_sp a] at h
    exact ih _ _ h
  · intro r ih o t h
    rw [lex_com] at h
    exact ih _ _ h
  · intro c r a b ih o t h
    rw [lex_tok a b] at h
    rcases List.mem_cons.mp h with e | h
    · rw [e]
      exact tokS_in c r
    · exact ih _ _ h
theorem sorts_ok : ∀ x ∈ sorts, PyData.canLay0 (.str (Str.ofString x)) = true := by decide +kernel
theorem tkD_ok {l : List Nat} {o : Nat} {t : Tk} (h : t ∈ lex l o) : (tkD t).canLay0 = true ∧ (tkD t).depth ≤ 2 := by
  refine ⟨?_, by show max 0 (max 0 (max 0 0)) + 1 ≤ 2; decide⟩
  show (PyData.canLay0 (.str (Str.ofString t.1)) && (true && (true && true))) = true
  rw [sorts_ok _ (lex_sorts l o t h)]
  rfl
theorem plD_ok (p : Nat × Nat) : (plD p).canLay0 = true ∧ (plD p).depth ≤ 2 := ⟨rfl, by show max 0 (max 0 0) + 1 ≤ 2; decide⟩
theorem plD_sh (p : Nat × Nat) : SeqAt.shaped (plD p) = true := rfl
theorem toks_sh (l : List Nat) : SeqAt.shaped (.list ((lex l 0).map tkD)) = true := shaped_list fun d hd => by
  obtain ⟨t, ht, rfl⟩ := List.mem_map.mp hd
  exact tkD_ok ht
theorem pls_sh (ps : List (Nat × Nat)) : SeqAt.shaped (.list (ps.map plD)) = true := shaped_list fun d hd => by
  obtain ⟨t, _, rfl⟩ := List.mem_map.mp hd
  exact plD_ok t
/-- the tuples at the addresses as -/
def PlsAt (H : Hp) (as : List Addr) (ps : List (Nat × Nat)) : Prop := as.length = ps.length ∧ ∀ (i : Nat) (a : Addr) (t : Nat × Nat), as[i]? = some a → ps[i]? = some t → H a = some (plV t)
theorem dp_all {H : Hp} {α : Type} {f : α → PyData} {g : α → Addr → Prop} (hg : ∀ x a, g x a → Dp K H (.ref a) (f x)) : ∀ (as : List Addr) (ts : List α), as.length = ts.length → (∀ (i : Nat) (a : Addr) (t : α), as[i]? = some a → ts[i]? = some t → g t a) → DpAll K H (as.map V.ref) (ts.map f)
  | [], [], _, _ => .nil
  | a :: as, t :: ts, hl, h => .cons (hg t a (h 0 a t rfl rfl)) (dp_all hg as ts (Nat.succ.inj hl) fun i b u h1 h2 => h (i + 1) b u h1 h2)
  | [], _ :: _, hl, _ => by cases hl
  | _ :: _, [], hl, _ => by cases hl
theorem dp_tk {H : Hp} {a : Addr} {t : Tk} (h : H a = some (tkV t)) : Dp K H (.ref a) (tkD t) := .tup (SqT.of h) (.cons (.str _) (.cons (.int _) (.cons (.int _) .nil)))
theorem dp_pl {H : Hp} {a : Addr} {t : Nat × Nat} (h : H a = some (plV t)) : Dp K H (.ref a) (plD t) := .tup (SqT.of h) (.cons (.int _) (.cons (.int _) .nil))
theorem dp_toks {H : Hp} {r : Addr} {as : List Addr} {ts : List Tk} (hr : H r = some (.lst (as.map V.ref))) (h : ToksAt H as ts) : Dp K H (.ref r) (.list (ts.map tkD)) := .lst (SqL.of hr) (dp_all (g := fun t a => H a = some (tkV t)) (fun _ _ h => dp_tk h) as ts h.1 h.2)
theorem dp_pls {H : Hp} {r : Addr} {as : List Addr} {ts : List (Nat × Nat)} (hr : H r = some (.lst (as.map V.ref))) (h : PlsAt H as ts) : Dp K H (.ref r) (.list (ts.map plD)) := .lst (SqL.of hr) (dp_all (g := fun t a => H a = some (plV t)) (fun _ _ h => dp_pl h) as ts h.1 h.2)
theorem eq_nil (l : List Nat) : PyData.eqv (.list ((lex l 0).map tkD)) (.list []) = decide (lex l 0 = []) := by
  cases e : lex l 0 with
  | nil => rfl
  | cons a b => rfl
theorem eqv_pl (p q : Nat × Nat) : PyData.eqv (plD p) (plD q) = decide (p = q) := by
  show ((((p.1 : Int)) == (q.1 : Int)) && ((((p.2 : Int)) == (q.2 : Int)) && true)) = decide (p = q)
  obtain ⟨a, b⟩ := p
  obtain ⟨c, d⟩ := q
  rw [Bool.eq_iff_iff]
  simp
  omega
end
end K10
/-! spoilt. -/
namespace K10
open PySem PySem.Spec PyProof.Rows L2
def spoS : List Str := [S ")", S "(", S "=", S "x", S "in", S ",", S "7", S "then", S "?", S ":", S "def", S "[", S "not", S "-", S "."]
theorem spo_ok : ∀ z ∈ spoS, z.cps.toList.length ≤ 5 ∧ bnd 32 z.cps.toList ≤ 1 := by decide +kernel
theorem sp_tx : (Str.ofString " " : Str) = tx [32] := sg32
/-- + of texts by their signs -/
theorem op_add_tx {X : Cx} : OpR X (binaryOp .Add) (fun x y H Q => ∃ a b : List Nat, x = .str (tx a) ∧ y = .str (tx b) ∧ a.length + b.length ≤ 200000 ∧ Q (.str (tx (a ++ b))) H) := by
  intro pins s σ H x y v u Q I rx ry ⟨a, b, ex, ey, hl, h⟩
  exact op_add_str pins s σ H x y v u Q I rx ry ⟨_, _, ex, ey, (by show a.length + b.length ≤ sizeLine; rw [sizeLine_eq]; omega), by rw [tx_app]; exact h⟩
section
variable {P : Program} {w : World} {K : PySem.W.Frag} {mg : Str → Option Value} {base : Heap}
def spSpo : Sp := fun vs H Q _ => ∃ (t : Tp) (l : List Nat), vs = [.ref t.1, .str (tx l)] ∧ TapeAt H t ∧ l.length ≤ 50000 ∧ lex l 0 ≠ [] ∧ cnt l ≤ 1000 ∧ ∀ l' H', l'.length ≤ l.length * 2 + 10 → cnt l' ≤ cnt l + 1 → But t.1 H H' → TapeAt H' t → Q (.str (tx l')) H'
theorem ok_g_spoilt (len : mg "len" = none) (GT : CTake P w K mg base) (GK : Cl P w K mg base CX0 4 "_law_tokens" ["_law_text"] spToks) {f : Addr} {fd : FuncData} (F : FnP K "_law_spoilt" s_g_spoilt f fd) : FnOk P w K mg base CX0 5 f fd ["_law_tape_here", "_law_text"] spSpo := by
  refine F.ok c_g_spoilt (fun vs H Q E h => ?_) (fun cdv A outer s H vs Q E hr h => ?_)
  · obtain ⟨_, _, rfl, _⟩ := h
    rfl
  obtain ⟨t, l, rfl, ht, hl, hn, hc, q⟩ := h
  have nd := c_g_spoilt.nd
  refine ⟨_, PSs.nox (pss_cons (ps_set (i := 2) nd rfl (Or.inl rfl) (pe_f GK hr (by omega) pass0 (pa_cons (pv 1) pa_nil)))
    (pss_cons (ps_set (i := 3) nd rfl (Or.inl rfl) (pe_f GT hr (by omega) pass0 (pa_cons (pv 0) (pa_cons (pe_callB call_len_seq (by rfl) len boot_len (pa_cons (pv 2) pa_nil)) pa_nil))))
    (pss_cons (ps_asg (pe_ix ix_list (pv 2) (pv 3) (fun _ _ => rfl)) (pg_tup (n := 3) rfl (pgs_cons (pg_name (i := 4) nd rfl (Or.inl rfl)) (pgs_cons (pg_name (i := 5) nd rfl (Or.inl rfl)) (pgs_cons (pg_name (i := 6) nd rfl (Or.inl rfl)) pgs_nil)))))
    (pss_cons (ps_set (i := 7) nd rfl (Or.inl rfl) (pe_lst (pa_cons pe_str (pa_cons pe_str (pa_cons pe_str (pa_cons pe_str (pa_cons pe_str (pa_cons pe_str (pa_cons pe_str (pa_cons pe_str (pa_cons pe_str (pa_cons pe_str (pa_cons pe_str (pa_cons pe_str (pa_cons pe_str (pa_cons pe_str (pa_cons pe_str pa_nil)))))))))))))))))
    (pss_cons (ps_set (i := 8) nd rfl (Or.inl rfl) (pe_ix ix_list (pv 7) (pe_f GT hr (by omega) pass0 (pa_cons (pv 0) (pa_cons pe_int pa_nil))) (fun _ _ => rfl)))
    (pss_cons (ps_set (i := 9) nd rfl (Or.inl rfl) (pe_f GT hr (by omega) pass0 (pa_cons (pv 0) (pa_cons pe_int pa_nil))))
    (pss_cons (ps_if (pt_cmpR op_eq (pv 9) pe_int (nomark _))
      (pss_one (ps_ret (pe_op op_add_tx (pe_op op_add_tx (pe_slice sl_str (pv 1) po_none (po_some (pv 5))) pe_str) (pe_slice sl_str (pv 1) (po_some (pv 6)) po_none)))) pss_nil)
    (pss_cons (ps_if (pt_cmpR op_eq (pv 9) pe_int (nomark _))
      (pss_one (ps_ret (pe_op op_add_tx (pe_op op_add_tx (pe_op op_add_tx (pe_op op_add_tx (pe_slice sl_str (pv 1) po_none (po_some (pv 5))) pe_str) (pv 8)) pe_str) (pe_slice sl_str (pv 1) (po_some (pv 6)) po_none)))) pss_nil)
    (pss_cons (ps_if (pt_cmpR op_eq (pv 9) pe_int (nomark _))
      (pss_one (ps_ret (pe_op op_add_tx (pe_op op_add_tx (pe_op op_add_tx (pe_op op_add_tx (pe_slice sl_str (pv 1) po_none (po_some (pv 5))) pe_str) (pv 8)) pe_str) (pe_slice sl_str (pv 1) (po_some (pv 5)) po_none)))) pss_nil)
    (pss_one (ps_ret (pe_slice sl_str (pv 1) po_none (po_some (pv 5)))))))))))))), ?_⟩
  refine ⟨_, rfl, l, rfl, by omega, fun r as H1 s1 hL hT => ?_⟩
  have hlen : as.length = (lex l 0).length := hT.1
  have hpos : 0 < (lex l 0).length := by
    cases e : lex l 0 with
    | nil => exact absurd e hn
    | cons a b => exact Nat.succ_pos _
  have hcl : (lex l 0).length = cnt l := rfl
  refine ⟨_, rfl, _, rfl, r, _, rfl, .inl (SqL.of hL), t, (as.map V.ref).length, rfl, by rw [List.length_map]; omega, by rw [List.length_map]; omega, ht.same s1, fun k H2 hk hb2 ht2 => ?_⟩
  rw [List.length_map, hlen] at hk
  obtain ⟨tk, hk2⟩ : ∃ tk, (lex l 0)[k]? = some tk := ⟨_, List.getElem?_eq_getElem hk⟩
  obtain ⟨a, ha⟩ : ∃ a, as[k]? = some a := ⟨_, List.getElem?_eq_getElem (by rw [hlen]; exact hk)⟩
  have hk1 := hT.2 k a tk ha hk2
  have nt : ∀ (p : Addr) (y : HO), H1 p = some y → (∀ z, y ≠ .dK z) → p ≠ t.1 := fun p y hp hy e => by
    obtain ⟨_, _, _, _, _, h1, _⟩ := ht.same s1
    rw [e, h1] at hp
    injection hp with hp
    exact hy _ hp.symm
  have hL2 := hb2 r _ (nt r _ hL (by intro z e; cases e)) hL
  have ha2 := hb2 a _ (nt a _ hk1 (by intro z e; cases e)) hk1
  refine ⟨_, rfl, _, rfl, r, _, (k : Int), .ref a, rfl, rfl, SqL.of hL2, atI_nat (by rw [List.getElem?_map, ha]; rfl), ?_⟩
  refine ⟨a, _, rfl, SqT.of ha2, rfl, _, _, rfl, _, _, rfl, _, _, rfl, rfl, ?_⟩
  refine ⟨sz (by show 15 ≤ 60; decide), fun p hp => ?_⟩
  have s3 := same_new (Same.refl H2) hp (.lst (spoS.map V.str))
  refine ⟨_, rfl, _, rfl, t, 15, rfl, by decide, by decide, ht2.same s3, fun j H4 hj hb4 ht4 => ?_⟩
  obtain ⟨z, hz, ez⟩ := str_at (zs := spoS) (k := j) hj
  obtain ⟨z1, z2⟩ := spo_ok z hz
  obtain ⟨y, rfl⟩ : ∃ y, z = tx y := ⟨_, (tx_of z).symm⟩
  have z1 : y.length ≤ 5 := z1
  have z2 : bnd 32 y ≤ 1 := z2
  refine ⟨p, _, _, _, rfl, rfl, SqL.of (hb4 p _ (off_tape ht2 hp) upd_same), ez, ?_⟩
  refine ⟨_, rfl, t, 4, rfl, by decide, by decide, ht4, fun m H5 hm hb5 ht5 => ?_⟩
  have hbb : But t.1 H H5 := ((((But.of s1).trans hb2).trans (But.of s3)).trans hb4).trans hb5
  obtain ⟨b1, b2, b3⟩ := lex_bounds l 0 tk (List.mem_of_getElem? hk2)
  obtain ⟨c1, c2, c3⟩ := lex_ahead l 0 k tk hk2
  rw [Nat.sub_zero] at c1 c2 c3
  obtain ⟨so, st, en⟩ := tk
  have b1 : 0 ≤ st := b1
  have b2 : st < en := b2
  have b3 : en ≤ 0 + l.length := b3
  have c1 : cnt (l.take st) ≤ k := c1
  have c2 : cnt (l.drop en) + (k + 1) = cnt l := c2
  have c3 : cnt (l.drop st) + k = cnt l := c3
  have hz3 := cnt_bnd y
  have len1 : (l.take st).length ≤ l.length := by rw [List.length_take]; omega
  have len2 : ∀ e, (l.drop e).length ≤ l.length := fun e => by rw [List.length_drop]; omega
  have fin : ∀ l', l'.length ≤ l.length * 2 + 10 → cnt l' ≤ cnt l + 1 → Q (.str (tx l')) H5 := fun l' h1 h2 => q l' H5 h1 h2 hbb ht5
  have glue : ∀ a x : List Nat, (a ++ [32]) ++ x = a ++ 32 :: x := fun a x => by simp
  have one : cnt ((l.take st ++ [32]) ++ l.drop en) ≤ cnt l + 1 := by
    rw [glue]
    have := cnt_glue (l.take st) (l.drop en)
    omega
  have two : ∀ e, cnt (l.drop e) + k ≤ cnt l → cnt ((((l.take st ++ [32]) ++ y) ++ [32]) ++ l.drop e) ≤ cnt l + 1 := fun e he => by
    have e1 : (((l.take st ++ [32]) ++ y) ++ [32]) ++ l.drop e = l.take st ++ 32 :: (y ++ 32 :: l.drop e) := by simp
    rw [e1]
    have h1 := cnt_glue (l.take st) (y ++ 32 :: l.drop e)
    have h2 := cnt_glue y (l.drop e)
    omega
  have lenA : (l.take st ++ [32]).length ≤ l.length + 1 := by rw [List.length_append]; show _ + 1 ≤ _; omega
  have lenB : ((l.take st ++ [32]) ++ y).length ≤ l.length + 6 := by rw [List.length_append]; omega
  have lenC : (((l.take st ++ [32]) ++ y) ++ [32]).length ≤ l.length + 7 := by rw [List.length_append]; show _ + 1 ≤ _; omega
  refine ⟨_, rfl, rfl, _, rfl, ifB _ (fun _ => ?_) (fun _ => ?_)⟩
  · exact ⟨_, rfl, _, rfl, _, rfl, _, rfl, line_of (by show l.length ≤ 100000; omega), l.take st, [32], congrArg V.str (cut_to l st), congrArg V.str sp_tx, (by show _ + 1 ≤ _; omega), _, rfl, _, rfl, _, rfl, _, rfl, line_of (by show l.length ≤ 100000; omega), l.take st ++ [32], l.drop en, rfl, congrArg V.str (cut_from l en), (by have := len2 en; omega), fin _ (by have := len2 en; rw [List.length_append]; omega) one⟩
  refine ⟨_, rfl, rfl, _, rfl, ifB _ (fun _ => ?_) (fun _ => ?_)⟩
  · exact ⟨_, rfl, _, rfl, _, rfl, _, rfl, line_of (by show l.length ≤ 100000; omega), l.take st, [32], congrArg V.str (cut_to l st), congrArg V.str sp_tx, (by show _ + 1 ≤ _; omega), _, rfl, l.take st ++ [32], y, rfl, rfl, (by omega), (l.take st ++ [32]) ++ y, [32], rfl, congrArg V.str sp_tx, (by show _ + 1 ≤ _; omega), _, rfl, _, rfl, _, rfl, _, rfl, line_of (by show l.length ≤ 100000; omega), ((l.take st ++ [32]) ++ y) ++ [32], l.drop en, rfl, congrArg V.str (cut_from l en), (by have := len2 en; omega), fin _ (by have := len2 en; rw [List.length_append]; omega) (two en (by omega))⟩
  refine ⟨_, rfl, rfl, _, rfl, ifB _ (fun _ => ?_) (fun _ => ?_)⟩
  · exact ⟨_, rfl, _, rfl, _, rfl, _, rfl, line_of (by show l.length ≤ 100000; omega), l.take st, [32], congrArg V.str (cut_to l st), congrArg V.str sp_tx, (by show _ + 1 ≤ _; omega), _, rfl, l.take st ++ [32], y, rfl, rfl, (by omega), (l.take st ++ [32]) ++ y, [32], rfl, congrArg V.str sp_tx, (by show _ + 1 ≤ _; omega), _, rfl, _, rfl, _, rfl, _, rfl, line_of (by show l.length ≤ 100000; omega), ((l.take st ++ [32]) ++ y) ++ [32], l.drop st, rfl, congrArg V.str (cut_from l st), (by have := len2 st; omega), fin _ (by have := len2 st; rw [List.length_append]; omega) (two st (by omega))⟩
  refine ⟨_, rfl, _, rfl, _, rfl, _, rfl, line_of (by show l.length ≤ 100000; omega), ?_⟩
  rw [cut_to]
  exact fin (l.take st) (by have := len1; omega) (by have := c1; omega)
end
end K10
/-! law. -/
namespace K10
open PySem PySem.Spec PyProof.Rows L2
theorem PlsAt.same {H H' : Hp} {as : List Addr} {ps : List (Nat × Nat)} (h : PlsAt H as ps) (s : Same H H') : PlsAt H' as ps := ⟨h.1, fun i a t h1 h2 => s _ _ (h.2 i a t h1 h2)⟩
theorem PlsAt.but {H H' : Hp} {r : Addr} {as : List Addr} {ts : List (Nat × Nat)} (h : PlsAt H as ts) (hr : ∀ xs, H r ≠ some (.tup xs)) (s : ∀ b o, b ≠ r → H b = some o → H' b = some o) : PlsAt H' as ts :=
  ⟨h.1, fun i a t h1 h2 => s _ _ (fun e => hr _ (by rw [← e]; exact h.2 i a t h1 h2)) (h.2 i a t h1 h2)⟩
theorem PlsAt.more {H : Hp} {as : List Addr} {ts : List (Nat × Nat)} {a : Addr} {t : Nat × Nat} (h : PlsAt H as ts) (ha : H a = some (plV t)) : PlsAt H (as ++ [a]) (ts ++ [t]) := by
  refine ⟨by rw [List.length_append, List.length_append, h.1]; rfl, fun i b u h1 h2 => ?_⟩
  by_cases hi : i < as.length
  · rw [List.getElem?_append_left hi] at h1
    rw [List.getElem?_append_left (by rw [← h.1]; exact hi)] at h2
    exact h.2 i b u h1 h2
  · have e1 : i = as.length := by
      have := (List.getElem?_eq_some_iff.mp h1).1
      rw [List.length_append] at this
      have e : ([a] : List Addr).length = 1 := rfl
      omega
    subst e1
    rw [List.getElem?_append_right (Nat.le_refl _), Nat.sub_self] at h1
    rw [h.1, List.getElem?_append_right (Nat.le_refl _), Nat.sub_self] at h2
    have e2 : a = b := Option.some.inj h1
    have e3 : t = u := Option.some.inj h2
    rw [← e2, ← e3]
    exact ha
theorem at_last {H : Hp} {as : List Addr} {ps : List (Nat × Nat)} (h : PlsAt H as ps) {t : Nat × Nat} (ht : ps.getLast? = some t) : ∃ a, atI (as.map V.ref) (-1) = some (.ref a) ∧ H a = some (plV t) := by
  have hne : as ≠ [] := fun e => by
    have := h.1
    rw [e] at this
    have e2 : ps = [] := List.length_eq_zero_iff.mp this.symm
    rw [e2] at ht
    cases ht
  refine ⟨as.getLast hne, ?_, ?_⟩
  · have e := List.dropLast_concat_getLast hne
    have e2 : as.map V.ref = as.dropLast.map V.ref ++ [V.ref (as.getLast hne)] := by
      rw [← List.map_singleton (f := V.ref), ← List.map_append, e]
    rw [e2]
    exact atI_last _ _
  · refine h.2 (as.length - 1) _ _ ?_ ?_
    · rw [← List.getLast?_eq_getElem?]
      exact List.getLast?_eq_some_getLast hne
    · rw [h.1, ← List.getLast?_eq_getElem?]
      exact ht
/-- the place of a token -/
def plOf (t : Tk) : Nat × Nat := (t.2.1, t.2.2)
/-- once more spoilt, perhaps -/
def tAgain : TS := fun D σ H => ∃ (t : Tp) (x0 x2 : Option V) (l : List Nat) (rest : L2.St), σ = x0 :: some (.ref t.1) :: x2 :: some (.str (tx l)) :: rest ∧ TapeAt H t ∧ l.length ≤ 20000 ∧ cnt l ≤ 290 ∧
  ∀ l' H', l'.length ≤ 50000 → cnt l' ≤ cnt l + 1 → TapeAt H' t → D.nx (x0 :: some (.ref t.1) :: x2 :: some (.str (tx l')) :: rest) H'
theorem again_w {X : Cx} {st : Stmt} {t : TS} (h : PS X st t) (f : ∀ D σ H, tAgain D σ H → t D σ H) : PS X st tAgain := ps_w h f
/-- the token before is read too, where there is one -/
def tBefore : TS := fun D σ H => ∃ (x0 x1 x2 x5 x7 x8 x9 x11 : Option V) (l : List Nat) (r4 r6 : Addr) (bs : List Addr) (k : Nat), σ = [x0, x1, x2, some (.str (tx l)), some (.ref r4), x5, some (.ref r6), x7, x8, x9, some (.int (k : Int)), x11] ∧ l.length ≤ 100000 ∧ cnt l ≤ 300 ∧
  H r6 = some (.lst (bs.map V.ref)) ∧ PlsAt H bs ((lex l 0).map plOf) ∧ k < (lex l 0).length ∧ (∀ j t', k = j + 1 → (lex l 0)[j]? = some t' → rd (l.take t'.2.2) = none ∨ rd (l.take t'.2.2) = some (t'.2.2, t'.2.2)) ∧
  ∀ y9 y11 H', Same H H' → D.nx [x0, x1, x2, some (.str (tx l)), some (.ref r4), x5, some (.ref r6), x7, x8, y9, some (.int (k : Int)), y11] H'
theorem before_w {X : Cx} {st : Stmt} {t : TS} (h : PS X st t) (f : ∀ D σ H, tBefore D σ H → t D σ H) : PS X st tBefore := ps_w h f
/-- what law calls -/
structure Lw (P : Program) (w : World) (K : PySem.W.Frag) (mg : Str → Option Value) (base : Heap) : Prop where
  tape : Cl P w K mg base CX0 1 "_law_tape" ["_law_script"] (spTape K)
  take : CTake P w K mg base
  item : Cl P w K mg base CX0 11 "_law_item" ["_law_tape_here", "_law_out"] spItemG
  spo : Cl P w K mg base CX0 5 "_law_spoilt" ["_law_tape_here", "_law_text"] spSpo
  toks : Cl P w K mg base CX0 4 "_law_tokens" ["_law_text"] spToks
  read : Cl P w K mg base CX0 138 "_law_read" ["_law_text"] spRead
  same : Cl P w K mg base CX0 4 "_law_same" ["_law_actual", "_law_expected"] spSame
def spLaw (K : PySem.W.Frag) : Sp := fun vs H Q _ => ∃ (a : Addr) (ns : List Int), vs = [.ref a] ∧ SqL K H a (ns.map V.int) ∧ ns.length ≤ 100000 ∧ ∀ H', Q (.bl true) H'
section
variable {P : Program} {w : World} {K : PySem.W.Frag} {mg : Str → Option Value} {base : Heap}
theorem hu65 {A : Around} {k : Nat} (hr : Room k A) (hk : 10 ≤ k) : A.units + 65 < cLine := by have := hr.un; omega
theorem ok_law (G : Lw P w K mg base) {f : Addr} {fd : FuncData} (F : FnP K "law" s_law f fd) : FnOk P w K mg base CX0 140 f fd ["_law_script"] (spLaw K) := by
  refine F.ok c_law (fun vs H Q E h => ?_) (fun cdv A outer s H vs Q E hr h => ?_)
  · obtain ⟨_, _, rfl, _⟩ := h
    rfl
  obtain ⟨a, ns, rfl, ha, hns, q⟩ := h
  have nd := c_law.nd
  have hu := hu_of hr
  have hu65 := hu65 hr (by decide)
  have hu64 : (A.deeper (envOfC "law" (defScope s_law) s.heap.objs.size f cdv)).units + 64 < cLine := by omega
  refine ⟨_, PSs.nox (pss_cons (ps_set (i := 1) nd rfl (Or.inl rfl) (pe_f G.tape hr (by decide) pass0 (pa_cons (pv 0) pa_nil)))
    (pss_cons (ps_set (i := 2) nd rfl (Or.inl rfl) (pe_disp (pps_cons pe_str pe_str pps_nil) (by rfl) (by rfl) (by decide) (by decide)))
    (pss_cons (ps_expr (pe_f G.item hr (by decide) pass0 (pa_cons (pv 1) (pa_cons (pv 2) pa_nil))))
    (pss_cons (ps_set (i := 3) nd rfl (Or.inl rfl) (pe_f G.spo hr (by decide) pass0 (pa_cons (pv 1) (pa_cons (pe_dget hu (pv 2) pe_str (fun _ _ => rfl)) pa_nil))))
    (pss_cons (again_w (ps_if (PW.pt (pw_and (pt_cmpR op_eq (pe_f G.take hr (by decide) pass0 (pa_cons (pv 1) (pa_cons pe_int pa_nil))) pe_int (nomark _)) (pw_and1 (pt_cmpR (op_neD hu64) (pe_f G.toks hr (by decide) pass0 (pa_cons (pv 3) pa_nil)) (pe_lst pa_nil) (nomark _)))))
      (pss_one (ps_set (i := 3) nd rfl (Or.inl rfl) (pe_f G.spo hr (by decide) pass0 (pa_cons (pv 1) (pa_cons (pv 3) pa_nil))))) pss_nil) ?_)
    (pss_cons (ps_while PassesOwn.never (PW.pt (pw_or (pt_cmpR op_eq (pe_slice sl_str (pv 3) po_none (po_some pe_int)) pe_str (nomark _)) (pw_or1 (pt_cmpR op_eq (pe_slice sl_str (pv 3) po_none (po_some pe_int)) pe_str (nomark _))))) (pss_one (ps_set (i := 3) nd rfl (Or.inl rfl) (pe_slice sl_str (pv 3) (po_some pe_int) po_none))))
    (pss_cons (ps_set (i := 4) nd rfl (Or.inl rfl) (pe_f G.toks hr (by decide) pass0 (pa_cons (pv 3) pa_nil)))
    (pss_cons (ps_set (i := 5) nd rfl (Or.inl rfl) (pe_f G.read hr (by decide) pass0 (pa_cons (pv 3) pa_nil)))
    (pss_cons (ps_if (PW.pt (pw_or (pt_cmpR op_isN (pv 5) pe_non (nomark _)) (pw_or1 (pt_cmpR (op_eqD hu64) (pv 4) (pe_lst pa_nil) (nomark _)))))
      (pss_one (ps_ret pe_bl)) pss_nil)
    (pss_cons (ps_setLc (i := 6) (own := [("_law_sort", 7), ("_law_start", 8), ("_law_end", 9)]) (g := gTup K 3 (gCons (gName 7) (gCons (gName 8) (gCons (gName 9) gNil)))) (tt := tYes) (by rfl) nd rfl rfl (sw_true rfl rfl rfl (by decide +kernel)) (pi_list (pv 4)) (blkOk_by (N := ["_law_script", "_law_tape_here", "_law_out", "_law_text", "_law_found", "_law_place", "_law_places", "_law_sort", "_law_start", "_law_end", "_law_number", "_law_before"]) (sc := defScope s_law) (by decide +kernel)) (fun _ _ _ _ _ => pg_tup (n := 3) rfl (pgs_cons (pg_name (i := 7) nd rfl (Or.inl rfl)) (pgs_cons (pg_name (i := 8) nd rfl (Or.inl rfl)) (pgs_cons (pg_name (i := 9) nd rfl (Or.inl rfl)) pgs_nil)))) (fun _ _ _ _ _ => pts_nil) (fun _ _ _ _ _ => (pe_tup (pa_cons (pv 8) (pa_cons (pv 9) pa_nil)))))
    (pss_cons (ps_if (pt_cmpR (op_eqD hu64) (pv 5) (pe_tup (pa_cons (pe_ix ix_tup (pe_ix ix_list (pv 6) (pe_un un_neg pe_int) (fun _ _ => rfl)) pe_int (fun _ _ => rfl)) (pa_cons (pe_ix ix_tup (pe_ix ix_list (pv 6) (pe_un un_neg pe_int) (fun _ _ => rfl)) pe_int (fun _ _ => rfl)) pa_nil))) (nomark _))
      (pss_one (ps_ret pe_bl)) pss_nil)
    (pss_cons (ps_if (pt_cmpR (op_notInD hu65) (pv 5) (pv 6) rfl)
      pss_never pss_nil)
    (pss_cons (ps_set (i := 10) nd rfl (Or.inl rfl) (pe_bm PySem.F.plainAttrs_list PySem.F.slot_list_index PySem.F.type_list_index (mt_indexD hu65) (pv 6) (pa_cons (pv 5) pa_nil)))
    (pss_cons (before_w (ps_if (pt_cmpR op_gt (pv 10) pe_int (nomark _))
      (pss_cons (ps_set (i := 9) nd rfl (Or.inl rfl) (pe_ix ix_tup (pe_ix ix_list (pv 6) (pe_op op_subT (pv 10) pe_int) (fun _ _ => rfl)) pe_int (fun _ _ => rfl)))
    (pss_cons (ps_set (i := 11) nd rfl (Or.inl rfl) (pe_f G.read hr (by decide) pass0 (pa_cons (pe_slice sl_str (pv 3) po_none (po_some (pv 9))) pa_nil)))
    (pss_one (ps_if (PW.pt (pw_and (pt_cmpR op_notN (pv 11) pe_non (nomark _)) (pw_and1 (pt_cmpR (op_neD hu64) (pv 11) (pe_tup (pa_cons (pv 9) (pa_cons (pv 9) pa_nil))) (nomark _)))))
      pss_never pss_nil)))) pss_nil) ?_)
    (pss_one (ps_ret (pe_f G.same hr (by decide) pass0 (pa_cons (pe_f G.read hr (by decide) pass0 (pa_cons (pe_slice sl_str (pv 3) po_none (po_some (pe_ix ix_tup (pv 5) pe_int (fun _ _ => rfl)))) pa_nil)) (pa_cons (pv 5) pa_nil))))))))))))))))))), ?_⟩
  · rintro D σ H ⟨t, x0, x2, l, rest, rfl, ht, hl, hc, q⟩
    refine ⟨_, rfl, t, 6, rfl, by decide, by decide, ht, fun k H1 hk hb1 ht1 => ⟨rfl, _, rfl, ifB _ (fun _ => ?_) (fun _ => q l H1 (by omega) (by omega) ht1)⟩⟩
    refine ⟨_, rfl, l, rfl, by omega, fun r as H2 s2 hL hT => ⟨sz (by show 0 ≤ 60; decide), fun p hp => ?_⟩⟩
    have s3 := same_new (Same.refl H2) hp (.lst [])
    have ht3 := (ht1.same s2).same s3
    refine ⟨_, _, dp_toks (s3 _ _ hL) (hT.same s3), .lst (SqL.of upd_same) .nil, toks_sh l, rfl, _, rfl, ?_⟩
    rw [eq_nil]
    by_cases hn : lex l 0 = []
    · exact iffF (by rw [decide_eq_true hn]; rfl) (q l _ (by omega) (by omega) ht3)
    · refine iftt (by rw [decide_eq_false hn]; rfl) ⟨_, rfl, _, rfl, t, l, rfl, ht3, by omega, hn, by omega, fun l' H3 h1 h2 _ ht4 => ?_⟩
      exact q l' H3 (by omega) h2 ht4
  · rintro D σ H ⟨x0, x1, x2, x5, x7, x8, x9, x11, l, r4, r6, bs, k, rfl, hl, hc, hr6, hB, hk, hrd, q⟩
    refine ⟨_, rfl, _, _, rfl, rfl, _, rfl, ifB _ (fun hk0 => ?_) (fun _ => q _ _ _ (Same.refl _))⟩
    have hk0 : (0 : Int) < (k : Int) := of_decide_eq_true hk0
    obtain ⟨j, rfl⟩ : ∃ j, k = j + 1 := ⟨k - 1, by omega⟩
    obtain ⟨t', ht'⟩ : ∃ t', (lex l 0)[j]? = some t' := ⟨_, List.getElem?_eq_getElem (by omega)⟩
    have hlen := hB.1
    rw [List.length_map] at hlen
    obtain ⟨b, hb⟩ : ∃ b, bs[j]? = some b := ⟨_, List.getElem?_eq_getElem (by omega)⟩
    have hbH := hB.2 j b (plOf t') hb (by rw [List.getElem?_map, ht']; rfl)
    refine ⟨_, rfl, _, rfl, j + 1, 1, rfl, rfl, by omega, r6, _, (j : Int), .ref b, rfl, rfl, SqL.of hr6, atI_nat (by rw [List.getElem?_map, hb]; rfl), b, _, 1, _, rfl, rfl, SqT.of hbH, atI_nat (j := 1) rfl, ?_⟩
    refine ⟨_, rfl, _, rfl, _, rfl, _, rfl, line_of hl, ?_⟩
    rw [cut_to]
    obtain ⟨e1, _⟩ := kinds_cut ht'
    refine ⟨l.take t'.2.2, rfl, by rw [List.length_take]; omega, by rw [e1, List.length_take]; have : (lex l 0).length = cnt l := rfl; omega, ?_⟩
    rcases hrd j t' rfl ht' with e | e
    · rw [e]
      exact fun H' s1 => ⟨_, rfl, rfl, _, rfl, iffF rfl (q _ _ _ s1)⟩
    · rw [e]
      intro p H' s1 hp
      refine ⟨_, rfl, rfl, _, rfl, iftt rfl ?_⟩
      refine ⟨_, rfl, _, rfl, _, rfl, sz (by show 2 ≤ 60; decide), fun p2 hp2 => ?_⟩
      have s2 := same_new (Same.refl H') hp2 (plV (t'.2.2, t'.2.2))
      refine ⟨_, _, dp_pl (t := (t'.2.2, t'.2.2)) (s2 _ _ hp), dp_pl (t := (t'.2.2, t'.2.2)) upd_same, plD_sh _, plD_sh _, _, rfl, ?_⟩
      rw [eqv_pl, decide_eq_true rfl]
      exact iffF rfl (q _ _ _ (fun b o e => s2 _ _ (s1 _ _ e)))
  refine ⟨_, rfl, a, ns, rfl, ha, hns, fun t H1 s1 ht1 => ?_⟩
  refine fun o ho => ⟨upd_same, [(.inr "text", .str "")], rfl, (by show 1 ≤ 15; decide), ?_⟩
  have sO : Same H1 (upd (upd H1 o (.dK [])) o (.dK (ouL (tx [])))) := fun b x e => by
    have nb : b ≠ o := ne_of_none e ho
    rw [upd_ne nb, upd_ne nb]
    exact e
  have g0 : GenAt (upd (upd H1 o (.dK [])) o (.dK (ouL (tx [])))) t o 0 := ⟨ht1.same sO, [], upd_same, Nat.le_refl _, Nat.le_refl _, rfl⟩
  refine ⟨_, rfl, _, rfl, t, o, 0, rfl, by decide, g0, fun _ H2 g2 ne2 => ?_⟩
  obtain ⟨_, ⟨ht2, l, ho2, hl2, hb2, hh2⟩, _⟩ := g2
  have hc2 : cnt l ≤ 272 := by have := cnt_bnd l; omega
  have hn2 : lex l 0 ≠ [] := by
    obtain ⟨l', e1, e2⟩ := ne2
    rw [ho2] at e1
    injection e1 with e1
    injection e1 with e1
    have e3 : some (V.str (tx l)) = some (V.str (tx l')) := congrArg (fun z : List (Key × V) => z.head?.map Prod.snd) e1
    have e3 := Option.some.inj e3
    injection e3 with e3
    have e3 := tx_inj e3
    subst e3
    cases l with
    | nil => exact absurd rfl e2
    | cons c r =>
      have hh : (!(decide (c = 32) || decide (c = 10) || decide (c = 35))) = true := hh2
      simp at hh
      rw [lex_tok (by rintro (z | z) <;> omega) (by omega)]
      exact List.cons_ne_nil _ _
  refine ⟨_, rfl, _, rfl, o, _, rfl, get_text ho2, t, l, rfl, ht2, by omega, hn2, by omega, fun l3 H3 hl3 hc3 hb3 ht3 => ?_⟩
  refine ⟨t, _, _, l3, _, rfl, ht3, by omega, by omega, fun l4 H4 hl4 hc4 ht4 => ?_⟩
  -- the spaces ahead
  refine ⟨fun m σ H' => ∃ l5, m = l5.length ∧ l5.length ≤ 50000 ∧ cnt l5 ≤ 290 ∧ σ = [some (.ref a), some (.ref t.1), some (.ref o), some (.str (tx l5)), none, none, none, none, none, none, none, none] ∧ H' = H4, ⟨_, l4, rfl, hl4, by omega, rfl, rfl⟩, ?_⟩
  rintro m σ H' ⟨l, rfl, hl, hc, rfl, rfl⟩
  have one : ∀ c : Nat, l.take 1 = [c] → (c = 32 ∨ c = 10) → ∃ r, l = c :: r ∧ cnt r = cnt l := fun c e hcc => by
    cases l with
    | nil => cases e
    | cons d r =>
      have : d = c := by simpa using e
      subst this
      exact ⟨r, rfl, (cnt_sp hcc).symm⟩
  have e1 : cutS (tx l) none (some 1) = tx (l.take 1) := cut_to l 1
  have e2 : cutS (tx l) (some 1) none = tx (l.drop 1) := cut_from l 1
  have e10 : (Str.ofString "\n" : Str) = tx [10] := sg10
  refine ⟨_, rfl, _, rfl, _, rfl, line_of (by show l.length ≤ 100000; omega), rfl, _, rfl, ?_⟩
  rw [e1, sp_tx, dec_tx]
  by_cases h32 : l.take 1 = [32]
  · obtain ⟨r, rfl, hcr⟩ := one 32 h32 (.inl rfl)
    refine iftt (decide_eq_true h32) (iftt rfl ⟨_, fun _ _ z => z, _, rfl, _, rfl, _, rfl, line_of (by show (32 :: r).length ≤ 100000; omega), ?_⟩)
    rw [e2]
    have hl' : r.length + 1 ≤ 50000 := hl
    exact ⟨r.length, Nat.lt_succ_self _, r, rfl, by omega, by omega, rfl, rfl⟩
  refine iffF (decide_eq_false h32) ⟨_, rfl, _, rfl, _, rfl, line_of (by show l.length ≤ 100000; omega), rfl, _, rfl, ?_⟩
  rw [e1, e10, dec_tx]
  by_cases h10 : l.take 1 = [10]
  · obtain ⟨r, rfl, hcr⟩ := one 10 h10 (.inr rfl)
    refine iftt (decide_eq_true h10) ⟨_, fun _ _ z => z, _, rfl, _, rfl, _, rfl, line_of (by show (10 :: r).length ≤ 100000; omega), ?_⟩
    rw [e2]
    have hl' : r.length + 1 ≤ 50000 := hl
    exact ⟨r.length, Nat.lt_succ_self _, r, rfl, by omega, by omega, rfl, rfl⟩
  refine iffF (decide_eq_false h10) ?_
  clear one e1 e2 e10 h32 h10
  refine ⟨_, rfl, l, rfl, by omega, fun r as H5 s5 hL hT => ?_⟩
  have hcl : (lex l 0).length = cnt l := rfl
  refine ⟨_, rfl, l, rfl, by omega, by omega, ?_⟩
  cases hrd : rd l with
  | none => exact fun H6 s6 => ⟨_, rfl, rfl, _, rfl, iftt rfl (iftt rfl (q _))⟩
  | some pl =>
    obtain ⟨ps, pe⟩ := pl
    intro p H6 s6 hp
    have hp : H6 p = some (plV (ps, pe)) := hp
    refine ⟨_, rfl, rfl, _, rfl, iffF rfl ⟨_, rfl, sz (by show 0 ≤ 60; decide), fun pz hpz => ?_⟩⟩
    have s7 := same_new (Same.refl H6) hpz (.lst [])
    refine ⟨_, _, dp_toks (s7 _ _ (s6 _ _ hL)) ((hT.same s6).same s7), .lst (SqL.of upd_same) .nil, toks_sh l, rfl, _, rfl, ?_⟩
    rw [eq_nil]
    by_cases hn : lex l 0 = []
    · exact iftt (decide_eq_true hn) (q _)
    refine iffF (decide_eq_false hn) ?_
    have hL7 := s7 _ _ (s6 _ _ hL)
    have hT7 := (hT.same s6).same s7
    have hp7 := s7 _ _ hp
    generalize upd H6 pz (HO.lst []) = H7 at s7 hL7 hT7 hp7 ⊢
    clear hpz hp
    refine ⟨_, rfl, r, rfl, ⟨_, SqL.of hL7⟩, fun D hD => ?_⟩
    refine lc_list (xs := as.map V.ref) (fun i H' => ∃ bs : List Addr, H' D = some (.lst (bs.map V.ref)) ∧ PlsAt H' bs (((lex l 0).take i).map plOf) ∧ Same H7 H') ⟨[], upd_same, ⟨rfl, fun i a t h => by simp at h⟩, same_new (Same.refl H7) hD _⟩ (fun i H' _ p => SqL.of (p.choose_spec.2.2 _ _ hL7)) ?_ ?_
    · rintro i x H' hx ⟨bs, hD', hB, s8⟩
      have hi : i < as.length := by
        obtain ⟨h1, _⟩ := List.getElem?_eq_some_iff.mp hx
        rw [List.length_map] at h1
        exact h1
      have hai : as[i]? = some as[i] := List.getElem?_eq_getElem hi
      generalize as[i] = ai at hai
      obtain rfl : V.ref ai = x := by
        rw [List.getElem?_map, hai] at hx
        exact Option.some.inj hx
      have hlen : as.length = (lex l 0).length := hT7.1
      obtain ⟨tk, htk⟩ : ∃ tk, (lex l 0)[i]? = some tk := ⟨_, List.getElem?_eq_getElem (by omega)⟩
      have hai8 := s8 _ _ (hT7.2 i ai tk hai htk)
      have hblen := hB.1
      rw [List.length_map, List.length_take] at hblen
      refine ⟨ai, _, rfl, SqT.of hai8, rfl, _, _, rfl, _, _, rfl, _, _, rfl, rfl, rfl, _, rfl, _, rfl, sz (by show 2 ≤ 60; decide), fun p9 hp9 => ?_⟩
      have s9 := same_new (Same.refl H') hp9 (plV (plOf tk))
      have hD9 := s9 _ _ hD'
      have np9 : p9 ≠ D := fun e => by rw [e, hD'] at hp9; cases hp9
      refine ⟨_, hD9, by rw [List.length_map]; exact Nat.lt_of_le_of_lt (show bs.length ≤ 100000 by omega) (by rw [sizeLine_eq]; decide), bs ++ [p9], by rw [upd_same, List.map_append]; rfl, ?_, same_mut (fun b o e => s9 b o (s8 b o e)) hD _⟩
      rw [List.take_add_one, htk, List.map_append]
      have hB9 := (hB.same s9).but (r := D) (fun xs e => by rw [hD9] at e; cases e) (fun b o n e => by rw [upd_ne n]; exact e) (H' := upd (upd H' p9 (plV (plOf tk))) D (.lst (bs.map V.ref ++ [V.ref p9])))
      exact hB9.more (by rw [upd_ne np9]; exact upd_same)
    · rintro H8 ⟨bs, hD8, hB, s8⟩
      have hall : (lex l 0).take (as.map V.ref).length = lex l 0 := by
        rw [List.length_map, hT7.1]
        exact List.take_length
      rw [hall] at hB
      have hp8 := s8 _ _ hp7
      obtain ⟨tl, htl, _⟩ := last_of hn
      obtain ⟨bl, hbl, hblH⟩ := at_last hB (t := plOf tl) (by rw [List.getLast?_map, htl]; rfl)
      refine ⟨_, rfl, _, rfl, 1, rfl, D, _, -1, _, rfl, rfl, SqL.of hD8, hbl, bl, _, 1, _, rfl, rfl, SqT.of hblH, atI_nat (j := 1) rfl, _, rfl, 1, rfl, D, _, -1, _, rfl, rfl, SqL.of hD8, hbl, bl, _, 1, _, rfl, rfl, SqT.of hblH, atI_nat (j := 1) rfl, sz (by show 2 ≤ 60; decide), fun p9 hp9 => ?_⟩
      have s9 := same_new (Same.refl H8) hp9 (HO.tup [V.int ((plOf tl).2 : Int), V.int ((plOf tl).2 : Int)])
      have hp9' := s9 _ _ hp8
      have hD9 := s9 _ _ hD8
      have hB9 := hB.same s9
      refine ⟨_, _, dp_pl (t := (ps, pe)) hp9', dp_pl (t := (tl.2.2, tl.2.2)) upd_same, plD_sh _, plD_sh _, _, rfl, ?_⟩
      rw [eqv_pl]
      by_cases he : (ps, pe) = (tl.2.2, tl.2.2)
      · exact iftt (decide_eq_true he) (q _)
      refine iffF (decide_eq_false he) ?_
      rcases plain hn hrd with ⟨t0, h1, h2⟩ | ⟨b, tb, hb1, hb2, hb3, hb4, hb5⟩
      · rw [htl] at h1
        cases h1
        exact absurd h2 he
      generalize upd H8 p9 (HO.tup [V.int ((plOf tl).2 : Int), V.int ((plOf tl).2 : Int)]) = H9 at s9 hp9' hD9 hB9 ⊢
      have hds : (((lex l 0).map plOf).map plD)[b]? = some (plD (ps, pe)) := by
        rw [List.getElem?_map, List.getElem?_map, hb1, hb2]
        rfl
      refine ⟨_, rfl, _, rfl, plD (ps, pe), ((lex l 0).map plOf).map plD, dp_pl hp9', dp_pls hD9 hB9, plD_sh _, pls_sh _, _, rfl, iffF ?_ ?_⟩
      · rw [Bool.not_eq_false']
        exact List.any_eq_true.mpr ⟨_, List.mem_of_getElem? hds, by rw [eqv_pl]; exact decide_eq_true rfl⟩
      refine ⟨_, rfl, Or.inl ⟨rfl, _, SqL.of hD9⟩, _, rfl, D, _, plD (ps, pe), ((lex l 0).map plOf).map plD, b, plD (ps, pe), rfl, rfl, dp_pls hD9 hB9, dp_pl hp9', pls_sh _, plD_sh _, hds, by rw [eqv_pl]; exact decide_eq_true rfl, ?_, ?_⟩
      · intro m z' hm hz'
        rw [List.getElem?_map, List.getElem?_map] at hz'
        obtain ⟨y, hy, rfl⟩ := Option.map_eq_some_iff.mp hz'
        obtain ⟨t', ht', rfl⟩ := Option.map_eq_some_iff.mp hy
        rw [eqv_pl]
        exact decide_eq_false (hb3 m t' hm ht')
      have hbl2 := (List.getElem?_eq_some_iff.mp hb1).1
      refine ⟨_, _, _, _, _, _, _, _, l, r, D, bs, b, rfl, by omega, by omega, hD9, hB9, hbl2, hb5, fun y9 y11 H10 s10 => ?_⟩
      have hp10 := s10 _ _ hp9'
      injection hb2 with e1 e2
      subst e1 e2
      refine ⟨_, rfl, _, rfl, p, _, 1, _, rfl, rfl, SqT.of hp10, atI_nat (j := 1) rfl, _, rfl, _, rfl, line_of (by show l.length ≤ 100000; omega), ?_⟩
      rw [cut_to]
      obtain ⟨k1, _⟩ := kinds_cut hb1
      refine ⟨l.take tb.2.2, rfl, by rw [List.length_take]; omega, by rw [k1, List.length_take]; omega, ?_⟩
      rw [hb4]
      exact fun p2 H11 s11 hp11 => ⟨_, rfl, p2, p, _, _, rfl, hp11, s11 _ _ hp10, q _⟩
end
end K10
/-! The head: facts by names, the run. Printed by gen_hd.py. -/
namespace K10
open PySem PySem.Spec PyProof.Rows L2
def d_sp_init : He.DefD := ⟨("SyntaxProblem", some "__init__"), "__init__", "SyntaxProblem.__init__", defArgs s_sp_init, defBody s_sp_init, defScope s_sp_init, [], []⟩
def d_run_end : He.DefD := ⟨("run_end", none), "run_end", "run_end", defArgs s_run_end, defBody s_run_end, defScope s_run_end, [], []⟩
def d_token_at : He.DefD := ⟨("token_at", none), "token_at", "token_at", defArgs s_token_at, defBody s_token_at, defScope s_token_at, [], []⟩
def d_tokens_between : He.DefD := ⟨("tokens_between", none), "tokens_between", "tokens_between", defArgs s_tokens_between, defBody s_tokens_between, defScope s_tokens_between, [], []⟩
def d_tokens : He.DefD := ⟨("tokens", none), "tokens", "tokens", defArgs s_tokens, defBody s_tokens, defScope s_tokens, [], []⟩
def d_number_value : He.DefD := ⟨("number_value", none), "number_value", "number_value", defArgs s_number_value, defBody s_number_value, defScope s_number_value, [], []⟩
def d_r_init : He.DefD := ⟨("Reader", some "__init__"), "__init__", "Reader.__init__", defArgs s_r_init, defBody s_r_init, defScope s_r_init, [], []⟩
def d_r_place : He.DefD := ⟨("Reader", some "place"), "place", "Reader.place", defArgs s_r_place, defBody s_r_place, defScope s_r_place, [], []⟩
def d_r_need : He.DefD := ⟨("Reader", some "need"), "need", "Reader.need", defArgs s_r_need, defBody s_r_need, defScope s_r_need, [], []⟩
def d_r_sort_now : He.DefD := ⟨("Reader", some "sort_now"), "sort_now", "Reader.sort_now", defArgs s_r_sort_now, defBody s_r_sort_now, defScope s_r_sort_now, [], []⟩
def d_r_fixed : He.DefD := ⟨("Reader", some "fixed"), "fixed", "Reader.fixed", defArgs s_r_fixed, defBody s_r_fixed, defScope s_r_fixed, [], []⟩
def d_r_last_end : He.DefD := ⟨("Reader", some "last_end"), "last_end", "Reader.last_end", defArgs s_r_last_end, defBody s_r_last_end, defScope s_r_last_end, [], []⟩
def d_r_take : He.DefD := ⟨("Reader", some "take"), "take", "Reader.take", defArgs s_r_take, defBody s_r_take, defScope s_r_take, [], []⟩
def d_r_try_take : He.DefD := ⟨("Reader", some "try_take"), "try_take", "Reader.try_take", defArgs s_r_try_take, defBody s_r_try_take, defScope s_r_try_take, [], []⟩
def d_r_mark : He.DefD := ⟨("Reader", some "mark"), "mark", "Reader.mark", defArgs s_r_mark, defBody s_r_mark, defScope s_r_mark, [], []⟩
def d_r_marks : He.DefD := ⟨("Reader", some "marks"), "marks", "Reader.marks", defArgs s_r_marks, defBody s_r_marks, defScope s_r_marks, [], []⟩
def d_r_finish : He.DefD := ⟨("Reader", some "finish"), "finish", "Reader.finish", defArgs s_r_finish, defBody s_r_finish, defScope s_r_finish, [], []⟩
def d_r_field : He.DefD := ⟨("Reader", some "field"), "field", "Reader.field", defArgs s_r_field, defBody s_r_field, defScope s_r_field, [], []⟩
def d_r_fields : He.DefD := ⟨("Reader", some "fields"), "fields", "Reader.fields", defArgs s_r_fields, defBody s_r_fields, defScope s_r_fields, [], []⟩
def d_r_bound : He.DefD := ⟨("Reader", some "bound"), "bound", "Reader.bound", defArgs s_r_bound, defBody s_r_bound, defScope s_r_bound, [], []⟩
def d_r_begin : He.DefD := ⟨("Reader", some "begin"), "begin", "Reader.begin", defArgs s_r_begin, defBody s_r_begin, defScope s_r_begin, [], []⟩
def d_r_value : He.DefD := ⟨("Reader", some "value"), "value", "Reader.value", defArgs s_r_value, defBody s_r_value, defScope s_r_value, [], []⟩
def d_r_let_value : He.DefD := ⟨("Reader", some "let_value"), "let_value", "Reader.let_value", defArgs s_r_let_value, defBody s_r_let_value, defScope s_r_let_value, [], []⟩
def d_r_if_value : He.DefD := ⟨("Reader", some "if_value"), "if_value", "Reader.if_value", defArgs s_r_if_value, defBody s_r_if_value, defScope s_r_if_value, [], []⟩
def d_r_loop_value : He.DefD := ⟨("Reader", some "loop_value"), "loop_value", "Reader.loop_value", defArgs s_r_loop_value, defBody s_r_loop_value, defScope s_r_loop_value, [], []⟩
def d_r_either : He.DefD := ⟨("Reader", some "either"), "either", "Reader.either", defArgs s_r_either, defBody s_r_either, defScope s_r_either, [], []⟩
def d_r_negated : He.DefD := ⟨("Reader", some "negated"), "negated", "Reader.negated", defArgs s_r_negated, defBody s_r_negated, defScope s_r_negated, [], []⟩
def d_r_compared : He.DefD := ⟨("Reader", some "compared"), "compared", "Reader.compared", defArgs s_r_compared, defBody s_r_compared, defScope s_r_compared, [], []⟩
def d_r_chain : He.DefD := ⟨("Reader", some "chain"), "chain", "Reader.chain", defArgs s_r_chain, defBody s_r_chain, defScope s_r_chain, [], []⟩
def d_r_signed : He.DefD := ⟨("Reader", some "signed"), "signed", "Reader.signed", defArgs s_r_signed, defBody s_r_signed, defScope s_r_signed, [], []⟩
def d_r_reached : He.DefD := ⟨("Reader", some "reached"), "reached", "Reader.reached", defArgs s_r_reached, defBody s_r_reached, defScope s_r_reached, [], []⟩
def d_r_simple : He.DefD := ⟨("Reader", some "simple"), "simple", "Reader.simple", defArgs s_r_simple, defBody s_r_simple, defScope s_r_simple, [], []⟩
def d_r_arguments : He.DefD := ⟨("Reader", some "arguments"), "arguments", "Reader.arguments", defArgs s_r_arguments, defBody s_r_arguments, defScope s_r_arguments, [], []⟩
def d_read_import : He.DefD := ⟨("read_import", none), "read_import", "read_import", defArgs s_read_import, defBody s_read_import, defScope s_read_import, [], []⟩
def d_read_data : He.DefD := ⟨("read_data", none), "read_data", "read_data", defArgs s_read_data, defBody s_read_data, defScope s_read_data, [], []⟩
def d_read_trait : He.DefD := ⟨("read_trait", none), "read_trait", "read_trait", defArgs s_read_trait, defBody s_read_trait, defScope s_read_trait, [], []⟩
def d_read_impl : He.DefD := ⟨("read_impl", none), "read_impl", "read_impl", defArgs s_read_impl, defBody s_read_impl, defScope s_read_impl, [], []⟩
def d_read_bounds : He.DefD := ⟨("read_bounds", none), "read_bounds", "read_bounds", defArgs s_read_bounds, defBody s_read_bounds, defScope s_read_bounds, [], []⟩
def d_read_def : He.DefD := ⟨("read_def", none), "read_def", "read_def", defArgs s_read_def, defBody s_read_def, defScope s_read_def, [], []⟩
def d_read_item : He.DefD := ⟨("read_item", none), "read_item", "read_item", defArgs s_read_item, defBody s_read_item, defScope s_read_item, [], []⟩
def d_g_tape : He.DefD := ⟨("_law_tape", none), "_law_tape", "_law_tape", defArgs s_g_tape, defBody s_g_tape, defScope s_g_tape, [], []⟩
def d_g_take : He.DefD := ⟨("_law_take", none), "_law_take", "_law_take", defArgs s_g_take, defBody s_g_take, defScope s_g_take, [], []⟩
def d_g_is_integer : He.DefD := ⟨("_law_is_integer", none), "_law_is_integer", "_law_is_integer", defArgs s_g_is_integer, defBody s_g_is_integer, defScope s_g_is_integer, [], []⟩
def d_g_same_items : He.DefD := ⟨("_law_same_items", none), "_law_same_items", "_law_same_items", defArgs s_g_same_items, defBody s_g_same_items, defScope s_g_same_items, [], []⟩
def d_g_same : He.DefD := ⟨("_law_same", none), "_law_same", "_law_same", defArgs s_g_same, defBody s_g_same, defScope s_g_same, [], []⟩
def d_g_put : He.DefD := ⟨("_law_put", none), "_law_put", "_law_put", defArgs s_g_put, defBody s_g_put, defScope s_g_put, [], []⟩
def d_g_gap : He.DefD := ⟨("_law_gap", none), "_law_gap", "_law_gap", defArgs s_g_gap, defBody s_g_gap, defScope s_g_gap, [], []⟩
def d_g_token_out : He.DefD := ⟨("_law_token_out", none), "_law_token_out", "_law_token_out", defArgs s_g_token_out, defBody s_g_token_out, defScope s_g_token_out, [], []⟩
def d_g_some_name : He.DefD := ⟨("_law_some_name", none), "_law_some_name", "_law_some_name", defArgs s_g_some_name, defBody s_g_some_name, defScope s_g_some_name, [], []⟩
def d_g_tree : He.DefD := ⟨("_law_tree", none), "_law_tree", "_law_tree", defArgs s_g_tree, defBody s_g_tree, defScope s_g_tree, [], []⟩
def d_g_leaf : He.DefD := ⟨("_law_leaf", none), "_law_leaf", "_law_leaf", defArgs s_g_leaf, defBody s_g_leaf, defScope s_g_leaf, [], []⟩
def d_g_call : He.DefD := ⟨("_law_call", none), "_law_call", "_law_call", defArgs s_g_call, defBody s_g_call, defScope s_g_call, [], []⟩
def d_g_reach : He.DefD := ⟨("_law_reach", none), "_law_reach", "_law_reach", defArgs s_g_reach, defBody s_g_reach, defScope s_g_reach, [], []⟩
def d_g_prefix : He.DefD := ⟨("_law_prefix", none), "_law_prefix", "_law_prefix", defArgs s_g_prefix, defBody s_g_prefix, defScope s_g_prefix, [], []⟩
def d_g_binary : He.DefD := ⟨("_law_binary", none), "_law_binary", "_law_binary", defArgs s_g_binary, defBody s_g_binary, defScope s_g_binary, [], []⟩
def d_g_wide : He.DefD := ⟨("_law_wide", none), "_law_wide", "_law_wide", defArgs s_g_wide, defBody s_g_wide, defScope s_g_wide, [], []⟩
def d_g_mark : He.DefD := ⟨("_law_mark", none), "_law_mark", "_law_mark", defArgs s_g_mark, defBody s_g_mark, defScope s_g_mark, [], []⟩
def d_g_list : He.DefD := ⟨("_law_list", none), "_law_list", "_law_list", defArgs s_g_list, defBody s_g_list, defScope s_g_list, [], []⟩
def d_g_brackets : He.DefD := ⟨("_law_brackets", none), "_law_brackets", "_law_brackets", defArgs s_g_brackets, defBody s_g_brackets, defScope s_g_brackets, [], []⟩
def d_g_def : He.DefD := ⟨("_law_def", none), "_law_def", "_law_def", defArgs s_g_def, defBody s_g_def, defScope s_g_def, [], []⟩
def d_g_item : He.DefD := ⟨("_law_item", none), "_law_item", "_law_item", defArgs s_g_item, defBody s_g_item, defScope s_g_item, [], []⟩
def d_g_is_letter : He.DefD := ⟨("_law_is_letter", none), "_law_is_letter", "_law_is_letter", defArgs s_g_is_letter, defBody s_g_is_letter, defScope s_g_is_letter, [], []⟩
def d_g_is_digit : He.DefD := ⟨("_law_is_digit", none), "_law_is_digit", "_law_is_digit", defArgs s_g_is_digit, defBody s_g_is_digit, defScope s_g_is_digit, [], []⟩
def d_g_run : He.DefD := ⟨("_law_run", none), "_law_run", "_law_run", defArgs s_g_run, defBody s_g_run, defScope s_g_run, [], []⟩
def d_g_token : He.DefD := ⟨("_law_token", none), "_law_token", "_law_token", defArgs s_g_token, defBody s_g_token, defScope s_g_token, [], []⟩
def d_g_tokens : He.DefD := ⟨("_law_tokens", none), "_law_tokens", "_law_tokens", defArgs s_g_tokens, defBody s_g_tokens, defScope s_g_tokens, [], []⟩
def d_g_read : He.DefD := ⟨("_law_read", none), "_law_read", "_law_read", defArgs s_g_read, defBody s_g_read, defScope s_g_read, [], []⟩
def d_g_spoilt : He.DefD := ⟨("_law_spoilt", none), "_law_spoilt", "_law_spoilt", defArgs s_g_spoilt, defBody s_g_spoilt, defScope s_g_spoilt, [], []⟩
def d_law : He.DefD := ⟨("law", none), "law", "law", defArgs s_law, defBody s_law, defScope s_law, [], []⟩
def fnL : List He.DefD := [d_sp_init, d_run_end, d_token_at, d_tokens_between, d_tokens, d_number_value, d_r_init, d_r_place, d_r_need, d_r_sort_now, d_r_fixed, d_r_last_end, d_r_take, d_r_try_take, d_r_mark, d_r_marks, d_r_finish, d_r_field, d_r_fields, d_r_bound, d_r_begin, d_r_value, d_r_let_value, d_r_if_value, d_r_loop_value, d_r_either, d_r_negated, d_r_compared, d_r_chain, d_r_signed, d_r_reached, d_r_simple, d_r_arguments, d_read_import, d_read_data, d_read_trait, d_read_impl, d_read_bounds, d_read_def, d_read_item, d_g_tape, d_g_take, d_g_is_integer, d_g_same_items, d_g_same, d_g_put, d_g_gap, d_g_token_out, d_g_some_name, d_g_tree, d_g_leaf, d_g_call, d_g_reach, d_g_prefix, d_g_binary, d_g_wide, d_g_mark, d_g_list, d_g_brackets, d_g_def, d_g_item, d_g_is_letter, d_g_is_digit, d_g_run, d_g_token, d_g_tokens, d_g_read, d_g_spoilt, d_law]
def fa0 : List He.Fa := [.glo "ServerError", .glo "SyntaxProblem", .glo "WORDS", .glo "run_end", .glo "token_at", .glo "tokens_between", .glo "tokens", .glo "number_value", .glo "LEVELS", .glo "SUMS", .glo "PRODUCTS", .glo "Reader", .glo "read_import", .glo "read_data", .glo "read_trait", .glo "read_impl", .glo "read_bounds", .glo "read_def", .glo "ITEM_READERS", .glo "read_item", .glo "_law_tape", .glo "_law_take", .glo "_law_is_integer", .glo "_law_same_items", .glo "_law_same", .glo "_law_put", .glo "_law_gap", .glo "_law_token_out", .glo "_law_some_name", .glo "_law_tree", .glo "_law_leaf", .glo "_law_call", .glo "_law_reach", .glo "_law_prefix", .glo "_law_binary", .glo "_law_wide", .glo "_law_mark", .glo "_law_list", .glo "_law_brackets", .glo "_law_def"]
def fa1 : List He.Fa := [.glo "_law_item", .glo "_law_is_letter", .glo "_law_is_digit", .glo "_law_run", .glo "_law_token", .glo "_law_tokens", .glo "_law_read", .glo "_law_spoilt", .glo "law", .free "len", .free "tuple", .free "abs", .free "int", .free "isinstance", .free "bool", .free "str", .free "list", .free "dict", .free "range", .str "LETTERS" "abcdefghijklmnopqrstuvwxyzABCDEFGHIJKLMNOPQRSTUVWXYZ", .str "DIGITS" "0123456789", .str "NAME_CHARACTERS" "abcdefghijklmnopqrstuvwxyzABCDEFGHIJKLMNOPQRSTUVWXYZ0123456789_", .str "SIGNS" "()[],:.=<+-*/", .int "MOST_TOKENS" 300, .int "MOST_DEPTH" 30, .cls "Reader", .noat "Reader" "text", .noat "Reader" "tokens", .noat "Reader" "at", .noat "Reader" "depth", .meth "Reader" "place", .meth "Reader" "need", .meth "Reader" "sort_now", .meth "Reader" "fixed", .meth "Reader" "last_end", .meth "Reader" "take", .meth "Reader" "try_take", .meth "Reader" "mark", .meth "Reader" "marks", .meth "Reader" "finish"]
def fa2 : List He.Fa := [.meth "Reader" "field", .meth "Reader" "fields", .meth "Reader" "bound", .meth "Reader" "begin", .meth "Reader" "value", .meth "Reader" "let_value", .meth "Reader" "if_value", .meth "Reader" "loop_value", .meth "Reader" "either", .meth "Reader" "negated", .meth "Reader" "compared", .meth "Reader" "chain", .meth "Reader" "signed", .meth "Reader" "reached", .meth "Reader" "simple", .meth "Reader" "arguments", .mkr "Reader", .noat "SyntaxProblem" "start", .noat "SyntaxProblem" "end", .exm "SyntaxProblem" "SyntaxProblem" true, .keep "SyntaxProblem"]
def faL : List He.Fa := fa0 ++ fa1 ++ fa2
def wordsD : List He.Dv := [.str "import", .str "data", .str "trait", .str "with", .str "impl", .str "for", .str "def", .str "let", .str "in", .str "if", .str "then", .str "else", .str "loop", .str "times", .str "do", .str "not", .str "and", .str "or", .str "True", .str "False"]
/-- the i-th item of a tuple, an address -/
def itAt (K : PySem.W.Frag) (a : Addr) (i : Nat) : Addr := match K.lookup a with
  | some ⟨_, _, .seq its _, _⟩ => (match its.toList[i]? with
    | some (.ref b) => b
    | _ => 0)
  | _ => 0
/-- at a stands a tuple of these -/
def tupA (K : PySem.W.Frag) (a : Addr) (vs : List He.Dv) : Bool := match K.lookup a with
  | some ⟨.type c, _, .seq its _, _⟩ => decide (c = "tuple") && (decide (its.size ≤ sizeLine) && He.relAll (vs.map (He.Dv.v K)) its.toList)
  | _ => false
/-- an own exception class, its chain ending with ValueError's -/
def oexB (K : PySem.W.Frag) (C : Addr) : Bool := match K.lookup C with
  | some ⟨.type "type", _, .cls cd, sl⟩ => (match cd.mro, sl.toList with
    | .ref c :: bm, [_, _, _, _, some (.builtin n), _] => decide (c = C) && (decide (n = "ValueError.__new__") && (!cd.hasDel && (cd.hasDict && PySem.HandSPX.refsVE bm)))
    | _, _ => false)
  | _ => false
def readersD : List (Str × He.Dv) := [("import", .glo "read_import"), ("data", .glo "read_data"), ("trait", .glo "read_trait"), ("impl", .glo "read_impl"), ("def", .glo "read_def")]
def readersK : List Str := ["import", "data", "trait", "impl", "def"]
def moreB (K : PySem.W.Frag) : Bool := He.tupB K "WORDS" wordsD && (He.tupB K "SUMS" [.str "+", .str "-"] && (He.tupB K "PRODUCTS" [.str "*", .str "/"] && (He.tupB K "LEVELS" [.adr fun K => itAt K (He.ga K "LEVELS") 0, .adr fun K => itAt K (He.ga K "LEVELS") 1] &&
  (tupA K (itAt K (He.ga K "LEVELS") 0) [.str "or"] && (tupA K (itAt K (He.ga K "LEVELS") 1) [.str "and"] && (He.valsB K (He.ga K "ITEM_READERS") readersD && (oexB K (He.ga K "SyntaxProblem") && (xfB K (He.ga K "SyntaxProblem") &&
  (decide (PySem.W.findIn K (.ref (He.ga K "SyntaxProblem")) "__setattr__" = some (some (.builtin "object.__setattr__"))) && (decide (PySem.W.typeIn K (.ref (He.ga K "SyntaxProblem")) = some (.type "type")) &&
  (decide (PySem.W.findIn K (.ref (He.ga K "SyntaxProblem")) "__init__" = some (some (.ref (He.ma K (He.ga K "SyntaxProblem") "__init__")))) && decide (PySem.W.typeIn K (.ref (He.ma K (He.ga K "SyntaxProblem") "__init__")) = some (.type "function")))))))))))))
def tabL : List He.Tab := [(fun K => He.ga K "ITEM_READERS", readersK)]
abbrev R : PySem.W.OpenRow := PySem.W.OpenLaw.row PySem.Challenge.rw_samenames_k10_first_wrong_token
abbrev hkL : PySem.W.Hook := He.hookX 5 faL fnL tabL [] moreB
def obL (s : PySem.W.SharedT) : He.AlX := He.obsX 5 faL fnL tabL [] moreB (HandSHeadRun.getT s)
theorem obL_eq (s : PySem.W.SharedT) : obL s = hkL.obs s.abs := He.obsX_eq (HandSHeadRun.getT_eq s)
def lo0 : List PySem.Str := ["ServerError", "SyntaxProblem", "LETTERS", "DIGITS", "NAME_CHARACTERS", "SIGNS", "WORDS", "run_end", "token_at", "tokens_between", "tokens", "number_value", "MOST_TOKENS", "MOST_DEPTH", "LEVELS", "SUMS", "PRODUCTS", "Reader", "read_import", "read_data", "read_trait", "read_impl", "read_bounds", "read_def", "ITEM_READERS", "read_item", "_law_tape", "_law_take", "_law_is_integer", "_law_same_items"]
def lo1 : List PySem.Str := ["_law_same", "_law_put", "_law_gap", "_law_token_out", "_law_some_name", "_law_tree", "_law_leaf", "_law_call", "_law_reach", "_law_prefix", "_law_binary", "_law_wide", "_law_mark", "_law_list", "_law_brackets", "_law_def", "_law_item", "_law_is_letter", "_law_is_digit", "_law_run", "_law_token", "_law_tokens", "_law_read", "_law_spoilt"]
def looseL : List PySem.Str := lo0 ++ lo1
theorem runF (w : World) : HandSHeadRun.RunEq R (PySem.W.view R.prog [59]) hkL obL 4000 looseL (w.withFollow "special-get-raises" false) := by
  intro os
  kernel_rfl
theorem runT (w : World) : HandSHeadRun.RunEq R (PySem.W.view R.prog [59]) hkL obL 4000 looseL (w.withFollow "special-get-raises" true) := by
  intro os
  kernel_rfl
theorem runL (w : World) : HandSHeadRun.RunEq R (PySem.W.view R.prog [59]) hkL obL 4000 looseL w := PySem.W.byRow2 (P := fun w => HandSHeadRun.RunEq R (PySem.W.view R.prog [59]) hkL obL 4000 looseL w) "special-get-raises" runF runT w
end K10
/-! What the head's facts say. -/
namespace K10
open PySem PySem.Spec PyProof.Rows L2
theorem tupA_ok {K : PySem.W.Frag} {a : Addr} {vs : List He.Dv} (h : tupA K a vs = true) (H : Hp) : SqT K H a (vs.map (He.Dv.v K)) := by
  unfold tupA at h
  cases q : K.lookup a with
  | none =>
    rw [q] at h
    cases h
  | some o =>
    obtain ⟨oc, od, dt, osl⟩ := o
    rw [q] at h
    cases oc with
    | type c =>
      cases dt with
      | seq its n =>
        obtain ⟨h1, h2⟩ := He.ba (show (decide (c = "tuple") && (decide (its.size ≤ sizeLine) && He.relAll (vs.map (He.Dv.v K)) its.toList)) = true from h)
        obtain ⟨h3, h4⟩ := He.ba h2
        exact .inr ⟨_, its, n, q, congrArg Value.type (of_decide_eq_true h1), rfl, of_decide_eq_true h3, He.relAll_ok h4⟩
      | _ => cases h
    | _ => cases dt <;> cases h
theorem oexB_ok {K : PySem.W.Frag} {C : Addr} (h : oexB K C = true) : ∃ nm q N bs bm sn sub ab col dd k0 k1 k2 k3 k5, K.lookup C = some (excClassObj nm q C N bs bm true sn sub ab col dd k0 k1 k2 k3 k5 "ValueError.__new__") ∧ PySem.HandSPX.refsVE bm = true := by
  unfold oexB at h
  cases q : K.lookup C with
  | none =>
    rw [q] at h
    cases h
  | some o =>
    obtain ⟨oc, od, dt, osl⟩ := o
    rw [q] at h
    split at h
    · rename_i cd sl heq
      injection heq with heq
      injection heq with e1 e2 e3 e4
      subst e1 e2 e3 e4
      split at h
      · rename_i y1 y2 c bm k0 k1 k2 k3 n k5 em es
        obtain ⟨h1, h⟩ := He.ba h
        obtain ⟨h2, h⟩ := He.ba h
        obtain ⟨h3, h⟩ := He.ba h
        obtain ⟨h4, h5⟩ := He.ba h
        obtain rfl := of_decide_eq_true h1
        obtain rfl := of_decide_eq_true h2
        obtain ⟨nm, bs, mro, ns, qn, hasD, sn, sub, ab, col, hd⟩ := cd
        have em : mro = .ref c :: bm := em
        have h4 : hasD = true := h4
        have h3a : (!hd) = true := h3
        have h3b : hd = false := by simpa using h3a
        subst h3b
        subst h4
        subst em
        refine ⟨nm, qn, ns, bs, bm, sn, sub, ab, col, od, k0, k1, k2, k3, k5, ?_, h5⟩
        have es2 : osl = #[k0, k1, k2, k3, some (.builtin "ValueError.__new__"), k5] := by
          rw [← Array.toArray_toList (xs := osl), es]
        rw [es2]
      · cases h
    · cases h
/-- the table of readers holds no other key -/
theorem dict_no {K : PySem.W.Frag} {w : World} {a : Addr} {ks : List Str} (h : He.dicW K a = some (He.keysIn w.params ks)) {z : Str} (hz : z ∉ ks) : PySem.W.nsIn K a z = some none := by
  obtain ⟨es, n, D⟩ := He.dicW_ok h
  unfold He.dicW at h
  rw [D.at_] at h
  dsimp only at h
  split at h
  · have h := Option.some.inj h
    unfold PySem.W.nsIn
    rw [D.at_]
    dsimp only
    have key : ∀ (l : List DictEntry) (ks : List Str), l.map He.keyOf = He.keysIn w.params ks → z ∉ ks → l.find? (·.key.isStr z) = none ∧ l.any (·.refKey) = false := by
      intro l
      induction l with
      | nil => intro ks _ _; exact ⟨rfl, rfl⟩
      | cons e r ih =>
        intro ks hk hz
        cases ks with
        | nil => cases hk
        | cons k ks =>
          injection hk with h1 h2
          obtain ⟨i1, i2⟩ := ih ks h2 fun y => hz (.tail _ y)
          have hzk : z ≠ k := fun y => hz (by rw [y]; exact .head _)
          unfold He.keyOf at h1
          split at h1
          · rename_i x t hx
            have h1 := (Prod.mk.inj (Option.some.inj h1)).1
            subst h1
            have s1 : e.key.isStr z = false := by
              rw [hx]
              show (x == z) = false
              rw [beq_eq_false_iff_ne]
              exact fun y => hzk y.symm
            have s2 : e.refKey = false := by
              unfold DictEntry.refKey
              rw [hx]
            rw [List.find?_cons, s1, List.any_cons, s2]
            exact ⟨i1, i2⟩
          · cases h1
    obtain ⟨i1, i2⟩ := key _ _ h hz
    rw [i1, i2]
    rfl
  · cases h
end K10
/-! Every def by name: its function, its arguments. Printed by mk_eb.py. -/
namespace K10
open PySem PySem.Spec PyProof.Rows L2
section
variable {K : PySem.W.Frag}
theorem e_sp_init (c : He.SaysD faL fnL K) : ∃ fd, FunD K "__init__" "SyntaxProblem.__init__" (defArgs s_sp_init) (defBody s_sp_init) (defScope s_sp_init) [] [] (He.ma K (He.ga K "SyntaxProblem") "__init__") fd ∧ Binds K fd ["self", "start", "end"] [] := by
  obtain ⟨fd, F⟩ := c.def_ 0 (d := d_sp_init) rfl
  exact ⟨fd, F, FunD.bindsN (ps := ["self", "start", "end"]) F fun _ _ _ _ _ _ us hl => match us, hl with | [_, _, _], _ => rfl⟩
theorem e_run_end (c : He.SaysD faL fnL K) : ∃ fd, FunD K "run_end" "run_end" (defArgs s_run_end) (defBody s_run_end) (defScope s_run_end) [] [] (He.ga K "run_end") fd ∧ Binds K fd ["text", "start", "allowed"] [] := by
  obtain ⟨fd, F⟩ := c.def_ 1 (d := d_run_end) rfl
  exact ⟨fd, F, FunD.bindsN (ps := ["text", "start", "allowed"]) F fun _ _ _ _ _ _ us hl => match us, hl with | [_, _, _], _ => rfl⟩
theorem e_token_at (c : He.SaysD faL fnL K) : ∃ fd, FunD K "token_at" "token_at" (defArgs s_token_at) (defBody s_token_at) (defScope s_token_at) [] [] (He.ga K "token_at") fd ∧ Binds K fd ["text", "start"] [] := by
  obtain ⟨fd, F⟩ := c.def_ 2 (d := d_token_at) rfl
  exact ⟨fd, F, FunD.bindsN (ps := ["text", "start"]) F fun _ _ _ _ _ _ us hl => match us, hl with | [_, _], _ => rfl⟩
theorem e_tokens_between (c : He.SaysD faL fnL K) : ∃ fd, FunD K "tokens_between" "tokens_between" (defArgs s_tokens_between) (defBody s_tokens_between) (defScope s_tokens_between) [] [] (He.ga K "tokens_between") fd ∧ Binds K fd ["text", "start", "end"] [] := by
  obtain ⟨fd, F⟩ := c.def_ 3 (d := d_tokens_between) rfl
  exact ⟨fd, F, FunD.bindsN (ps := ["text", "start", "end"]) F fun _ _ _ _ _ _ us hl => match us, hl with | [_, _, _], _ => rfl⟩
theorem e_tokens (c : He.SaysD faL fnL K) : ∃ fd, FunD K "tokens" "tokens" (defArgs s_tokens) (defBody s_tokens) (defScope s_tokens) [] [] (He.ga K "tokens") fd ∧ Binds K fd ["text"] [] := by
  obtain ⟨fd, F⟩ := c.def_ 4 (d := d_tokens) rfl
  exact ⟨fd, F, FunD.bindsN (ps := ["text"]) F fun _ _ _ _ _ _ us hl => match us, hl with | [_], _ => rfl⟩
theorem e_number_value (c : He.SaysD faL fnL K) : ∃ fd, FunD K "number_value" "number_value" (defArgs s_number_value) (defBody s_number_value) (defScope s_number_value) [] [] (He.ga K "number_value") fd ∧ Binds K fd ["digits"] [] := by
  obtain ⟨fd, F⟩ := c.def_ 5 (d := d_number_value) rfl
  exact ⟨fd, F, FunD.bindsN (ps := ["digits"]) F fun _ _ _ _ _ _ us hl => match us, hl with | [_], _ => rfl⟩
theorem e_r_init (c : He.SaysD faL fnL K) : ∃ fd, FunD K "__init__" "Reader.__init__" (defArgs s_r_init) (defBody s_r_init) (defScope s_r_init) [] [] (He.ma K (He.ga K "Reader") "__init__") fd ∧ Binds K fd ["self", "text"] [] := by
  obtain ⟨fd, F⟩ := c.def_ 6 (d := d_r_init) rfl
  exact ⟨fd, F, FunD.bindsN (ps := ["self", "text"]) F fun _ _ _ _ _ _ us hl => match us, hl with | [_, _], _ => rfl⟩
theorem e_r_place (c : He.SaysD faL fnL K) : ∃ fd, FunD K "place" "Reader.place" (defArgs s_r_place) (defBody s_r_place) (defScope s_r_place) [] [] (He.ma K (He.ga K "Reader") "place") fd ∧ Binds K fd ["self"] [] := by
  obtain ⟨fd, F⟩ := c.def_ 7 (d := d_r_place) rfl
  exact ⟨fd, F, FunD.bindsN (ps := ["self"]) F fun _ _ _ _ _ _ us hl => match us, hl with | [_], _ => rfl⟩
theorem e_r_need (c : He.SaysD faL fnL K) : ∃ fd, FunD K "need" "Reader.need" (defArgs s_r_need) (defBody s_r_need) (defScope s_r_need) [] [] (He.ma K (He.ga K "Reader") "need") fd ∧ Binds K fd ["self", "condition"] [] := by
  obtain ⟨fd, F⟩ := c.def_ 8 (d := d_r_need) rfl
  exact ⟨fd, F, FunD.bindsN (ps := ["self", "condition"]) F fun _ _ _ _ _ _ us hl => match us, hl with | [_, _], _ => rfl⟩
theorem e_r_sort_now (c : He.SaysD faL fnL K) : ∃ fd, FunD K "sort_now" "Reader.sort_now" (defArgs s_r_sort_now) (defBody s_r_sort_now) (defScope s_r_sort_now) [] [] (He.ma K (He.ga K "Reader") "sort_now") fd ∧ Binds K fd ["self"] [] := by
  obtain ⟨fd, F⟩ := c.def_ 9 (d := d_r_sort_now) rfl
  exact ⟨fd, F, FunD.bindsN (ps := ["self"]) F fun _ _ _ _ _ _ us hl => match us, hl with | [_], _ => rfl⟩
theorem e_r_fixed (c : He.SaysD faL fnL K) : ∃ fd, FunD K "fixed" "Reader.fixed" (defArgs s_r_fixed) (defBody s_r_fixed) (defScope s_r_fixed) [] [] (He.ma K (He.ga K "Reader") "fixed") fd ∧ Binds K fd ["self"] [] := by
  obtain ⟨fd, F⟩ := c.def_ 10 (d := d_r_fixed) rfl
  exact ⟨fd, F, FunD.bindsN (ps := ["self"]) F fun _ _ _ _ _ _ us hl => match us, hl with | [_], _ => rfl⟩
theorem e_r_last_end (c : He.SaysD faL fnL K) : ∃ fd, FunD K "last_end" "Reader.last_end" (defArgs s_r_last_end) (defBody s_r_last_end) (defScope s_r_last_end) [] [] (He.ma K (He.ga K "Reader") "last_end") fd ∧ Binds K fd ["self"] [] := by
  obtain ⟨fd, F⟩ := c.def_ 11 (d := d_r_last_end) rfl
  exact ⟨fd, F, FunD.bindsN (ps := ["self"]) F fun _ _ _ _ _ _ us hl => match us, hl with | [_], _ => rfl⟩
theorem e_r_take (c : He.SaysD faL fnL K) : ∃ fd, FunD K "take" "Reader.take" (defArgs s_r_take) (defBody s_r_take) (defScope s_r_take) [] [] (He.ma K (He.ga K "Reader") "take") fd ∧ Binds K fd ["self", "expected"] [] := by
  obtain ⟨fd, F⟩ := c.def_ 12 (d := d_r_take) rfl
  exact ⟨fd, F, FunD.bindsN (ps := ["self", "expected"]) F fun _ _ _ _ _ _ us hl => match us, hl with | [_, _], _ => rfl⟩
theorem e_r_try_take (c : He.SaysD faL fnL K) : ∃ fd, FunD K "try_take" "Reader.try_take" (defArgs s_r_try_take) (defBody s_r_try_take) (defScope s_r_try_take) [] [] (He.ma K (He.ga K "Reader") "try_take") fd ∧ Binds K fd ["self", "expected"] [] := by
  obtain ⟨fd, F⟩ := c.def_ 13 (d := d_r_try_take) rfl
  exact ⟨fd, F, FunD.bindsN (ps := ["self", "expected"]) F fun _ _ _ _ _ _ us hl => match us, hl with | [_, _], _ => rfl⟩
theorem e_r_mark (c : He.SaysD faL fnL K) : ∃ fd, FunD K "mark" "Reader.mark" (defArgs s_r_mark) (defBody s_r_mark) (defScope s_r_mark) [] [] (He.ma K (He.ga K "Reader") "mark") fd ∧ Binds K fd ["self"] [] := by
  obtain ⟨fd, F⟩ := c.def_ 14 (d := d_r_mark) rfl
  exact ⟨fd, F, FunD.bindsN (ps := ["self"]) F fun _ _ _ _ _ _ us hl => match us, hl with | [_], _ => rfl⟩
theorem e_r_marks (c : He.SaysD faL fnL K) : ∃ fd, FunD K "marks" "Reader.marks" (defArgs s_r_marks) (defBody s_r_marks) (defScope s_r_marks) [] [] (He.ma K (He.ga K "Reader") "marks") fd ∧ Binds K fd ["self"] [] := by
  obtain ⟨fd, F⟩ := c.def_ 15 (d := d_r_marks) rfl
  exact ⟨fd, F, FunD.bindsN (ps := ["self"]) F fun _ _ _ _ _ _ us hl => match us, hl with | [_], _ => rfl⟩
theorem e_r_finish (c : He.SaysD faL fnL K) : ∃ fd, FunD K "finish" "Reader.finish" (defArgs s_r_finish) (defBody s_r_finish) (defScope s_r_finish) [] [] (He.ma K (He.ga K "Reader") "finish") fd ∧ Binds K fd ["self"] [] := by
  obtain ⟨fd, F⟩ := c.def_ 16 (d := d_r_finish) rfl
  exact ⟨fd, F, FunD.bindsN (ps := ["self"]) F fun _ _ _ _ _ _ us hl => match us, hl with | [_], _ => rfl⟩
theorem e_r_field (c : He.SaysD faL fnL K) : ∃ fd, FunD K "field" "Reader.field" (defArgs s_r_field) (defBody s_r_field) (defScope s_r_field) [] [] (He.ma K (He.ga K "Reader") "field") fd ∧ Binds K fd ["self"] [] := by
  obtain ⟨fd, F⟩ := c.def_ 17 (d := d_r_field) rfl
  exact ⟨fd, F, FunD.bindsN (ps := ["self"]) F fun _ _ _ _ _ _ us hl => match us, hl with | [_], _ => rfl⟩
theorem e_r_fields (c : He.SaysD faL fnL K) : ∃ fd, FunD K "fields" "Reader.fields" (defArgs s_r_fields) (defBody s_r_fields) (defScope s_r_fields) [] [] (He.ma K (He.ga K "Reader") "fields") fd ∧ Binds K fd ["self"] [] := by
  obtain ⟨fd, F⟩ := c.def_ 18 (d := d_r_fields) rfl
  exact ⟨fd, F, FunD.bindsN (ps := ["self"]) F fun _ _ _ _ _ _ us hl => match us, hl with | [_], _ => rfl⟩
theorem e_r_bound (c : He.SaysD faL fnL K) : ∃ fd, FunD K "bound" "Reader.bound" (defArgs s_r_bound) (defBody s_r_bound) (defScope s_r_bound) [] [] (He.ma K (He.ga K "Reader") "bound") fd ∧ Binds K fd ["self"] [] := by
  obtain ⟨fd, F⟩ := c.def_ 19 (d := d_r_bound) rfl
  exact ⟨fd, F, FunD.bindsN (ps := ["self"]) F fun _ _ _ _ _ _ us hl => match us, hl with | [_], _ => rfl⟩
theorem e_r_begin (c : He.SaysD faL fnL K) : ∃ fd, FunD K "begin" "Reader.begin" (defArgs s_r_begin) (defBody s_r_begin) (defScope s_r_begin) [] [] (He.ma K (He.ga K "Reader") "begin") fd ∧ Binds K fd ["self"] [] := by
  obtain ⟨fd, F⟩ := c.def_ 20 (d := d_r_begin) rfl
  exact ⟨fd, F, FunD.bindsN (ps := ["self"]) F fun _ _ _ _ _ _ us hl => match us, hl with | [_], _ => rfl⟩
theorem e_r_value (c : He.SaysD faL fnL K) : ∃ fd, FunD K "value" "Reader.value" (defArgs s_r_value) (defBody s_r_value) (defScope s_r_value) [] [] (He.ma K (He.ga K "Reader") "value") fd ∧ Binds K fd ["self"] [] := by
  obtain ⟨fd, F⟩ := c.def_ 21 (d := d_r_value) rfl
  exact ⟨fd, F, FunD.bindsN (ps := ["self"]) F fun _ _ _ _ _ _ us hl => match us, hl with | [_], _ => rfl⟩
theorem e_r_let_value (c : He.SaysD faL fnL K) : ∃ fd, FunD K "let_value" "Reader.let_value" (defArgs s_r_let_value) (defBody s_r_let_value) (defScope s_r_let_value) [] [] (He.ma K (He.ga K "Reader") "let_value") fd ∧ Binds K fd ["self", "start"] [] := by
  obtain ⟨fd, F⟩ := c.def_ 22 (d := d_r_let_value) rfl
  exact ⟨fd, F, FunD.bindsN (ps := ["self", "start"]) F fun _ _ _ _ _ _ us hl => match us, hl with | [_, _], _ => rfl⟩
theorem e_r_if_value (c : He.SaysD faL fnL K) : ∃ fd, FunD K "if_value" "Reader.if_value" (defArgs s_r_if_value) (defBody s_r_if_value) (defScope s_r_if_value) [] [] (He.ma K (He.ga K "Reader") "if_value") fd ∧ Binds K fd ["self", "start"] [] := by
  obtain ⟨fd, F⟩ := c.def_ 23 (d := d_r_if_value) rfl
  exact ⟨fd, F, FunD.bindsN (ps := ["self", "start"]) F fun _ _ _ _ _ _ us hl => match us, hl with | [_, _], _ => rfl⟩
theorem e_r_loop_value (c : He.SaysD faL fnL K) : ∃ fd, FunD K "loop_value" "Reader.loop_value" (defArgs s_r_loop_value) (defBody s_r_loop_value) (defScope s_r_loop_value) [] [] (He.ma K (He.ga K "Reader") "loop_value") fd ∧ Binds K fd ["self", "start"] [] := by
  obtain ⟨fd, F⟩ := c.def_ 24 (d := d_r_loop_value) rfl
  exact ⟨fd, F, FunD.bindsN (ps := ["self", "start"]) F fun _ _ _ _ _ _ us hl => match us, hl with | [_, _], _ => rfl⟩
theorem e_r_either (c : He.SaysD faL fnL K) : ∃ fd, FunD K "either" "Reader.either" (defArgs s_r_either) (defBody s_r_either) (defScope s_r_either) [] [] (He.ma K (He.ga K "Reader") "either") fd ∧ Binds K fd ["self", "level"] [] := by
  obtain ⟨fd, F⟩ := c.def_ 25 (d := d_r_either) rfl
  exact ⟨fd, F, FunD.bindsN (ps := ["self", "level"]) F fun _ _ _ _ _ _ us hl => match us, hl with | [_, _], _ => rfl⟩
theorem e_r_negated (c : He.SaysD faL fnL K) : ∃ fd, FunD K "negated" "Reader.negated" (defArgs s_r_negated) (defBody s_r_negated) (defScope s_r_negated) [] [] (He.ma K (He.ga K "Reader") "negated") fd ∧ Binds K fd ["self"] [] := by
  obtain ⟨fd, F⟩ := c.def_ 26 (d := d_r_negated) rfl
  exact ⟨fd, F, FunD.bindsN (ps := ["self"]) F fun _ _ _ _ _ _ us hl => match us, hl with | [_], _ => rfl⟩
theorem e_r_compared (c : He.SaysD faL fnL K) : ∃ fd, FunD K "compared" "Reader.compared" (defArgs s_r_compared) (defBody s_r_compared) (defScope s_r_compared) [] [] (He.ma K (He.ga K "Reader") "compared") fd ∧ Binds K fd ["self"] [] := by
  obtain ⟨fd, F⟩ := c.def_ 27 (d := d_r_compared) rfl
  exact ⟨fd, F, FunD.bindsN (ps := ["self"]) F fun _ _ _ _ _ _ us hl => match us, hl with | [_], _ => rfl⟩
theorem e_r_chain (c : He.SaysD faL fnL K) : ∃ fd, FunD K "chain" "Reader.chain" (defArgs s_r_chain) (defBody s_r_chain) (defScope s_r_chain) [] [] (He.ma K (He.ga K "Reader") "chain") fd ∧ Binds K fd ["self", "signs"] [] := by
  obtain ⟨fd, F⟩ := c.def_ 28 (d := d_r_chain) rfl
  exact ⟨fd, F, FunD.bindsN (ps := ["self", "signs"]) F fun _ _ _ _ _ _ us hl => match us, hl with | [_, _], _ => rfl⟩
theorem e_r_signed (c : He.SaysD faL fnL K) : ∃ fd, FunD K "signed" "Reader.signed" (defArgs s_r_signed) (defBody s_r_signed) (defScope s_r_signed) [] [] (He.ma K (He.ga K "Reader") "signed") fd ∧ Binds K fd ["self"] [] := by
  obtain ⟨fd, F⟩ := c.def_ 29 (d := d_r_signed) rfl
  exact ⟨fd, F, FunD.bindsN (ps := ["self"]) F fun _ _ _ _ _ _ us hl => match us, hl with | [_], _ => rfl⟩
theorem e_r_reached (c : He.SaysD faL fnL K) : ∃ fd, FunD K "reached" "Reader.reached" (defArgs s_r_reached) (defBody s_r_reached) (defScope s_r_reached) [] [] (He.ma K (He.ga K "Reader") "reached") fd ∧ Binds K fd ["self"] [] := by
  obtain ⟨fd, F⟩ := c.def_ 30 (d := d_r_reached) rfl
  exact ⟨fd, F, FunD.bindsN (ps := ["self"]) F fun _ _ _ _ _ _ us hl => match us, hl with | [_], _ => rfl⟩
theorem e_r_simple (c : He.SaysD faL fnL K) : ∃ fd, FunD K "simple" "Reader.simple" (defArgs s_r_simple) (defBody s_r_simple) (defScope s_r_simple) [] [] (He.ma K (He.ga K "Reader") "simple") fd ∧ Binds K fd ["self"] [] := by
  obtain ⟨fd, F⟩ := c.def_ 31 (d := d_r_simple) rfl
  exact ⟨fd, F, FunD.bindsN (ps := ["self"]) F fun _ _ _ _ _ _ us hl => match us, hl with | [_], _ => rfl⟩
theorem e_r_arguments (c : He.SaysD faL fnL K) : ∃ fd, FunD K "arguments" "Reader.arguments" (defArgs s_r_arguments) (defBody s_r_arguments) (defScope s_r_arguments) [] [] (He.ma K (He.ga K "Reader") "arguments") fd ∧ Binds K fd ["self"] [] := by
  obtain ⟨fd, F⟩ := c.def_ 32 (d := d_r_arguments) rfl
  exact ⟨fd, F, FunD.bindsN (ps := ["self"]) F fun _ _ _ _ _ _ us hl => match us, hl with | [_], _ => rfl⟩
theorem e_read_import (c : He.SaysD faL fnL K) : ∃ fd, FunD K "read_import" "read_import" (defArgs s_read_import) (defBody s_read_import) (defScope s_read_import) [] [] (He.ga K "read_import") fd ∧ Binds K fd ["reader"] [] := by
  obtain ⟨fd, F⟩ := c.def_ 33 (d := d_read_import) rfl
  exact ⟨fd, F, FunD.bindsN (ps := ["reader"]) F fun _ _ _ _ _ _ us hl => match us, hl with | [_], _ => rfl⟩
theorem e_read_data (c : He.SaysD faL fnL K) : ∃ fd, FunD K "read_data" "read_data" (defArgs s_read_data) (defBody s_read_data) (defScope s_read_data) [] [] (He.ga K "read_data") fd ∧ Binds K fd ["reader"] [] := by
  obtain ⟨fd, F⟩ := c.def_ 34 (d := d_read_data) rfl
  exact ⟨fd, F, FunD.bindsN (ps := ["reader"]) F fun _ _ _ _ _ _ us hl => match us, hl with | [_], _ => rfl⟩
theorem e_read_trait (c : He.SaysD faL fnL K) : ∃ fd, FunD K "read_trait" "read_trait" (defArgs s_read_trait) (defBody s_read_trait) (defScope s_read_trait) [] [] (He.ga K "read_trait") fd ∧ Binds K fd ["reader"] [] := by
  obtain ⟨fd, F⟩ := c.def_ 35 (d := d_read_trait) rfl
  exact ⟨fd, F, FunD.bindsN (ps := ["reader"]) F fun _ _ _ _ _ _ us hl => match us, hl with | [_], _ => rfl⟩
theorem e_read_impl (c : He.SaysD faL fnL K) : ∃ fd, FunD K "read_impl" "read_impl" (defArgs s_read_impl) (defBody s_read_impl) (defScope s_read_impl) [] [] (He.ga K "read_impl") fd ∧ Binds K fd ["reader"] [] := by
  obtain ⟨fd, F⟩ := c.def_ 36 (d := d_read_impl) rfl
  exact ⟨fd, F, FunD.bindsN (ps := ["reader"]) F fun _ _ _ _ _ _ us hl => match us, hl with | [_], _ => rfl⟩
theorem e_read_bounds (c : He.SaysD faL fnL K) : ∃ fd, FunD K "read_bounds" "read_bounds" (defArgs s_read_bounds) (defBody s_read_bounds) (defScope s_read_bounds) [] [] (He.ga K "read_bounds") fd ∧ Binds K fd ["reader"] [] := by
  obtain ⟨fd, F⟩ := c.def_ 37 (d := d_read_bounds) rfl
  exact ⟨fd, F, FunD.bindsN (ps := ["reader"]) F fun _ _ _ _ _ _ us hl => match us, hl with | [_], _ => rfl⟩
theorem e_read_def (c : He.SaysD faL fnL K) : ∃ fd, FunD K "read_def" "read_def" (defArgs s_read_def) (defBody s_read_def) (defScope s_read_def) [] [] (He.ga K "read_def") fd ∧ Binds K fd ["reader"] [] := by
  obtain ⟨fd, F⟩ := c.def_ 38 (d := d_read_def) rfl
  exact ⟨fd, F, FunD.bindsN (ps := ["reader"]) F fun _ _ _ _ _ _ us hl => match us, hl with | [_], _ => rfl⟩
theorem e_read_item (c : He.SaysD faL fnL K) : ∃ fd, FunD K "read_item" "read_item" (defArgs s_read_item) (defBody s_read_item) (defScope s_read_item) [] [] (He.ga K "read_item") fd ∧ Binds K fd ["text"] [] := by
  obtain ⟨fd, F⟩ := c.def_ 39 (d := d_read_item) rfl
  exact ⟨fd, F, FunD.bindsN (ps := ["text"]) F fun _ _ _ _ _ _ us hl => match us, hl with | [_], _ => rfl⟩
theorem e_g_tape (c : He.SaysD faL fnL K) : ∃ fd, FunD K "_law_tape" "_law_tape" (defArgs s_g_tape) (defBody s_g_tape) (defScope s_g_tape) [] [] (He.ga K "_law_tape") fd ∧ Binds K fd ["_law_script"] [] := by
  obtain ⟨fd, F⟩ := c.def_ 40 (d := d_g_tape) rfl
  exact ⟨fd, F, FunD.bindsN (ps := ["_law_script"]) F fun _ _ _ _ _ _ us hl => match us, hl with | [_], _ => rfl⟩
theorem e_g_take (c : He.SaysD faL fnL K) : ∃ fd, FunD K "_law_take" "_law_take" (defArgs s_g_take) (defBody s_g_take) (defScope s_g_take) [] [] (He.ga K "_law_take") fd ∧ Binds K fd ["_law_tape_here", "_law_many"] [] := by
  obtain ⟨fd, F⟩ := c.def_ 41 (d := d_g_take) rfl
  exact ⟨fd, F, FunD.bindsN (ps := ["_law_tape_here", "_law_many"]) F fun _ _ _ _ _ _ us hl => match us, hl with | [_, _], _ => rfl⟩
theorem e_g_is_integer (c : He.SaysD faL fnL K) : ∃ fd, FunD K "_law_is_integer" "_law_is_integer" (defArgs s_g_is_integer) (defBody s_g_is_integer) (defScope s_g_is_integer) [] [] (He.ga K "_law_is_integer") fd ∧ Binds K fd ["_law_actual"] [] := by
  obtain ⟨fd, F⟩ := c.def_ 42 (d := d_g_is_integer) rfl
  exact ⟨fd, F, FunD.bindsN (ps := ["_law_actual"]) F fun _ _ _ _ _ _ us hl => match us, hl with | [_], _ => rfl⟩
theorem e_g_same_items (c : He.SaysD faL fnL K) : ∃ fd, FunD K "_law_same_items" "_law_same_items" (defArgs s_g_same_items) (defBody s_g_same_items) (defScope s_g_same_items) [] [] (He.ga K "_law_same_items") fd ∧ Binds K fd ["_law_actual", "_law_expected"] [] := by
  obtain ⟨fd, F⟩ := c.def_ 43 (d := d_g_same_items) rfl
  exact ⟨fd, F, FunD.bindsN (ps := ["_law_actual", "_law_expected"]) F fun _ _ _ _ _ _ us hl => match us, hl with | [_, _], _ => rfl⟩
theorem e_g_same (c : He.SaysD faL fnL K) : ∃ fd, FunD K "_law_same" "_law_same" (defArgs s_g_same) (defBody s_g_same) (defScope s_g_same) [] [] (He.ga K "_law_same") fd ∧ Binds K fd ["_law_actual", "_law_expected"] [] := by
  obtain ⟨fd, F⟩ := c.def_ 44 (d := d_g_same) rfl
  exact ⟨fd, F, FunD.bindsN (ps := ["_law_actual", "_law_expected"]) F fun _ _ _ _ _ _ us hl => match us, hl with | [_, _], _ => rfl⟩
theorem e_g_put (c : He.SaysD faL fnL K) : ∃ fd, FunD K "_law_put" "_law_put" (defArgs s_g_put) (defBody s_g_put) (defScope s_g_put) [] [] (He.ga K "_law_put") fd ∧ Binds K fd ["_law_out", "_law_string"] [] := by
  obtain ⟨fd, F⟩ := c.def_ 45 (d := d_g_put) rfl
  exact ⟨fd, F, FunD.bindsN (ps := ["_law_out", "_law_string"]) F fun _ _ _ _ _ _ us hl => match us, hl with | [_, _], _ => rfl⟩
theorem e_g_gap (c : He.SaysD faL fnL K) : ∃ fd, FunD K "_law_gap" "_law_gap" (defArgs s_g_gap) (defBody s_g_gap) (defScope s_g_gap) [] [] (He.ga K "_law_gap") fd ∧ Binds K fd ["_law_tape_here", "_law_out", "_law_needed"] [] := by
  obtain ⟨fd, F⟩ := c.def_ 46 (d := d_g_gap) rfl
  exact ⟨fd, F, FunD.bindsN (ps := ["_law_tape_here", "_law_out", "_law_needed"]) F fun _ _ _ _ _ _ us hl => match us, hl with | [_, _, _], _ => rfl⟩
theorem e_g_token_out (c : He.SaysD faL fnL K) : ∃ fd, FunD K "_law_token_out" "_law_token_out" (defArgs s_g_token_out) (defBody s_g_token_out) (defScope s_g_token_out) [] [] (He.ga K "_law_token_out") fd ∧ Binds K fd ["_law_tape_here", "_law_out", "_law_string"] [] := by
  obtain ⟨fd, F⟩ := c.def_ 47 (d := d_g_token_out) rfl
  exact ⟨fd, F, FunD.bindsN (ps := ["_law_tape_here", "_law_out", "_law_string"]) F fun _ _ _ _ _ _ us hl => match us, hl with | [_, _, _], _ => rfl⟩
theorem e_g_some_name (c : He.SaysD faL fnL K) : ∃ fd, FunD K "_law_some_name" "_law_some_name" (defArgs s_g_some_name) (defBody s_g_some_name) (defScope s_g_some_name) [] [] (He.ga K "_law_some_name") fd ∧ Binds K fd ["_law_tape_here"] [] := by
  obtain ⟨fd, F⟩ := c.def_ 48 (d := d_g_some_name) rfl
  exact ⟨fd, F, FunD.bindsN (ps := ["_law_tape_here"]) F fun _ _ _ _ _ _ us hl => match us, hl with | [_], _ => rfl⟩
theorem e_g_tree (c : He.SaysD faL fnL K) : ∃ fd, FunD K "_law_tree" "_law_tree" (defArgs s_g_tree) (defBody s_g_tree) (defScope s_g_tree) [] [] (He.ga K "_law_tree") fd ∧ Binds K fd ["_law_tape_here", "_law_out", "_law_depth", "_law_level"] [] := by
  obtain ⟨fd, F⟩ := c.def_ 49 (d := d_g_tree) rfl
  exact ⟨fd, F, FunD.bindsN (ps := ["_law_tape_here", "_law_out", "_law_depth", "_law_level"]) F fun _ _ _ _ _ _ us hl => match us, hl with | [_, _, _, _], _ => rfl⟩
theorem e_g_leaf (c : He.SaysD faL fnL K) : ∃ fd, FunD K "_law_leaf" "_law_leaf" (defArgs s_g_leaf) (defBody s_g_leaf) (defScope s_g_leaf) [] [] (He.ga K "_law_leaf") fd ∧ Binds K fd ["_law_tape_here", "_law_out", "_law_choice"] [] := by
  obtain ⟨fd, F⟩ := c.def_ 50 (d := d_g_leaf) rfl
  exact ⟨fd, F, FunD.bindsN (ps := ["_law_tape_here", "_law_out", "_law_choice"]) F fun _ _ _ _ _ _ us hl => match us, hl with | [_, _, _], _ => rfl⟩
theorem e_g_call (c : He.SaysD faL fnL K) : ∃ fd, FunD K "_law_call" "_law_call" (defArgs s_g_call) (defBody s_g_call) (defScope s_g_call) [] [] (He.ga K "_law_call") fd ∧ Binds K fd ["_law_tape_here", "_law_out", "_law_depth"] [] := by
  obtain ⟨fd, F⟩ := c.def_ 51 (d := d_g_call) rfl
  exact ⟨fd, F, FunD.bindsN (ps := ["_law_tape_here", "_law_out", "_law_depth"]) F fun _ _ _ _ _ _ us hl => match us, hl with | [_, _, _], _ => rfl⟩
theorem e_g_reach (c : He.SaysD faL fnL K) : ∃ fd, FunD K "_law_reach" "_law_reach" (defArgs s_g_reach) (defBody s_g_reach) (defScope s_g_reach) [] [] (He.ga K "_law_reach") fd ∧ Binds K fd ["_law_tape_here", "_law_out", "_law_depth"] [] := by
  obtain ⟨fd, F⟩ := c.def_ 52 (d := d_g_reach) rfl
  exact ⟨fd, F, FunD.bindsN (ps := ["_law_tape_here", "_law_out", "_law_depth"]) F fun _ _ _ _ _ _ us hl => match us, hl with | [_, _, _], _ => rfl⟩
theorem e_g_prefix (c : He.SaysD faL fnL K) : ∃ fd, FunD K "_law_prefix" "_law_prefix" (defArgs s_g_prefix) (defBody s_g_prefix) (defScope s_g_prefix) [] [] (He.ga K "_law_prefix") fd ∧ Binds K fd ["_law_tape_here", "_law_out", "_law_depth", "_law_word", "_law_sign", "_law_level"] [] := by
  obtain ⟨fd, F⟩ := c.def_ 53 (d := d_g_prefix) rfl
  exact ⟨fd, F, FunD.bindsN (ps := ["_law_tape_here", "_law_out", "_law_depth", "_law_word", "_law_sign", "_law_level"]) F fun _ _ _ _ _ _ us hl => match us, hl with | [_, _, _, _, _, _], _ => rfl⟩
theorem e_g_binary (c : He.SaysD faL fnL K) : ∃ fd, FunD K "_law_binary" "_law_binary" (defArgs s_g_binary) (defBody s_g_binary) (defScope s_g_binary) [] [] (He.ga K "_law_binary") fd ∧ Binds K fd ["_law_tape_here", "_law_out", "_law_depth", "_law_level"] [] := by
  obtain ⟨fd, F⟩ := c.def_ 54 (d := d_g_binary) rfl
  exact ⟨fd, F, FunD.bindsN (ps := ["_law_tape_here", "_law_out", "_law_depth", "_law_level"]) F fun _ _ _ _ _ _ us hl => match us, hl with | [_, _, _, _], _ => rfl⟩
theorem e_g_wide (c : He.SaysD faL fnL K) : ∃ fd, FunD K "_law_wide" "_law_wide" (defArgs s_g_wide) (defBody s_g_wide) (defScope s_g_wide) [] [] (He.ga K "_law_wide") fd ∧ Binds K fd ["_law_tape_here", "_law_out", "_law_depth", "_law_choice"] [] := by
  obtain ⟨fd, F⟩ := c.def_ 55 (d := d_g_wide) rfl
  exact ⟨fd, F, FunD.bindsN (ps := ["_law_tape_here", "_law_out", "_law_depth", "_law_choice"]) F fun _ _ _ _ _ _ us hl => match us, hl with | [_, _, _, _], _ => rfl⟩
theorem e_g_mark (c : He.SaysD faL fnL K) : ∃ fd, FunD K "_law_mark" "_law_mark" (defArgs s_g_mark) (defBody s_g_mark) (defScope s_g_mark) [] [] (He.ga K "_law_mark") fd ∧ Binds K fd ["_law_tape_here", "_law_out"] [] := by
  obtain ⟨fd, F⟩ := c.def_ 56 (d := d_g_mark) rfl
  exact ⟨fd, F, FunD.bindsN (ps := ["_law_tape_here", "_law_out"]) F fun _ _ _ _ _ _ us hl => match us, hl with | [_, _], _ => rfl⟩
theorem e_g_list (c : He.SaysD faL fnL K) : ∃ fd, FunD K "_law_list" "_law_list" (defArgs s_g_list) (defBody s_g_list) (defScope s_g_list) [] [] (He.ga K "_law_list") fd ∧ Binds K fd ["_law_tape_here", "_law_out", "_law_many", "_law_colon"] [] := by
  obtain ⟨fd, F⟩ := c.def_ 57 (d := d_g_list) rfl
  exact ⟨fd, F, FunD.bindsN (ps := ["_law_tape_here", "_law_out", "_law_many", "_law_colon"]) F fun _ _ _ _ _ _ us hl => match us, hl with | [_, _, _, _], _ => rfl⟩
theorem e_g_brackets (c : He.SaysD faL fnL K) : ∃ fd, FunD K "_law_brackets" "_law_brackets" (defArgs s_g_brackets) (defBody s_g_brackets) (defScope s_g_brackets) [] [] (He.ga K "_law_brackets") fd ∧ Binds K fd ["_law_tape_here", "_law_out", "_law_first"] [] := by
  obtain ⟨fd, F⟩ := c.def_ 58 (d := d_g_brackets) rfl
  exact ⟨fd, F, FunD.bindsN (ps := ["_law_tape_here", "_law_out", "_law_first"]) F fun _ _ _ _ _ _ us hl => match us, hl with | [_, _, _], _ => rfl⟩
theorem e_g_def (c : He.SaysD faL fnL K) : ∃ fd, FunD K "_law_def" "_law_def" (defArgs s_g_def) (defBody s_g_def) (defScope s_g_def) [] [] (He.ga K "_law_def") fd ∧ Binds K fd ["_law_tape_here", "_law_out"] [] := by
  obtain ⟨fd, F⟩ := c.def_ 59 (d := d_g_def) rfl
  exact ⟨fd, F, FunD.bindsN (ps := ["_law_tape_here", "_law_out"]) F fun _ _ _ _ _ _ us hl => match us, hl with | [_, _], _ => rfl⟩
theorem e_g_item (c : He.SaysD faL fnL K) : ∃ fd, FunD K "_law_item" "_law_item" (defArgs s_g_item) (defBody s_g_item) (defScope s_g_item) [] [] (He.ga K "_law_item") fd ∧ Binds K fd ["_law_tape_here", "_law_out"] [] := by
  obtain ⟨fd, F⟩ := c.def_ 60 (d := d_g_item) rfl
  exact ⟨fd, F, FunD.bindsN (ps := ["_law_tape_here", "_law_out"]) F fun _ _ _ _ _ _ us hl => match us, hl with | [_, _], _ => rfl⟩
theorem e_g_is_letter (c : He.SaysD faL fnL K) : ∃ fd, FunD K "_law_is_letter" "_law_is_letter" (defArgs s_g_is_letter) (defBody s_g_is_letter) (defScope s_g_is_letter) [] [] (He.ga K "_law_is_letter") fd ∧ Binds K fd ["_law_char"] [] := by
  obtain ⟨fd, F⟩ := c.def_ 61 (d := d_g_is_letter) rfl
  exact ⟨fd, F, FunD.bindsN (ps := ["_law_char"]) F fun _ _ _ _ _ _ us hl => match us, hl with | [_], _ => rfl⟩
theorem e_g_is_digit (c : He.SaysD faL fnL K) : ∃ fd, FunD K "_law_is_digit" "_law_is_digit" (defArgs s_g_is_digit) (defBody s_g_is_digit) (defScope s_g_is_digit) [] [] (He.ga K "_law_is_digit") fd ∧ Binds K fd ["_law_char"] [] := by
  obtain ⟨fd, F⟩ := c.def_ 62 (d := d_g_is_digit) rfl
  exact ⟨fd, F, FunD.bindsN (ps := ["_law_char"]) F fun _ _ _ _ _ _ us hl => match us, hl with | [_], _ => rfl⟩
theorem e_g_run (c : He.SaysD faL fnL K) : ∃ fd, FunD K "_law_run" "_law_run" (defArgs s_g_run) (defBody s_g_run) (defScope s_g_run) [] [] (He.ga K "_law_run") fd ∧ Binds K fd ["_law_text", "_law_at"] [] := by
  obtain ⟨fd, F⟩ := c.def_ 63 (d := d_g_run) rfl
  exact ⟨fd, F, FunD.bindsN (ps := ["_law_text", "_law_at"]) F fun _ _ _ _ _ _ us hl => match us, hl with | [_, _], _ => rfl⟩
theorem e_g_token (c : He.SaysD faL fnL K) : ∃ fd, FunD K "_law_token" "_law_token" (defArgs s_g_token) (defBody s_g_token) (defScope s_g_token) [] [] (He.ga K "_law_token") fd ∧ Binds K fd ["_law_text", "_law_at"] [] := by
  obtain ⟨fd, F⟩ := c.def_ 64 (d := d_g_token) rfl
  exact ⟨fd, F, FunD.bindsN (ps := ["_law_text", "_law_at"]) F fun _ _ _ _ _ _ us hl => match us, hl with | [_, _], _ => rfl⟩
theorem e_g_tokens (c : He.SaysD faL fnL K) : ∃ fd, FunD K "_law_tokens" "_law_tokens" (defArgs s_g_tokens) (defBody s_g_tokens) (defScope s_g_tokens) [] [] (He.ga K "_law_tokens") fd ∧ Binds K fd ["_law_text"] [] := by
  obtain ⟨fd, F⟩ := c.def_ 65 (d := d_g_tokens) rfl
  exact ⟨fd, F, FunD.bindsN (ps := ["_law_text"]) F fun _ _ _ _ _ _ us hl => match us, hl with | [_], _ => rfl⟩
theorem e_g_read (c : He.SaysD faL fnL K) : ∃ fd, FunD K "_law_read" "_law_read" (defArgs s_g_read) (defBody s_g_read) (defScope s_g_read) [] [] (He.ga K "_law_read") fd ∧ Binds K fd ["_law_text"] [] := by
  obtain ⟨fd, F⟩ := c.def_ 66 (d := d_g_read) rfl
  exact ⟨fd, F, FunD.bindsN (ps := ["_law_text"]) F fun _ _ _ _ _ _ us hl => match us, hl with | [_], _ => rfl⟩
theorem e_g_spoilt (c : He.SaysD faL fnL K) : ∃ fd, FunD K "_law_spoilt" "_law_spoilt" (defArgs s_g_spoilt) (defBody s_g_spoilt) (defScope s_g_spoilt) [] [] (He.ga K "_law_spoilt") fd ∧ Binds K fd ["_law_tape_here", "_law_text"] [] := by
  obtain ⟨fd, F⟩ := c.def_ 67 (d := d_g_spoilt) rfl
  exact ⟨fd, F, FunD.bindsN (ps := ["_law_tape_here", "_law_text"]) F fun _ _ _ _ _ _ us hl => match us, hl with | [_, _], _ => rfl⟩
theorem e_law (c : He.SaysD faL fnL K) : ∃ fd, FunD K "law" "law" (defArgs s_law) (defBody s_law) (defScope s_law) [] [] (He.ga K "law") fd ∧ Binds K fd ["_law_script"] [] := by
  obtain ⟨fd, F⟩ := c.def_ 68 (d := d_law) rfl
  exact ⟨fd, F, FunD.bindsN (ps := ["_law_script"]) F fun _ _ _ _ _ _ us hl => match us, hl with | [_], _ => rfl⟩
end
end K10
/-! The law, from the head's facts. Printed by mk_ec.py. -/
namespace K10
open PySem PySem.Spec PyProof.Rows L2
abbrev cR (K : PySem.W.Frag) : Addr := He.ga K "Reader"
abbrev cS (K : PySem.W.Frag) : Addr := He.ga K "SyntaxProblem"
abbrev cI (K : PySem.W.Frag) : Addr := He.ma K (He.ga K "SyntaxProblem") "__init__"
theorem wd_vals (K : PySem.W.Frag) : wordsD.map (He.Dv.v K) = words.map fun x => V.str (tx x) := ws_eq
section
variable {P : Program} {w : World} {K : PySem.W.Frag} {h : Heap} {mg : Str → Option Value} {base : Heap}
theorem str_at' (X : K.In h) (G : h.Ns mainGlobals mg) {x : Str} {l : List Nat} {z : Str} (c : (He.Fa.str x z).ok K = true) (e : tx l = z) : ∃ u, mg x = some u ∧ RelV (.str (tx l)) u := by
  obtain ⟨t, ht⟩ := He.str_ok X G c
  exact ⟨_, ht, t, by rw [e]⟩
theorem int_at' (X : K.In h) (G : h.Ns mainGlobals mg) {x : Str} {i : Int} (c : (He.Fa.int x i).ok K = true) : ∃ u, mg x = some u ∧ RelV (.int i) u := by
  obtain ⟨t, ht⟩ := He.int_ok X G c
  exact ⟨_, ht, t, rfl⟩
theorem mk_tx (X : K.In h) (G : h.Ns mainGlobals mg) (c : He.SaysD faL fnL K) (m : moreB K = true) : Tx K mg := by
  obtain ⟨m1, m⟩ := He.ba m
  refine ⟨(He.free_ok X G (c.fact 49 (f := .free "len") rfl)), str_at' X G (c.fact 59 (f := .str "LETTERS" "abcdefghijklmnopqrstuvwxyzABCDEFGHIJKLMNOPQRSTUVWXYZ") rfl) (tx_cl _), str_at' X G (c.fact 60 (f := .str "DIGITS" "0123456789") rfl) (tx_cl _), str_at' X G (c.fact 61 (f := .str "NAME_CHARACTERS" "abcdefghijklmnopqrstuvwxyzABCDEFGHIJKLMNOPQRSTUVWXYZ0123456789_") rfl) (tx_cl _), str_at' X G (c.fact 62 (f := .str "SIGNS" "()[],:.=<+-*/") rfl) (tx_cl _), _, (He.glo_ok X G (c.fact 2 (f := .glo "WORDS") rfl)), fun H => ?_⟩
  have q := He.tupB_ok m1 H
  rw [wd_vals] at q
  exact q
theorem mk_rx (X : K.In h) (G : h.Ns mainGlobals mg) (c : He.SaysD faL fnL K) (m : moreB K = true) : Rx K mg (cR K) (cS K) (cI K) := by
  have T := mk_tx X G c m
  obtain ⟨m1, m⟩ := He.ba m
  obtain ⟨m2, m⟩ := He.ba m
  obtain ⟨m3, m⟩ := He.ba m
  obtain ⟨m4, m⟩ := He.ba m
  obtain ⟨m5, m⟩ := He.ba m
  obtain ⟨m6, m⟩ := He.ba m
  obtain ⟨m7, m⟩ := He.ba m
  obtain ⟨m8, m⟩ := He.ba m
  obtain ⟨m9, m⟩ := He.ba m
  obtain ⟨m10, m⟩ := He.ba m
  obtain ⟨m11, m⟩ := He.ba m
  obtain ⟨m12, m13⟩ := He.ba m
  have XF := xfB_ok m9
  exact { tx := T, cls := He.cls_ok (c.fact 65 (f := .cls "Reader") rfl), nText := He.noat_ok (c.fact 66 (f := .noat "Reader" "text") rfl), nTokens := He.noat_ok (c.fact 67 (f := .noat "Reader" "tokens") rfl), nAt := He.noat_ok (c.fact 68 (f := .noat "Reader" "at") rfl), nDepth := He.noat_ok (c.fact 69 (f := .noat "Reader" "depth") rfl), mostT := int_at' X G (c.fact 63 (f := .int "MOST_TOKENS" 300) rfl), mostD := int_at' X G (c.fact 64 (f := .int "MOST_DEPTH" 30) rfl), tuple := (He.free_ok X G (c.fact 50 (f := .free "tuple") rfl)), levels := ⟨_, _, _, (He.glo_ok X G (c.fact 8 (f := .glo "LEVELS") rfl)), fun H => He.tupB_ok m4 H, fun H => tupA_ok m5 H, fun H => tupA_ok m6 H⟩, sums := ⟨_, (He.glo_ok X G (c.fact 9 (f := .glo "SUMS") rfl)), fun H => He.tupB_ok m2 H⟩, prods := ⟨_, (He.glo_ok X G (c.fact 10 (f := .glo "PRODUCTS") rfl)), fun H => He.tupB_ok m3 H⟩, gSP := (He.glo_ok X G (c.fact 1 (f := .glo "SyntaxProblem") rfl)), oex := ⟨oexB_ok m8, of_decide_eq_true m10, XF.exC, of_decide_eq_true m11, He.keep_ok (c.fact 100 (f := .keep "SyntaxProblem") rfl)⟩, nStart := He.noat_ok (c.fact 97 (f := .noat "SyntaxProblem" "start") rfl), nEnd := He.noat_ok (c.fact 98 (f := .noat "SyntaxProblem" "end") rfl), init := of_decide_eq_true m12, tInit := of_decide_eq_true m13 }
theorem cl_of {CX : CXT} {k : Nat} {x : Str} {st : Stmt} {ps : List Str} {sp : Sp} {f : Addr} {fd : FuncData} (F : FnP K x st f fd) (b : Binds K fd ps []) (g : mg x = some (.ref f)) (ok : FnOk P w K mg base CX k f fd ps sp) : Cl P w K mg base CX k x ps sp := ⟨f, fd, ok, g, F.kp, b⟩
theorem mt_of {CX : CXT} {k : Nat} {x : Str} {ps : List Str} {sp : Sp} {C f : Addr} {fd : FuncData} (b : Binds K fd ps []) (hc : Cls K C) (hm : Meth K C x f) (ok : FnOk P w K mg base CX k f fd ps sp) : Mt P w K mg base CX C k x ps sp := ⟨f, fd, ok, hc, hm, b⟩
theorem mk_big (X : K.In h) (G : h.Ns mainGlobals mg) (c : He.SaysD faL fnL K) (m : moreB K = true) : Big P w K mg base (cR K) (cS K) ∧ Mt P w K mg base (L2.CX P w) (cR K) 3 "need" ["self", "condition"] (spNeed (cR K) (cS K)) ∧ Mt P w K mg base (L2.CX P w) (cR K) 4 "finish" ["self"] (spM (cR K) (cS K) vNon finishP) := by
  have T := mk_rx X G c m
  obtain ⟨fd_number_value, F_number_value, B_number_value⟩ := e_number_value c
  have NU := cl_of (P := P) (w := w) (base := base) F_number_value B_number_value (He.glo_ok X G (c.fact 7 (f := .glo "number_value") rfl)) (ok_number T.tx F_number_value)
  obtain ⟨fd_sp_init, F_sp_init, B_sp_init⟩ := e_sp_init c
  have SI := ok_sp_init (P := P) (w := w) (base := base) T F_sp_init
  obtain ⟨fd_r_place, F_r_place, B_r_place⟩ := e_r_place c
  have PL := mt_of (P := P) (w := w) (base := base) B_r_place T.cls (He.meth_ok (c.fact 70 (f := .meth "Reader" "place") rfl)) (ok_place T F_r_place)
  obtain ⟨fd_r_need, F_r_need, B_r_need⟩ := e_r_need c
  have NE := mt_of (P := P) (w := w) (base := base) B_r_need T.cls (He.meth_ok (c.fact 71 (f := .meth "Reader" "need") rfl)) (ok_need T F_r_need SI B_sp_init PL)
  obtain ⟨fd_r_sort_now, F_r_sort_now, B_r_sort_now⟩ := e_r_sort_now c
  have SO := mt_of (P := P) (w := w) (base := base) B_r_sort_now T.cls (He.meth_ok (c.fact 72 (f := .meth "Reader" "sort_now") rfl)) (ok_sort_now T F_r_sort_now)
  obtain ⟨fd_r_fixed, F_r_fixed, B_r_fixed⟩ := e_r_fixed c
  have FX := mt_of (P := P) (w := w) (base := base) B_r_fixed T.cls (He.meth_ok (c.fact 73 (f := .meth "Reader" "fixed") rfl)) (ok_fixed T F_r_fixed SO PL)
  obtain ⟨fd_r_last_end, F_r_last_end, B_r_last_end⟩ := e_r_last_end c
  have LE := mt_of (P := P) (w := w) (base := base) B_r_last_end T.cls (He.meth_ok (c.fact 74 (f := .meth "Reader" "last_end") rfl)) (ok_last_end T F_r_last_end)
  obtain ⟨fd_r_take, F_r_take, B_r_take⟩ := e_r_take c
  have TA := mt_of (P := P) (w := w) (base := base) B_r_take T.cls (He.meth_ok (c.fact 75 (f := .meth "Reader" "take") rfl)) (ok_take T F_r_take NE FX)
  obtain ⟨fd_r_try_take, F_r_try_take, B_r_try_take⟩ := e_r_try_take c
  have TY := mt_of (P := P) (w := w) (base := base) B_r_try_take T.cls (He.meth_ok (c.fact 76 (f := .meth "Reader" "try_take") rfl)) (ok_try_take T F_r_try_take FX)
  obtain ⟨fd_r_mark, F_r_mark, B_r_mark⟩ := e_r_mark c
  have MA := mt_of (P := P) (w := w) (base := base) B_r_mark T.cls (He.meth_ok (c.fact 77 (f := .meth "Reader" "mark") rfl)) (ok_mark T F_r_mark NE SO PL)
  obtain ⟨fd_r_begin, F_r_begin, B_r_begin⟩ := e_r_begin c
  have BE := mt_of (P := P) (w := w) (base := base) B_r_begin T.cls (He.meth_ok (c.fact 83 (f := .meth "Reader" "begin") rfl)) (ok_begin T F_r_begin NE PL)
  have SM : Small P w K mg base (cR K) (cS K) := ⟨PL, SO, FX, LE, TA, TY, MA, BE, NU⟩
  obtain ⟨fd_r_marks, F_r_marks, B_r_marks⟩ := e_r_marks c
  have MS := mt_of (P := P) (w := w) (base := base) B_r_marks T.cls (He.meth_ok (c.fact 78 (f := .meth "Reader" "marks") rfl)) (ok_marks T F_r_marks MA TY)
  obtain ⟨fd_r_finish, F_r_finish, B_r_finish⟩ := e_r_finish c
  have FI := mt_of (P := P) (w := w) (base := base) B_r_finish T.cls (He.meth_ok (c.fact 79 (f := .meth "Reader" "finish") rfl)) (ok_finish T F_r_finish NE)
  obtain ⟨fd_r_field, F_r_field, B_r_field⟩ := e_r_field c
  have FD := mt_of (P := P) (w := w) (base := base) B_r_field T.cls (He.meth_ok (c.fact 80 (f := .meth "Reader" "field") rfl)) (ok_field T F_r_field MA TA)
  obtain ⟨fd_r_fields, F_r_fields, B_r_fields⟩ := e_r_fields c
  have FS := mt_of (P := P) (w := w) (base := base) B_r_fields T.cls (He.meth_ok (c.fact 81 (f := .meth "Reader" "fields") rfl)) (ok_fields T F_r_fields FD FX TA TY)
  obtain ⟨fd_r_bound, F_r_bound, B_r_bound⟩ := e_r_bound c
  have BO := mt_of (P := P) (w := w) (base := base) B_r_bound T.cls (He.meth_ok (c.fact 82 (f := .meth "Reader" "bound") rfl)) (ok_bound T F_r_bound MA TY)
  obtain ⟨fd_r_arguments, F_r_arguments, B_r_arguments⟩ := e_r_arguments c
  have D_arguments : MDef K (cR K) "arguments" "Reader.arguments" s_r_arguments ["self"] := ⟨_, _, F_r_arguments, He.meth_ok (c.fact 95 (f := .meth "Reader" "arguments") rfl), B_r_arguments⟩
  obtain ⟨fd_r_simple, F_r_simple, B_r_simple⟩ := e_r_simple c
  have D_simple : MDef K (cR K) "simple" "Reader.simple" s_r_simple ["self"] := ⟨_, _, F_r_simple, He.meth_ok (c.fact 94 (f := .meth "Reader" "simple") rfl), B_r_simple⟩
  obtain ⟨fd_r_reached, F_r_reached, B_r_reached⟩ := e_r_reached c
  have D_reached : MDef K (cR K) "reached" "Reader.reached" s_r_reached ["self"] := ⟨_, _, F_r_reached, He.meth_ok (c.fact 93 (f := .meth "Reader" "reached") rfl), B_r_reached⟩
  obtain ⟨fd_r_signed, F_r_signed, B_r_signed⟩ := e_r_signed c
  have D_signed : MDef K (cR K) "signed" "Reader.signed" s_r_signed ["self"] := ⟨_, _, F_r_signed, He.meth_ok (c.fact 92 (f := .meth "Reader" "signed") rfl), B_r_signed⟩
  obtain ⟨fd_r_chain, F_r_chain, B_r_chain⟩ := e_r_chain c
  have D_chain : MDef K (cR K) "chain" "Reader.chain" s_r_chain ["self", "signs"] := ⟨_, _, F_r_chain, He.meth_ok (c.fact 91 (f := .meth "Reader" "chain") rfl), B_r_chain⟩
  obtain ⟨fd_r_compared, F_r_compared, B_r_compared⟩ := e_r_compared c
  have D_compared : MDef K (cR K) "compared" "Reader.compared" s_r_compared ["self"] := ⟨_, _, F_r_compared, He.meth_ok (c.fact 90 (f := .meth "Reader" "compared") rfl), B_r_compared⟩
  obtain ⟨fd_r_negated, F_r_negated, B_r_negated⟩ := e_r_negated c
  have D_negated : MDef K (cR K) "negated" "Reader.negated" s_r_negated ["self"] := ⟨_, _, F_r_negated, He.meth_ok (c.fact 89 (f := .meth "Reader" "negated") rfl), B_r_negated⟩
  obtain ⟨fd_r_either, F_r_either, B_r_either⟩ := e_r_either c
  have D_either : MDef K (cR K) "either" "Reader.either" s_r_either ["self", "level"] := ⟨_, _, F_r_either, He.meth_ok (c.fact 88 (f := .meth "Reader" "either") rfl), B_r_either⟩
  obtain ⟨fd_r_let_value, F_r_let_value, B_r_let_value⟩ := e_r_let_value c
  have D_let_value : MDef K (cR K) "let_value" "Reader.let_value" s_r_let_value ["self", "start"] := ⟨_, _, F_r_let_value, He.meth_ok (c.fact 85 (f := .meth "Reader" "let_value") rfl), B_r_let_value⟩
  obtain ⟨fd_r_if_value, F_r_if_value, B_r_if_value⟩ := e_r_if_value c
  have D_if_value : MDef K (cR K) "if_value" "Reader.if_value" s_r_if_value ["self", "start"] := ⟨_, _, F_r_if_value, He.meth_ok (c.fact 86 (f := .meth "Reader" "if_value") rfl), B_r_if_value⟩
  obtain ⟨fd_r_loop_value, F_r_loop_value, B_r_loop_value⟩ := e_r_loop_value c
  have D_loop_value : MDef K (cR K) "loop_value" "Reader.loop_value" s_r_loop_value ["self", "start"] := ⟨_, _, F_r_loop_value, He.meth_ok (c.fact 87 (f := .meth "Reader" "loop_value") rfl), B_r_loop_value⟩
  obtain ⟨fd_r_value, F_r_value, B_r_value⟩ := e_r_value c
  have D_value : MDef K (cR K) "value" "Reader.value" s_r_value ["self"] := ⟨_, _, F_r_value, He.meth_ok (c.fact 84 (f := .meth "Reader" "value") rfl), B_r_value⟩
  have MD : MDefs K (cR K) := ⟨D_arguments, D_simple, D_reached, D_signed, D_chain, D_compared, D_negated, D_either, D_let_value, D_if_value, D_loop_value, D_value⟩
  exact ⟨⟨SM, MS, FD, FS, BO, value_ok T SM MD⟩, NE, FI⟩
theorem mk_read (X : K.In h) (G : h.Ns mainGlobals mg) (c : He.SaysX faL fnL tabL [] moreB w h K) : Cl P w K mg base CX0 138 "_law_read" ["_law_text"] spRead := by
  obtain ⟨ct, m, _, _, _⟩ := c
  have c := ct.d
  have T := mk_rx X G c m
  obtain ⟨GB, NE, FI⟩ := mk_big (P := P) (w := w) (base := base) X G c m
  have tb : He.dicW K (He.ga K "ITEM_READERS") = some (He.keysIn w.params readersK) := by
    have e : tabL.map (fun t => He.dicW K (t.1 K)) = tabL.map fun t => some (He.keysIn w.params t.2) := congrArg (fun z : He.AlT => z.2) ct
    injection e
  obtain ⟨fd_run_end, F_run_end, B_run_end⟩ := e_run_end c
  have C1 := cl_of (P := P) (w := w) (base := base) F_run_end B_run_end (He.glo_ok X G (c.fact 3 (f := .glo "run_end") rfl)) (ok_run_end T.tx F_run_end)
  obtain ⟨fd_token_at, F_token_at, B_token_at⟩ := e_token_at c
  have C2 := cl_of (P := P) (w := w) (base := base) F_token_at B_token_at (He.glo_ok X G (c.fact 4 (f := .glo "token_at") rfl)) (ok_token_at T.tx F_token_at C1)
  obtain ⟨fd_tokens_between, F_tokens_between, B_tokens_between⟩ := e_tokens_between c
  have C3 := cl_of (P := P) (w := w) (base := base) F_tokens_between B_tokens_between (He.glo_ok X G (c.fact 5 (f := .glo "tokens_between") rfl)) (ok_tokens_b T.tx F_tokens_between C2)
  obtain ⟨fd_tokens, F_tokens, B_tokens⟩ := e_tokens c
  have C4 := cl_of (P := P) (w := w) (base := base) F_tokens B_tokens (He.glo_ok X G (c.fact 6 (f := .glo "tokens") rfl)) (ok_tokens T.tx F_tokens C3)
  obtain ⟨fd_r_init, F_r_init, B_r_init⟩ := e_r_init c
  have RI := ok_r_init (P := P) (w := w) (base := base) T F_r_init C4
  obtain ⟨fd_read_bounds, F_read_bounds, B_read_bounds⟩ := e_read_bounds c
  have RB := cl_of (P := P) (w := w) (base := base) F_read_bounds B_read_bounds (He.glo_ok X G (c.fact 16 (f := .glo "read_bounds") rfl)) (ok_read_bounds T GB F_read_bounds)
  obtain ⟨fd_read_import, F_read_import, B_read_import⟩ := e_read_import c
  have O_import := ok_read_import (P := P) (w := w) (base := base) T GB F_read_import
  obtain ⟨fd_read_data, F_read_data, B_read_data⟩ := e_read_data c
  have O_data := ok_read_data (P := P) (w := w) (base := base) T GB F_read_data
  obtain ⟨fd_read_trait, F_read_trait, B_read_trait⟩ := e_read_trait c
  have O_trait := ok_read_trait (P := P) (w := w) (base := base) T GB F_read_trait
  obtain ⟨fd_read_impl, F_read_impl, B_read_impl⟩ := e_read_impl c
  have O_impl := ok_read_impl (P := P) (w := w) (base := base) T GB F_read_impl
  obtain ⟨fd_read_def, F_read_def, B_read_def⟩ := e_read_def c
  have O_def := ok_read_def (P := P) (w := w) (base := base) T GB RB F_read_def
  obtain ⟨m1, m⟩ := He.ba m
  obtain ⟨m2, m⟩ := He.ba m
  obtain ⟨m3, m⟩ := He.ba m
  obtain ⟨m4, m⟩ := He.ba m
  obtain ⟨m5, m⟩ := He.ba m
  obtain ⟨m6, m⟩ := He.ba m
  obtain ⟨m7, m⟩ := He.ba m
  obtain ⟨m8, m⟩ := He.ba m
  obtain ⟨m9, m⟩ := He.ba m
  have val : ∀ q ∈ readersD, ∃ u, PySem.W.nsIn K (He.ga K "ITEM_READERS") q.1 = some (some u) ∧ RelV (q.2.v K) u := fun q hq => He.valsB_ok m7 hq
  have IX : Ix P w K mg base (cR K) (cS K) (He.ga K "ITEM_READERS") := by
    refine ⟨(He.glo_ok X G (c.fact 18 (f := .glo "ITEM_READERS") rfl)), He.dicW_ok tb, fun z hz => dict_no tb hz, fun z p hp => ?_⟩
    rcases List.mem_cons.mp hp with e | hp
    · cases e
      obtain ⟨u, h1, h2⟩ := val ("import", .glo "read_import") (by simp [readersD])
      cases (show u = Value.ref _ from h2)
      exact ⟨_, _, h1, O_import, F_read_import.kp, B_read_import⟩
    rcases List.mem_cons.mp hp with e | hp
    · cases e
      obtain ⟨u, h1, h2⟩ := val ("data", .glo "read_data") (by simp [readersD])
      cases (show u = Value.ref _ from h2)
      exact ⟨_, _, h1, O_data, F_read_data.kp, B_read_data⟩
    rcases List.mem_cons.mp hp with e | hp
    · cases e
      obtain ⟨u, h1, h2⟩ := val ("trait", .glo "read_trait") (by simp [readersD])
      cases (show u = Value.ref _ from h2)
      exact ⟨_, _, h1, O_trait, F_read_trait.kp, B_read_trait⟩
    rcases List.mem_cons.mp hp with e | hp
    · cases e
      obtain ⟨u, h1, h2⟩ := val ("impl", .glo "read_impl") (by simp [readersD])
      cases (show u = Value.ref _ from h2)
      exact ⟨_, _, h1, O_impl, F_read_impl.kp, B_read_impl⟩
    rcases List.mem_cons.mp hp with e | hp
    · cases e
      obtain ⟨u, h1, h2⟩ := val ("def", .glo "read_def") (by simp [readersD])
      cases (show u = Value.ref _ from h2)
      exact ⟨_, _, h1, O_def, F_read_def.kp, B_read_def⟩
    cases hp
  obtain ⟨fd_read_item, F_read_item, B_read_item⟩ := e_read_item c
  have IT := ok_read_item T GB IX (He.glo_ok X G (c.fact 11 (f := .glo "Reader") rfl)) (He.mkr_ok (c.fact 96 (f := .mkr "Reader") rfl)) RI B_r_init NE FI F_read_item
  obtain ⟨fd_g_read, F_g_read, B_g_read⟩ := e_g_read c
  exact cl_of (P := P) (w := w) (base := base) F_g_read B_g_read (He.glo_ok X G (c.fact 46 (f := .glo "_law_read") rfl)) (ok_law_read T (xfB_ok m9) (He.exm_ok (c.fact 99 (f := .exm "SyntaxProblem" "SyntaxProblem" true) rfl)) IT (He.glo_ok X G (c.fact 19 (f := .glo "read_item") rfl)) F_read_item.kp B_read_item F_g_read)
theorem mk_law (X : K.In h) (G : h.Ns mainGlobals mg) (c : He.SaysX faL fnL tabL [] moreB w h K) : Lw P w K mg base := by
  have RD := mk_read (P := P) (base := base) X G c
  obtain ⟨ct, m, _, _, _⟩ := c
  have c := ct.d
  have f_len := (He.free_ok X G (c.fact 49 (f := .free "len") rfl))
  have f_tuple := (He.free_ok X G (c.fact 50 (f := .free "tuple") rfl))
  have f_abs := (He.free_ok X G (c.fact 51 (f := .free "abs") rfl))
  have f_int := (He.free_ok X G (c.fact 52 (f := .free "int") rfl))
  have f_isinstance := (He.free_ok X G (c.fact 53 (f := .free "isinstance") rfl))
  have f_bool := (He.free_ok X G (c.fact 54 (f := .free "bool") rfl))
  have f_str := (He.free_ok X G (c.fact 55 (f := .free "str") rfl))
  have f_range := (He.free_ok X G (c.fact 58 (f := .free "range") rfl))
  obtain ⟨fd_g_tape, F_g_tape, B_g_tape⟩ := e_g_tape c
  have TP := cl_of (P := P) (w := w) (base := base) F_g_tape B_g_tape (He.glo_ok X G (c.fact 20 (f := .glo "_law_tape") rfl)) (ok_g_tape f_abs f_int F_g_tape)
  obtain ⟨fd_g_take, F_g_take, B_g_take⟩ := e_g_take c
  have TK := cl_of (P := P) (w := w) (base := base) F_g_take B_g_take (He.glo_ok X G (c.fact 21 (f := .glo "_law_take") rfl)) (ok_g_take f_len f_int F_g_take)
  obtain ⟨fd_g_is_integer, F_g_is_integer, B_g_is_integer⟩ := e_g_is_integer c
  have II := cl_of (P := P) (w := w) (base := base) F_g_is_integer B_g_is_integer (He.glo_ok X G (c.fact 22 (f := .glo "_law_is_integer") rfl)) (ok_g_is_integer f_isinstance f_int f_bool F_g_is_integer)
  have SMs : Sm P w K mg base := ⟨f_len, f_range, f_isinstance, f_int, f_bool, f_str, f_tuple⟩
  obtain ⟨fd_g_same, F_g_same, B_g_same⟩ := e_g_same c
  have SI := cl_of (P := P) (w := w) (base := base) F_g_same B_g_same (He.glo_ok X G (c.fact 24 (f := .glo "_law_same") rfl)) (ok_g_sameI SMs II F_g_same)
  obtain ⟨fd_g_same_items, F_g_same_items, B_g_same_items⟩ := e_g_same_items c
  have SIt := cl_of (P := P) (w := w) (base := base) F_g_same_items B_g_same_items (He.glo_ok X G (c.fact 23 (f := .glo "_law_same_items") rfl)) (ok_g_items SMs SI F_g_same_items)
  have SA := cl_of (P := P) (w := w) (base := base) F_g_same B_g_same (He.glo_ok X G (c.fact 24 (f := .glo "_law_same") rfl)) (ok_g_same SMs SIt F_g_same)
  obtain ⟨fd_g_put, F_g_put, B_g_put⟩ := e_g_put c
  have PU := cl_of (P := P) (w := w) (base := base) F_g_put B_g_put (He.glo_ok X G (c.fact 25 (f := .glo "_law_put") rfl)) (ok_g_put F_g_put)
  obtain ⟨fd_g_gap, F_g_gap, B_g_gap⟩ := e_g_gap c
  have GA := cl_of (P := P) (w := w) (base := base) F_g_gap B_g_gap (He.glo_ok X G (c.fact 26 (f := .glo "_law_gap") rfl)) (ok_g_gap TK PU F_g_gap)
  obtain ⟨fd_g_token_out, F_g_token_out, B_g_token_out⟩ := e_g_token_out c
  have TN := cl_of (P := P) (w := w) (base := base) F_g_token_out B_g_token_out (He.glo_ok X G (c.fact 27 (f := .glo "_law_token_out") rfl)) (ok_g_token_out f_len GA PU F_g_token_out)
  have TO := cl_of (P := P) (w := w) (base := base) F_g_token_out B_g_token_out (He.glo_ok X G (c.fact 27 (f := .glo "_law_token_out") rfl)) (tok_gen (ok_g_token_out f_len GA PU F_g_token_out))
  obtain ⟨fd_g_some_name, F_g_some_name, B_g_some_name⟩ := e_g_some_name c
  have NM := cl_of (P := P) (w := w) (base := base) F_g_some_name B_g_some_name (He.glo_ok X G (c.fact 28 (f := .glo "_law_some_name") rfl)) (ok_g_some_name TK F_g_some_name)
  obtain ⟨fd_g_mark, F_g_mark, B_g_mark⟩ := e_g_mark c
  have MK := cl_of (P := P) (w := w) (base := base) F_g_mark B_g_mark (He.glo_ok X G (c.fact 36 (f := .glo "_law_mark") rfl)) (ok_g_mark NM TO F_g_mark)
  obtain ⟨fd_g_leaf, F_g_leaf, B_g_leaf⟩ := e_g_leaf c
  have LF := cl_of (P := P) (w := w) (base := base) F_g_leaf B_g_leaf (He.glo_ok X G (c.fact 30 (f := .glo "_law_leaf") rfl)) (ok_g_leaf f_int f_len TK TO F_g_leaf)
  have GK : Gk P w K mg base := ⟨f_len, f_range, f_tuple, f_int, TK, TO, NM⟩
  obtain ⟨fd_g_tree, F_g_tree, B_g_tree⟩ := e_g_tree c
  have T0 := cl_of (P := P) (w := w) (base := base) F_g_tree B_g_tree (He.glo_ok X G (c.fact 29 (f := .glo "_law_tree") rfl)) (ok_g_tree0 GK LF F_g_tree)
  obtain ⟨fd_g_call, F_g_call, B_g_call⟩ := e_g_call c
  obtain ⟨fd_g_reach, F_g_reach, B_g_reach⟩ := e_g_reach c
  obtain ⟨fd_g_prefix, F_g_prefix, B_g_prefix⟩ := e_g_prefix c
  obtain ⟨fd_g_binary, F_g_binary, B_g_binary⟩ := e_g_binary c
  obtain ⟨fd_g_wide, F_g_wide, B_g_wide⟩ := e_g_wide c
  have x0_call := cl_of (P := P) (w := w) (base := base) F_g_call B_g_call (He.glo_ok X G (c.fact 31 (f := .glo "_law_call") rfl)) (ok_g_call (d := 0) (k := 5) GK T0 (by decide) F_g_call)
  have x0_prefix := cl_of (P := P) (w := w) (base := base) F_g_prefix B_g_prefix (He.glo_ok X G (c.fact 33 (f := .glo "_law_prefix") rfl)) (ok_g_prefix (d := 0) (k := 5) GK T0 (by decide) F_g_prefix)
  have x0_binary := cl_of (P := P) (w := w) (base := base) F_g_binary B_g_binary (He.glo_ok X G (c.fact 34 (f := .glo "_law_binary") rfl)) (ok_g_binary (d := 0) (k := 5) GK T0 (by decide) F_g_binary)
  have x0_wide := cl_of (P := P) (w := w) (base := base) F_g_wide B_g_wide (He.glo_ok X G (c.fact 35 (f := .glo "_law_wide") rfl)) (ok_g_wide (d := 0) (k := 5) GK T0 (by decide) F_g_wide)
  have x0_reach := cl_of (P := P) (w := w) (base := base) F_g_reach B_g_reach (He.glo_ok X G (c.fact 32 (f := .glo "_law_reach") rfl)) (ok_g_reach (d := 0) (k := 5) GK T0 (by decide) F_g_reach)
  have t0 : Gt P w K mg base 5 0 := ⟨LF, T0, x0_call, x0_reach, x0_prefix, x0_binary, x0_wide⟩
  have T1 := cl_of (P := P) (w := w) (base := base) F_g_tree B_g_tree (He.glo_ok X G (c.fact 29 (f := .glo "_law_tree") rfl)) (ok_g_treeS GK t0 (by decide) F_g_tree)
  have T0b := cl_of (P := P) (w := w) (base := base) F_g_tree B_g_tree (He.glo_ok X G (c.fact 29 (f := .glo "_law_tree") rfl)) ((ok_g_tree0 GK LF F_g_tree).mono (show 5 ≤ 7 by decide))
  have x1_call := cl_of (P := P) (w := w) (base := base) F_g_call B_g_call (He.glo_ok X G (c.fact 31 (f := .glo "_law_call") rfl)) (ok_g_call (d := 1) (k := 7) GK T1 (by decide) F_g_call)
  have x1_prefix := cl_of (P := P) (w := w) (base := base) F_g_prefix B_g_prefix (He.glo_ok X G (c.fact 33 (f := .glo "_law_prefix") rfl)) (ok_g_prefix (d := 1) (k := 7) GK T1 (by decide) F_g_prefix)
  have x1_binary := cl_of (P := P) (w := w) (base := base) F_g_binary B_g_binary (He.glo_ok X G (c.fact 34 (f := .glo "_law_binary") rfl)) (ok_g_binary (d := 1) (k := 7) GK T1 (by decide) F_g_binary)
  have x1_wide := cl_of (P := P) (w := w) (base := base) F_g_wide B_g_wide (He.glo_ok X G (c.fact 35 (f := .glo "_law_wide") rfl)) (ok_g_wide (d := 1) (k := 7) GK T1 (by decide) F_g_wide)
  have x1_reach := cl_of (P := P) (w := w) (base := base) F_g_reach B_g_reach (He.glo_ok X G (c.fact 32 (f := .glo "_law_reach") rfl)) (ok_g_reach (d := 1) (k := 7) GK T0b (by decide) F_g_reach)
  have t1 : Gt P w K mg base 7 1 := ⟨LF, T1, x1_call, x1_reach, x1_prefix, x1_binary, x1_wide⟩
  have T2 := cl_of (P := P) (w := w) (base := base) F_g_tree B_g_tree (He.glo_ok X G (c.fact 29 (f := .glo "_law_tree") rfl)) (ok_g_treeS GK t1 (by decide) F_g_tree)
  obtain ⟨fd_g_list, F_g_list, B_g_list⟩ := e_g_list c
  have LI := cl_of (P := P) (w := w) (base := base) F_g_list B_g_list (He.glo_ok X G (c.fact 37 (f := .glo "_law_list") rfl)) (ok_g_list GK MK F_g_list)
  obtain ⟨fd_g_brackets, F_g_brackets, B_g_brackets⟩ := e_g_brackets c
  have BR := cl_of (P := P) (w := w) (base := base) F_g_brackets B_g_brackets (He.glo_ok X G (c.fact 38 (f := .glo "_law_brackets") rfl)) (ok_g_brackets GK MK LI F_g_brackets)
  obtain ⟨fd_g_def, F_g_def, B_g_def⟩ := e_g_def c
  have DE := cl_of (P := P) (w := w) (base := base) F_g_def B_g_def (He.glo_ok X G (c.fact 39 (f := .glo "_law_def") rfl)) (ok_g_def (k := 9) GK MK LI BR T2 (by decide) F_g_def)
  obtain ⟨fd_g_item, F_g_item, B_g_item⟩ := e_g_item c
  have IT := cl_of (P := P) (w := w) (base := base) F_g_item B_g_item (He.glo_ok X G (c.fact 40 (f := .glo "_law_item") rfl)) (ok_g_item (k := 9) GK MK LI BR T2 (by decide) DE TN F_g_item)
  obtain ⟨fd_g_is_letter, F_g_is_letter, B_g_is_letter⟩ := e_g_is_letter c
  have LE := cl_of (P := P) (w := w) (base := base) F_g_is_letter B_g_is_letter (He.glo_ok X G (c.fact 41 (f := .glo "_law_is_letter") rfl)) (ok_g_is_letter F_g_is_letter)
  obtain ⟨fd_g_is_digit, F_g_is_digit, B_g_is_digit⟩ := e_g_is_digit c
  have DI := cl_of (P := P) (w := w) (base := base) F_g_is_digit B_g_is_digit (He.glo_ok X G (c.fact 42 (f := .glo "_law_is_digit") rfl)) (ok_g_is_digit F_g_is_digit)
  obtain ⟨fd_g_run, F_g_run, B_g_run⟩ := e_g_run c
  have RU := cl_of (P := P) (w := w) (base := base) F_g_run B_g_run (He.glo_ok X G (c.fact 43 (f := .glo "_law_run") rfl)) (ok_g_run LE DI F_g_run)
  obtain ⟨fd_g_token, F_g_token, B_g_token⟩ := e_g_token c
  have TO1 := cl_of (P := P) (w := w) (base := base) F_g_token B_g_token (He.glo_ok X G (c.fact 44 (f := .glo "_law_token") rfl)) (ok_g_token LE DI RU F_g_token)
  obtain ⟨fd_g_tokens, F_g_tokens, B_g_tokens⟩ := e_g_tokens c
  have TKS := cl_of (P := P) (w := w) (base := base) F_g_tokens B_g_tokens (He.glo_ok X G (c.fact 45 (f := .glo "_law_tokens") rfl)) (ok_g_tokens f_len f_range TO1 F_g_tokens)
  obtain ⟨fd_g_spoilt, F_g_spoilt, B_g_spoilt⟩ := e_g_spoilt c
  have SP := cl_of (P := P) (w := w) (base := base) F_g_spoilt B_g_spoilt (He.glo_ok X G (c.fact 47 (f := .glo "_law_spoilt") rfl)) (ok_g_spoilt f_len TK TKS F_g_spoilt)
  exact ⟨TP, TK, IT, SP, TKS, RD, SA⟩
end
end K10
namespace K10
open PySem PySem.Spec PyProof.Rows L2
theorem law_facts {P : Program} {w : World} {K : PySem.W.Frag} {h : Heap} {mg : Str → Option Value} {f : Addr} (X : K.In h) (G : h.Ns mainGlobals mg) (hfa : mg ("law" : Str) = some (.ref f)) (c : He.SaysX faL fnL tabL [] moreB w h K) :
    ∃ fd : FuncData, (∀ (s : Shared) (v : Value), BindsTo s fd ⟨[v], []⟩ [("_law_script", v)]) ∧ ∀ base : Heap, K.In base → base.Ns mainGlobals mg → FnOk P w K mg base CX0 140 f fd ["_law_script"] (spLaw K) := by
  obtain ⟨fd, F⟩ := c.t.d.def_ 68 (d := d_law) rfl
  have e := hfa.symm.trans (He.glo_ok X G (c.t.d.fact 48 (f := .glo "law") rfl))
  cases e
  have b := FunD.bindsA (ps := ["_law_script"]) F fun _ _ _ _ _ _ us hl => match us, hl with | [_], _ => rfl
  exact ⟨fd, fun s v => b s [v] rfl, fun base _ _ => ok_law (mk_law X G c) F⟩
end K10
open PySem PySem.W PySem.Calls PyProof.Rows
theorem PySem.Challenge.cw_samenames_k10_first_wrong_token_holds : PySem.Challenge.rw_samenames_k10_first_wrong_token.Holds := by
  w_on; o_law
  refine HandSHeadRun.head_any (r := OpenLaw.row PySem.Challenge.rw_samenames_k10_first_wrong_token) (q := view (OpenLaw.row PySem.Challenge.rw_samenames_k10_first_wrong_token).prog [59]) (H := K10.hkL) (ob := K10.obL) (M := 4000) (loose := K10.looseL)
    (d := HandSHeadRun.topDef (OpenLaw.row PySem.Challenge.rw_samenames_k10_first_wrong_token).prog 59) (kwd := []) K10.obL_eq
    (by kernel_rfl) (fun s => by kernel_rfl) K10.runL (by kernel_rfl) (by kernel_rfl) (by kernel_rfl) (by rfl) (by first | assumption | decide +kernel) (by decide +kernel) ⟨rfl, rfl, rfl, rfl, rfl, by decide +kernel⟩ ?hw ?hc
  case hw => w_witness2
  case hc =>
    refine L2.walk_ofE (l := PySem.Challenge.rw_samenames_k10_first_wrong_token) (n := 63) (k := 140) (x := "_law_script") (CX := L2.CX0) rfl (by decide) (by kernel_rfl) ⟨rfl, by decide, by decide⟩ ?F (fun _ _ _ _ z => z)
    intro w mg fa h Y G hmg0
    obtain ⟨K, KX, c⟩ := Y
    have hmg : mg ("law" : PySem.Str) = some (.ref fa) := by
      have e : (HandSHeadRun.topDef (OpenLaw.row PySem.Challenge.rw_samenames_k10_first_wrong_token).prog 59).name = ("law" : PySem.Str) := by kernel_rfl
      rw [← e]
      exact hmg0
    obtain ⟨fd, hb, hF⟩ := K10.law_facts (P := (PySem.Challenge.rw_samenames_k10_first_wrong_token).prog) (w := w) KX G hmg c
    exact ⟨K, fd, K10.spLaw K, KX, hb, fun H a ns hl _ hS => ⟨a, ns, rfl, hS, by omega, fun _ => rfl⟩, hF⟩
