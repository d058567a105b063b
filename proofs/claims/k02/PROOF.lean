import PyProof.Rows.All
import Wide.All
import OpenK.AllK
import Wide.FinOn
import HandS.Text
import HandS.ForMost
import HandS.StrMore
import HandS.IsInst
import HandS.More
import KE.KDictExact
import HandS.NoneIn
import PyProof.ReprBulk
import PySem.Challenge.RW_fascicle_k02_chains_of_operators
set_option Elab.async false
/-! The language of the law in plain Lean: tokens, trees, what is read, what is due. -/
namespace K2
open PySem

inductive Tok where
  | word (w : Str) | name (x : Str) | num (n : Int) | sign (s : Str)

/-- the seven operators -/
inductive Sg where
  | or | and | lt | eq | add | sub | mul
  deriving DecidableEq

def Sg.str : Sg → Str
  | .or => "or" | .and => "and" | .lt => "<" | .eq => "==" | .add => "+" | .sub => "-" | .mul => "*"
def Sg.head : Sg → Str
  | .or => "or" | .and => "and" | .lt => "lt" | .eq => "eq" | .add => "add" | .sub => "sub" | .mul => "mul"
def Sg.lev : Sg → Nat
  | .or => 0 | .and => 1 | .lt => 2 | .eq => 2 | .add => 3 | .sub => 3 | .mul => 4
def Sg.tok : Sg → Tok
  | .or => .word "or" | .and => .word "and" | .lt => .sign "<" | .eq => .sign "==" | .add => .sign "+" | .sub => .sign "-" | .mul => .sign "*"

inductive Tree where
  | int (n : Int) | bool (b : Bool) | var (x : Str) | member (s x : Str) | neg (t : Tree) | bin (g : Sg) (a b : Tree) | call (f a b : Tree)

def Tree.dep : Tree → Nat
  | .int _ => 1 | .bool _ => 1 | .var _ => 1 | .member _ _ => 1
  | .neg t => 1 + t.dep
  | .bin _ a b => 1 + max a.dep b.dep
  | .call f a b => 1 + max f.dep (max a.dep b.dep)

/-! ### what the parser reads: relations -/
/-- level, tokens ahead, tree, tokens behind -/
abbrev R := Nat → List Tok → Tree → List Tok → Prop

inductive Prim (E : R) : R
  | tru (lv r) : Prim E lv (.word "true" :: r) (.bool true) r
  | par (lv r t r') : lv < 40 → E (lv + 1) r t (.sign ")" :: r') → Prim E lv (.sign "(" :: r) t r'
  | num (lv n r) : Prim E lv (.num n :: r) (.int n) r
  | var (lv x k r) : k ≠ .sign "." → Prim E lv (.name x :: k :: r) (.var x) (k :: r)
  | mem (lv x y r) : Prim E lv (.name x :: .sign "." :: .name y :: r) (.member x y) r

/-- two arguments, behind the opening parenthesis -/
inductive Args2 (E : R) : Nat → List Tok → Tree → Tree → List Tok → Prop
  | mk (lv c ts a r1 b r2) : c ≠ .sign ")" → lv < 40 → E (lv + 1) (c :: ts) a (.sign "," :: r1) → E (lv + 1) r1 b (.sign ")" :: r2) → Args2 E lv (c :: ts) a b r2

inductive CallL (E : R) : Nat → Nat → Tree → List Tok → Tree → List Tok → Prop
  | stop (lv t k r) : k ≠ .sign "(" → CallL E 0 lv t (k :: r) t (k :: r)
  | go (m lv t r a b r2 t' r') : lv < 40 → Args2 E (lv + 1) r a b r2 → CallL E m (lv + 1) (.call t a b) r2 t' r' → CallL E (m + 1) lv t (.sign "(" :: r) t' r'

def CallR (E P : R) : R := fun lv ts t ts' => ∃ t1 ts1 m, P lv ts t1 ts1 ∧ CallL E m lv t1 ts1 t ts'

/-- a chain from the left by the operators in G -/
inductive Loop (G : Sg → Prop) (S : R) : Nat → Nat → Tree → List Tok → Tree → List Tok → Prop
  | stop (lv t k r) : (∀ g, G g → k ≠ g.tok) → Loop G S 0 lv t (k :: r) t (k :: r)
  | go (m lv t g r t2 r2 t' r') : G g → lv < 40 → S (lv + 1) r t2 r2 → Loop G S m (lv + 1) (.bin g t t2) r2 t' r' → Loop G S (m + 1) lv t (g.tok :: r) t' r'

def Chain (G : Sg → Prop) (S : R) : R := fun lv ts t ts' => ∃ t1 ts1 m, S lv ts t1 ts1 ∧ Loop G S m lv t1 ts1 t ts'

inductive Plain (S Pl : R) : R
  | neg (lv r t r') : lv < 40 → Pl (lv + 1) r t r' → Plain S Pl lv (.word "not" :: r) (.neg t) r'
  | one (lv c ts t k r) : c ≠ .word "not" → S lv (c :: ts) t (k :: r) → (∀ g : Sg, g.lev = 2 → k ≠ g.tok) → Plain S Pl lv (c :: ts) t (k :: r)
  | two (lv c ts t g r t2 r2) : c ≠ .word "not" → g.lev = 2 → S lv (c :: ts) t (g.tok :: r) → lv < 40 → S (lv + 1) r t2 r2 → Plain S Pl lv (c :: ts) (.bin g t t2) r2

def atLev (l : Nat) (g : Sg) : Prop := g.lev = l

def prod1 (E : R) : R := Chain (atLev 4) (CallR E (Prim E))
def sum1 (E : R) : R := Chain (atLev 3) (prod1 E)
def plain1 (E Pl : R) : R := Plain (sum1 E) Pl
def both1 (E Pl : R) : R := Chain (atLev 1) (plain1 E Pl)
def expr1 (E Pl : R) : R := Chain (atLev 0) (both1 E Pl)

/-- what is read with n expressions in one another: an expression; a plain one -/
def RR : Nat → R × R
  | 0 => (fun _ _ _ _ => False, fun _ _ _ _ => False)
  | n + 1 => (expr1 (RR n).1 (RR n).2, plain1 (RR n).1 (RR n).2)

/-! ### operands -/
def nm : Nat → Str
  | 0 => "a" | 1 => "b" | 2 => "xy" | _ => "f_1"
inductive Opd where
  | num (n : Nat) | name (i : Nat) | mem (i : Nat) | call (i n : Nat) | neg

def Opd.toks : Opd → List Tok
  | .num n => [.num n]
  | .name i => [.name (nm i)]
  | .mem i => [.name "s", .sign ".", .name (nm i)]
  | .call i n => [.name (nm i), .sign "(", .num n, .sign ",", .name "b", .sign ")"]
  | .neg => [.sign "(", .word "not", .word "true", .sign ")"]
def Opd.tree : Opd → Tree
  | .num n => .int n
  | .name i => .var (nm i)
  | .mem i => .member "s" (nm i)
  | .call i n => .call (.var (nm i)) (.int n) (.var "b")
  | .neg => .neg (.bool true)

/-- a list of operators with their right operands -/
abbrev Tail := List (Sg × Opd)
def tailToks : Tail → List Tok
  | [] => []
  | (g, o) :: r => g.tok :: (o.toks ++ tailToks r)
def toksOf (p : Opd) (r : Tail) : List Tok := p.toks ++ tailToks r

/-! ### what is due: the climb by levels -/
/-- the first group's tail; the operators at the level l, each with the group behind it -/
def splitAtLev (l : Nat) : Tail → Tail × List (Sg × Opd × Tail)
  | [] => ([], [])
  | (g, o) :: r => if g.lev = l then ([], (g, o, (splitAtLev l r).1) :: (splitAtLev l r).2) else ((g, o) :: (splitAtLev l r).1, (splitAtLev l r).2)
/-- with k levels to go -/
def due : Nat → Opd → Tail → Tree
  | 0, p, _ => p.tree
  | k + 1, p, r => (splitAtLev (4 - k) r).2.foldl (fun t x => .bin x.1 t (due k x.2.1 x.2.2)) (due k p (splitAtLev (4 - k) r).1)

/-! ### at most one comparison between words -/
def Sg.cmp (g : Sg) : Bool := g.lev == 2
def Sg.log (g : Sg) : Bool := g.lev == 0 || g.lev == 1
def flag (f : Bool) (g : Sg) : Bool := g.cmp || (f && !g.log)
def okS : Bool → List Sg → Prop
  | _, [] => True
  | f, g :: r => (f = true → g.cmp = false) ∧ okS (flag f g) r
theorem okS_snoc : ∀ (l : List Sg) (f : Bool) (g : Sg), okS f l → (l.foldl flag f = true → g.cmp = false) → okS f (l ++ [g])
  | [], _, _, _, h => ⟨h, trivial⟩
  | a :: l, f, g, h, h' => ⟨h.1, okS_snoc l (flag f a) g h.2 h'⟩

/-! ### the tokens of a split -/
def groupToks : List (Sg × Opd × Tail) → List Tok
  | [] => []
  | (g, o, q) :: r => g.tok :: (toksOf o q ++ groupToks r)
def groupLen : List (Sg × Opd × Tail) → Nat
  | [] => 0
  | (_, _, q) :: r => 1 + q.length + groupLen r
theorem split_toks (l : Nat) : ∀ r : Tail, tailToks r = tailToks (splitAtLev l r).1 ++ groupToks (splitAtLev l r).2
  | [] => rfl
  | (g, o) :: r => by
    have ih := split_toks l r
    unfold splitAtLev
    split
    · simp only [tailToks, groupToks, toksOf, List.nil_append, List.append_assoc]
      rw [ih]
    · simp only [tailToks, List.cons_append, List.append_assoc]
      rw [ih]
theorem split_len (l : Nat) : ∀ r : Tail, r.length = (splitAtLev l r).1.length + groupLen (splitAtLev l r).2
  | [] => rfl
  | (g, o) :: r => by
    have ih := split_len l r
    unfold splitAtLev
    split
    · simp only [List.length_cons, List.length_nil, groupLen]
      omega
    · simp only [List.length_cons]
      omega
/-- every operator of the tail is at least at the level l -/
def above (l : Nat) (r : Tail) : Prop := ∀ x ∈ r, l ≤ x.1.lev
theorem split_above (l : Nat) : ∀ r : Tail, above l r → above (l + 1) (splitAtLev l r).1 ∧ ∀ x ∈ (splitAtLev l r).2, x.1.lev = l ∧ above (l + 1) x.2.2
  | [], _ => ⟨fun _ h => (nomatch h), fun _ h => (nomatch h)⟩
  | (g, o) :: r, h => by
    obtain ⟨i1, i2⟩ := split_above l r fun x hx => h x (List.mem_cons_of_mem _ hx)
    have hg : l ≤ g.lev := h (g, o) List.mem_cons_self
    unfold splitAtLev
    split
    · rename_i e
      refine ⟨fun _ h => (nomatch h), fun x hx => ?_⟩
      rcases List.mem_cons.mp hx with rfl | hx
      · exact ⟨e, i1⟩
      · exact i2 x hx
    · rename_i e
      refine ⟨fun x hx => ?_, i2⟩
      rcases List.mem_cons.mp hx with rfl | hx
      · show l + 1 ≤ g.lev
        omega
      · exact i1 x hx
def sgs (r : Tail) : List Sg := r.map (·.1)
theorem split_ok (l : Nat) (hl : l ≤ 1) : ∀ (r : Tail) (f : Bool), okS f (sgs r) → okS f (sgs (splitAtLev l r).1) ∧ ∀ x ∈ (splitAtLev l r).2, okS false (sgs x.2.2)
  | [], _, _ => ⟨trivial, fun _ h => (nomatch h)⟩
  | (g, o) :: r, f, h => by
    have h2 : okS (flag f g) (sgs r) := h.2
    obtain ⟨i1, i2⟩ := split_ok l hl r _ h2
    unfold splitAtLev
    split
    · rename_i e
      have e2 : flag f g = false := by
        have c1 : g.cmp = false := by unfold Sg.cmp; rw [e]; simp; omega
        have c2 : g.log = true := by unfold Sg.log; rw [e]; simp; omega
        unfold flag
        rw [c1, c2]
        simp
      rw [e2] at i1
      refine ⟨trivial, fun x hx => ?_⟩
      rcases List.mem_cons.mp hx with rfl | hx
      · exact i1
      · exact i2 x hx
    · exact ⟨⟨h.1, i1⟩, i2⟩
/-- behind a comparison no other one comes -/
theorem ok_true : ∀ r : Tail, above 2 r → okS true (sgs r) → (splitAtLev 2 r).2 = []
  | [], _, _ => rfl
  | (g, o) :: r, ha, h => by
    have hc : g.cmp = false := h.1 rfl
    have hg : 2 ≤ g.lev := ha (g, o) List.mem_cons_self
    have e : ¬ g.lev = 2 := by
      intro q
      unfold Sg.cmp at hc
      rw [q] at hc
      exact absurd hc (by decide)
    have el : g.log = false := by unfold Sg.log; simp; omega
    have h2 : okS (flag true g) (sgs r) := h.2
    have ef : flag true g = true := by unfold flag; rw [el]; simp
    rw [ef] at h2
    unfold splitAtLev
    rw [if_neg e]
    exact ok_true r (fun x hx => ha x (List.mem_cons_of_mem _ hx)) h2
theorem ok_false : ∀ r : Tail, above 2 r → okS false (sgs r) → (splitAtLev 2 r).2 = [] ∨ ∃ g o q, (splitAtLev 2 r).2 = [(g, o, q)] ∧ g.lev = 2
  | [], _, _ => .inl rfl
  | (g, o) :: r, ha, h => by
    have hr : above 2 r := fun x hx => ha x (List.mem_cons_of_mem _ hx)
    have h2 : okS (flag false g) (sgs r) := h.2
    unfold splitAtLev
    by_cases e : g.lev = 2
    · rw [if_pos e]
      have ef : flag false g = true := by unfold flag Sg.cmp; rw [e]; rfl
      rw [ef] at h2
      refine .inr ⟨g, o, (splitAtLev 2 r).1, ?_, e⟩
      show (g, o, (splitAtLev 2 r).1) :: (splitAtLev 2 r).2 = _
      rw [ok_true r hr h2]
    · rw [if_neg e]
      have ef : flag false g = false := by
        have : g.cmp = false := by unfold Sg.cmp; simpa using e
        unfold flag
        rw [this]
        rfl
      rw [ef] at h2
      exact ok_false r hr h2

/-! ### the derivations -/
/-- k may stand behind what the level l reads -/
def Stops (l : Nat) (k : Tok) : Prop := (∀ g : Sg, l ≤ g.lev → k ≠ g.tok) ∧ k ≠ .sign "(" ∧ k ≠ .sign "."
theorem Stops.mono {l l' : Nat} {k : Tok} (h : Stops l k) (hl : l ≤ l') : Stops l' k := ⟨fun g hg => h.1 g (Nat.le_trans hl hg), h.2⟩
theorem word_ne {a b : Str} (h : a ≠ b) : Tok.word a ≠ Tok.word b := fun e => h (Tok.word.inj e)
theorem sign_ne {a b : Str} (h : a ≠ b) : Tok.sign a ≠ Tok.sign b := fun e => h (Tok.sign.inj e)
theorem stops_semi : Stops 0 (.sign ";") :=
  ⟨fun g _ => by cases g <;> first | (intro h; cases h; done) | exact sign_ne (by decide +kernel), sign_ne (by decide +kernel), sign_ne (by decide +kernel)⟩
theorem stops_close : Stops 0 (.sign ")") :=
  ⟨fun g _ => by cases g <;> first | (intro h; cases h; done) | exact sign_ne (by decide +kernel), sign_ne (by decide +kernel), sign_ne (by decide +kernel)⟩
theorem stops_comma : Stops 0 (.sign ",") :=
  ⟨fun g _ => by cases g <;> first | (intro h; cases h; done) | exact sign_ne (by decide +kernel), sign_ne (by decide +kernel), sign_ne (by decide +kernel)⟩
theorem tok_inj {g g' : Sg} (h : g.tok = g'.tok) : g = g' := by
  cases g <;> cases g' <;> first
    | rfl
    | (exfalso; exact absurd h (by intro e; cases e; done))
    | (exfalso; exact absurd (Tok.sign.inj h) (by decide +kernel))
    | (exfalso; exact absurd (Tok.word.inj h) (by decide +kernel))
theorem stops_tok {g : Sg} {l : Nat} (h : g.lev < l) : Stops l g.tok := by
  refine ⟨fun g' hg e => ?_, ?_, ?_⟩
  · rw [tok_inj e] at h
    omega
  · cases g <;> first | (intro h; cases h; done) | exact sign_ne (by decide +kernel)
  · cases g <;> first | (intro h; cases h; done) | exact sign_ne (by decide +kernel)

section
variable {E Pl : R}
theorem chain_one {l : Nat} {S : R} {lv : Nat} {ts r : List Tok} {t : Tree} {k : Tok} (h : S lv ts t (k :: r)) (hk : Stops l k) : Chain (atLev l) S lv ts t (k :: r) :=
  ⟨t, k :: r, 0, h, .stop _ _ _ _ fun g hg => hk.1 g (Nat.le_of_eq (Eq.symm hg))⟩
/-- a primary alone is an expression -/
theorem expr_of_prim {lv : Nat} {c : Tok} {ts r : List Tok} {t : Tree} {k : Tok} (h : Prim E lv (c :: ts) t (k :: r)) (hk : Stops 0 k) (hc : c ≠ .word "not") : expr1 E Pl lv (c :: ts) t (k :: r) :=
  chain_one (chain_one (.one _ _ _ _ _ _ hc (chain_one (chain_one ⟨t, k :: r, 0, h, .stop _ _ _ _ hk.2.1⟩ (hk.mono (by decide))) (hk.mono (by decide))) fun g hg => hk.1 g (Nat.zero_le _)) (hk.mono (by decide))) hk
end
theorem plain_tru {E Pl : R} {lv : Nat} {r : List Tok} {k : Tok} (hk : Stops 0 k) : plain1 E Pl lv (.word "true" :: k :: r) (.bool true) (k :: r) :=
  .one _ _ _ _ _ _ (word_ne (by decide +kernel)) (chain_one (chain_one ⟨_, k :: r, 0, .tru _ _, .stop _ _ _ _ hk.2.1⟩ (hk.mono (by decide))) (hk.mono (by decide))) fun g hg => hk.1 g (Nat.zero_le _)

/-- an operand, read with three expressions in one another -/
theorem opd_read (o : Opd) {lv : Nat} {k : Tok} {r : List Tok} (hl : lv + 2 < 40) (hk : Stops 5 k) : CallR (RR 2).1 (Prim (RR 2).1) lv (o.toks ++ k :: r) o.tree (k :: r) := by
  cases o with
  | num n => exact ⟨_, _, 0, .num _ _ _, .stop _ _ _ _ hk.2.1⟩
  | name i => exact ⟨_, _, 0, .var _ _ _ _ hk.2.2, .stop _ _ _ _ hk.2.1⟩
  | mem i => exact ⟨_, _, 0, .mem _ _ _ _, .stop _ _ _ _ hk.2.1⟩
  | call i n =>
    refine ⟨_, _, 1, .var _ _ _ _ (sign_ne (by decide +kernel)), .go _ _ _ _ _ _ _ _ _ (by omega) ?_ (.stop _ _ _ _ hk.2.1)⟩
    refine .mk _ _ _ _ _ _ _ (by intro h; cases h) (by omega) (expr_of_prim (.num _ _ _) stops_comma (by intro h; cases h)) ?_
    exact expr_of_prim (.var _ _ _ _ stops_close.2.2) stops_close (by intro h; cases h)
  | neg =>
    refine ⟨_, _, 0, .par _ _ _ _ (by omega) ?_, .stop _ _ _ _ hk.2.1⟩
    exact chain_one (chain_one (.neg _ _ _ _ (by omega) (plain_tru stops_close)) (stops_close.mono (by decide))) stops_close
theorem opd_head (o : Opd) : ∃ c ts, o.toks = c :: ts ∧ c ≠ .word "not" := by
  cases o <;> exact ⟨_, _, rfl, by intro h; cases h⟩

/-- what the reading at k levels to go is -/
def reads : Nat → R
  | 0 => CallR (RR 2).1 (Prim (RR 2).1)
  | 1 => prod1 (RR 2).1
  | 2 => sum1 (RR 2).1
  | 3 => plain1 (RR 2).1 (RR 2).2
  | 4 => both1 (RR 2).1 (RR 2).2
  | _ => expr1 (RR 2).1 (RR 2).2

/-- the loop over the groups -/
theorem loop_read {l k : Nat} {S : R}
    (hS : ∀ (p : Opd) (q : Tail) (lv : Nat) (c : Tok) (r : List Tok), above (l + 1) q → okS false (sgs q) → lv + q.length + 2 < 40 → Stops (l + 1) c → S lv (toksOf p q ++ c :: r) (due k p q) (c :: r)) :
    ∀ (gs : List (Sg × Opd × Tail)) (lv : Nat) (t : Tree) (c : Tok) (r : List Tok), (∀ x ∈ gs, x.1.lev = l ∧ above (l + 1) x.2.2 ∧ okS false (sgs x.2.2)) → lv + groupLen gs + 2 < 40 → Stops l c →
      Loop (atLev l) S gs.length lv t (groupToks gs ++ c :: r) (gs.foldl (fun t x => .bin x.1 t (due k x.2.1 x.2.2)) t) (c :: r)
  | [], lv, t, c, r, _, _, hc => .stop _ _ _ _ fun g hg => hc.1 g (Nat.le_of_eq (Eq.symm hg))
  | (g, o, q) :: gs, lv, t, c, r, h, hl, hc => by
    obtain ⟨h1, h2, h3⟩ := h (g, o, q) List.mem_cons_self
    have hl' : lv + (1 + q.length + groupLen gs) + 2 < 40 := hl
    have rest := loop_read hS gs (lv + 1) (.bin g t (due k o q)) c r (fun x hx => h x (List.mem_cons_of_mem _ hx)) (by omega) hc
    have e : groupToks ((g, o, q) :: gs) ++ c :: r = g.tok :: (toksOf o q ++ (groupToks gs ++ c :: r)) := by
      simp only [groupToks, List.cons_append, List.append_assoc]
    rw [e]
    refine .go _ _ _ _ _ (due k o q) (groupToks gs ++ c :: r) _ _ h1 (by omega) ?_ rest
    cases gs with
    | nil => exact hS o q (lv + 1) c r h2 h3 (by omega) (hc.mono (Nat.le_succ _))
    | cons y gs =>
      obtain ⟨g', o', q'⟩ := y
      have hy := (h (g', o', q') (List.mem_cons_of_mem _ List.mem_cons_self)).1
      have e2 : groupToks ((g', o', q') :: gs) ++ c :: r = g'.tok :: (toksOf o' q' ++ groupToks gs ++ c :: r) := by
        simp only [groupToks, List.cons_append, List.append_assoc]
      rw [e2]
      exact hS o q (lv + 1) _ _ h2 h3 (by omega) (stops_tok (by show g'.lev < l + 1; have hy' : g'.lev = l := hy; omega))

/-- a chain at the level l out of what the level behind it reads -/
theorem chain_read {l k : Nat} {S : R} (hlk : l = 4 - k)
    (hS : ∀ (p : Opd) (q : Tail) (lv : Nat) (c : Tok) (r : List Tok), above (l + 1) q → okS false (sgs q) → lv + q.length + 2 < 40 → Stops (l + 1) c → S lv (toksOf p q ++ c :: r) (due k p q) (c :: r))
    (hok : ∀ q : Tail, above l q → okS false (sgs q) → okS false (sgs (splitAtLev l q).1) ∧ ∀ x ∈ (splitAtLev l q).2, okS false (sgs x.2.2))
    (p : Opd) (q : Tail) (lv : Nat) (c : Tok) (r : List Tok) (ha : above l q) (ho : okS false (sgs q)) (hl : lv + q.length + 2 < 40) (hc : Stops l c) :
    Chain (atLev l) S lv (toksOf p q ++ c :: r) (due (k + 1) p q) (c :: r) := by
  obtain ⟨a1, a2⟩ := split_above l q ha
  obtain ⟨o1, o2⟩ := hok q ha ho
  have el := split_len l q
  have et : toksOf p q ++ c :: r = toksOf p (splitAtLev l q).1 ++ (groupToks (splitAtLev l q).2 ++ c :: r) := by
    unfold toksOf
    rw [split_toks l q]
    simp only [List.append_assoc]
  rw [et]
  refine ⟨due k p (splitAtLev l q).1, groupToks (splitAtLev l q).2 ++ c :: r, (splitAtLev l q).2.length, ?_, ?_⟩
  · cases e : (splitAtLev l q).2 with
    | nil => exact hS _ _ _ _ _ a1 o1 (by omega) (hc.mono (Nat.le_succ _))
    | cons y gs =>
      obtain ⟨g', o', q'⟩ := y
      have hy : g'.lev = l := (a2 (g', o', q') (by rw [e]; exact List.mem_cons_self)).1
      have e2 : groupToks ((g', o', q') :: gs) ++ c :: r = g'.tok :: (toksOf o' q' ++ groupToks gs ++ c :: r) := by
        simp only [groupToks, List.cons_append, List.append_assoc]
      rw [e2]
      exact hS _ _ _ _ _ a1 o1 (by omega) (stops_tok (by omega))
  · have := loop_read hS (splitAtLev l q).2 lv (due k p (splitAtLev l q).1) c r (fun x hx => ⟨(a2 x hx).1, (a2 x hx).2, o2 x hx⟩) (by omega) hc
    have ed : due (k + 1) p q = (splitAtLev l q).2.foldl (fun t x => .bin x.1 t (due k x.2.1 x.2.2)) (due k p (splitAtLev l q).1) := by
      rw [hlk]
      rfl
    rw [ed]
    exact this

theorem ok_drop : ∀ (r : Tail), above 3 r → ∀ l, okS false (sgs (splitAtLev l r).1) ∧ ∀ x ∈ (splitAtLev l r).2, okS false (sgs x.2.2)
  | [], _, _ => ⟨trivial, fun _ h => (nomatch h)⟩
  | (g, o) :: r, h, l => by
    have hg : 3 ≤ g.lev := h (g, o) List.mem_cons_self
    obtain ⟨i1, i2⟩ := ok_drop r (fun x hx => h x (List.mem_cons_of_mem _ hx)) l
    have ec : g.cmp = false := by unfold Sg.cmp; simp; omega
    unfold splitAtLev
    split
    · refine ⟨trivial, fun x hx => ?_⟩
      rcases List.mem_cons.mp hx with rfl | hx
      · exact i1
      · exact i2 x hx
    · refine ⟨⟨fun _ => ec, ?_⟩, i2⟩
      have ef : flag false g = false := by unfold flag; rw [ec]; rfl
      rw [ef]
      exact i1
theorem above_top {r : Tail} (h : above 5 r) : r = [] := by
  cases r with
  | nil => rfl
  | cons x r =>
    have h5 := h x List.mem_cons_self
    have : x.1.lev ≤ 4 := by cases x.1 <;> decide
    omega

theorem read0 (p : Opd) (q : Tail) (lv : Nat) (c : Tok) (r : List Tok) (ha : above (4 + 1) q) (_ : okS false (sgs q)) (hl : lv + q.length + 2 < 40) (hc : Stops (4 + 1) c) : CallR (RR 2).1 (Prim (RR 2).1) lv (toksOf p q ++ c :: r) (due 0 p q) (c :: r) := by
  have e := above_top ha
  subst e
  have e2 : toksOf p [] = p.toks := by unfold toksOf tailToks; simp
  rw [e2]
  exact opd_read p (by simpa using hl) hc
theorem read1 (p : Opd) (q : Tail) (lv : Nat) (c : Tok) (r : List Tok) (ha : above 4 q) (ho : okS false (sgs q)) (hl : lv + q.length + 2 < 40) (hc : Stops 4 c) : prod1 (RR 2).1 lv (toksOf p q ++ c :: r) (due 1 p q) (c :: r) :=
  chain_read (l := 4) (k := 0) rfl read0 (fun q hq _ => ok_drop q (fun x hx => Nat.le_trans (by decide) (hq x hx)) _) p q lv c r ha ho hl hc
theorem read2 (p : Opd) (q : Tail) (lv : Nat) (c : Tok) (r : List Tok) (ha : above 3 q) (ho : okS false (sgs q)) (hl : lv + q.length + 2 < 40) (hc : Stops 3 c) : sum1 (RR 2).1 lv (toksOf p q ++ c :: r) (due 2 p q) (c :: r) :=
  chain_read (l := 3) (k := 1) rfl read1 (fun q hq _ => ok_drop q hq _) p q lv c r ha ho hl hc
theorem toks_head (p : Opd) (q : Tail) (r : List Tok) : ∃ c ts, toksOf p q ++ r = c :: ts ∧ c ≠ .word "not" := by
  obtain ⟨c, ts, e, h⟩ := opd_head p
  exact ⟨c, _, by unfold toksOf; rw [e]; rfl, h⟩
theorem read3 (p : Opd) (q : Tail) (lv : Nat) (c : Tok) (r : List Tok) (ha : above 2 q) (ho : okS false (sgs q)) (hl : lv + q.length + 2 < 40) (hc : Stops 2 c) : plain1 (RR 2).1 (RR 2).2 lv (toksOf p q ++ c :: r) (due 3 p q) (c :: r) := by
  obtain ⟨a1, a2⟩ := split_above 2 q ha
  have el := split_len 2 q
  have et : toksOf p q ++ c :: r = toksOf p (splitAtLev 2 q).1 ++ (groupToks (splitAtLev 2 q).2 ++ c :: r) := by
    unfold toksOf
    rw [split_toks 2 q]
    simp only [List.append_assoc]
  have o3 : ∀ q : Tail, above 3 q → okS false (sgs q) := by
    intro q
    induction q with
    | nil => intro _; trivial
    | cons x q ih =>
      intro h
      have hg : 3 ≤ x.1.lev := h x List.mem_cons_self
      have ec : x.1.cmp = false := by unfold Sg.cmp; simp; omega
      have ef : flag false x.1 = false := by unfold flag; rw [ec]; rfl
      refine ⟨fun _ => ec, ?_⟩
      rw [ef]
      exact ih fun y hy => h y (List.mem_cons_of_mem _ hy)
  rw [et]
  obtain ⟨h0, ts, eh, hn⟩ := toks_head p (splitAtLev 2 q).1 (groupToks (splitAtLev 2 q).2 ++ c :: r)
  unfold due
  show plain1 _ _ lv _ ((splitAtLev 2 q).2.foldl _ (due 2 p (splitAtLev 2 q).1)) _
  rcases ok_false q ha ho with e | ⟨g, o, q', e, hg⟩
  · rw [e] at el eh ⊢
    have el' : q.length = (splitAtLev 2 q).1.length + 0 := el
    have h := read2 p (splitAtLev 2 q).1 lv c r a1 (o3 _ a1) (by omega) (hc.mono (by decide))
    have eh' : toksOf p (splitAtLev 2 q).1 ++ c :: r = h0 :: ts := eh
    show plain1 _ _ lv (toksOf p (splitAtLev 2 q).1 ++ c :: r) _ _
    rw [eh'] at h ⊢
    exact .one _ _ _ _ _ _ hn h fun g hg => hc.1 g (Nat.le_of_eq hg.symm)
  · have a3 := (a2 (g, o, q') (by rw [e]; exact List.mem_cons_self)).2
    have a3' : above 3 q' := a3
    rw [e] at el eh ⊢
    have el' : q.length = (splitAtLev 2 q).1.length + (1 + q'.length + 0) := el
    have e2 : groupToks [(g, o, q')] ++ c :: r = g.tok :: (toksOf o q' ++ c :: r) := by
      simp [groupToks]
    rw [e2] at eh ⊢
    have h := read2 p (splitAtLev 2 q).1 lv g.tok (toksOf o q' ++ c :: r) a1 (o3 _ a1) (by omega) (stops_tok (by omega))
    have h2 := read2 o q' (lv + 1) c r a3' (o3 _ a3') (by omega) (hc.mono (by decide))
    rw [eh] at h ⊢
    exact .two _ _ _ _ _ _ _ _ hn hg h (by omega) h2
theorem read4 (p : Opd) (q : Tail) (lv : Nat) (c : Tok) (r : List Tok) (ha : above 1 q) (ho : okS false (sgs q)) (hl : lv + q.length + 2 < 40) (hc : Stops 1 c) : both1 (RR 2).1 (RR 2).2 lv (toksOf p q ++ c :: r) (due 4 p q) (c :: r) :=
  chain_read (l := 1) (k := 3) rfl read3 (fun q _ h => split_ok 1 (by decide) q false h) p q lv c r ha ho hl hc
/-- THE PLAIN LAW of the parser: the tokens of a chain are read as the tree that is due -/
theorem read5 (p : Opd) (q : Tail) (lv : Nat) (c : Tok) (r : List Tok) (ho : okS false (sgs q)) (hl : lv + q.length + 2 < 40) (hc : Stops 0 c) : (RR 3).1 lv (toksOf p q ++ c :: r) (due 5 p q) (c :: r) :=
  chain_read (l := 0) (k := 4) rfl read4 (fun q _ h => split_ok 0 (by decide) q false h) p q lv c r (fun _ _ => Nat.zero_le _) ho hl hc

/-! ### how deep the tree is -/
theorem opd_dep (o : Opd) : o.tree.dep ≤ 2 := by cases o <;> simp [Opd.tree, Tree.dep]
theorem fold_dep {k : Nat} (hk : ∀ (p : Opd) (q : Tail), (due k p q).dep ≤ 2 + q.length) : ∀ (gs : List (Sg × Opd × Tail)) (t : Tree) (n : Nat), t.dep ≤ 2 + n → (gs.foldl (fun t x => Tree.bin x.1 t (due k x.2.1 x.2.2)) t).dep ≤ 2 + n + groupLen gs
  | [], t, n, h => h
  | (g, o, q) :: gs, t, n, h => by
    have h2 := hk o q
    have := fold_dep hk gs (.bin g t (due k o q)) (n + 1 + q.length) (by
      show 1 + max t.dep (due k o q).dep ≤ _
      omega)
    show (gs.foldl _ (Tree.bin g t (due k o q))).dep ≤ 2 + n + (1 + q.length + groupLen gs)
    omega
theorem due_dep : ∀ (k : Nat) (p : Opd) (q : Tail), (due k p q).dep ≤ 2 + q.length
  | 0, p, q => Nat.le_trans (opd_dep p) (Nat.le_add_right _ _)
  | k + 1, p, q => by
    have el := split_len (4 - k) q
    have h := fold_dep (due_dep k) (splitAtLev (4 - k) q).2 (due k p (splitAtLev (4 - k) q).1) (splitAtLev (4 - k) q).1.length (due_dep k _ _)
    unfold due
    omega
end K2
/-! The lexer in plain Lean: what the law's text is split into. -/
namespace K2
open PySem TL

def isL (c : Nat) : Bool := (decide (97 ≤ c) && decide (c ≤ 122)) || (decide (65 ≤ c) && decide (c ≤ 90))
def isD (c : Nat) : Bool := decide (48 ≤ c) && decide (c ≤ 57)
def inN (c : Nat) : Bool := isL c || (isD c || decide (c = 95))
abbrev S (l : List Nat) : Str := ⟨l.toArray⟩

def reserved : List Str := ["and", "as", "ask", "catch", "else", "export", "false", "from", "fun", "if", "import", "let", "none", "not", "or", "repeat", "return", "tell", "throw", "true", "try"]
def signs : List Str := ["==", "=", "<", "+", "-", "*", ".", ",", ";", "(", ")", "{", "}"]
def stopsN : List Nat → Bool
  | [] => true
  | c :: _ => !inN c

/-- one token at the head of a text -/
inductive Tk1 : List Nat → Tok → List Nat → Prop
  | word (c w r) : isL c = true → w.all inN = true → stopsN r = true → S (c :: w) ∈ reserved → Tk1 ((c :: w) ++ r) (.word (S (c :: w))) r
  | name (c w r) : isL c = true → w.all inN = true → stopsN r = true → S (c :: w) ∉ reserved → (c :: w).length ≤ 20 → Tk1 ((c :: w) ++ r) (.name (S (c :: w))) r
  | num (c w r n) : isD c = true → w.all isD = true → stopsN r = true → (c :: w).length ≤ 5 → PySem.intText? (S (c :: w)) = some n → n ≤ 65535 → (c = 48 → w = []) → Tk1 ((c :: w) ++ r) (.num n) r
  | sign (c cs s r) : isL c = false → isD c = false → c ≠ 34 → signs.find? (fun s => (tl s).isPrefixOf (c :: cs)) = some s → c :: cs = tl s ++ r → Tk1 (c :: cs) (.sign s) r

/-- a text from an index on: its tokens, each with its place -/
inductive LexR : List Nat → Nat → List (Tok × Nat) → Prop
  | nil (i) : LexR [] i []
  | sp (c cs i ts) : c = 32 ∨ c = 10 → LexR cs (i + 1) ts → LexR (c :: cs) i ts
  | tok (c cs k r i ts) : Tk1 (c :: cs) k r → LexR r (i + ((c :: cs).length - r.length)) ts → LexR (c :: cs) i ((k, i) :: ts)

/-- the tokens without places -/
inductive Lx : List Nat → List Tok → Prop
  | nil : Lx [] []
  | sp (c cs ts) : c = 32 ∨ c = 10 → Lx cs ts → Lx (c :: cs) ts
  | tok (c cs k r ts) : Tk1 (c :: cs) k r → Lx r ts → Lx (c :: cs) (k :: ts)
theorem Lx.placed {cs : List Nat} {ts : List Tok} (h : Lx cs ts) : ∀ i, ∃ us, LexR cs i us ∧ us.map (·.1) = ts := by
  induction h with
  | nil => exact fun i => ⟨[], .nil i, rfl⟩
  | sp c cs ts hc _ ih =>
    intro i
    obtain ⟨us, h1, h2⟩ := ih (i + 1)
    exact ⟨us, .sp _ _ _ _ hc h1, h2⟩
  | tok c cs k r ts hk _ ih =>
    intro i
    obtain ⟨us, h1, h2⟩ := ih (i + ((c :: cs).length - r.length))
    exact ⟨(k, i) :: us, .tok _ _ _ _ _ _ hk h1, by rw [List.map_cons, h2]⟩

/-! ### tokens that stand in the law's texts -/
def wordL : List Nat → Bool
  | c :: w => isL c && w.all inN
  | [] => false
def signL : List Nat → Bool
  | c :: _ => !isL c && (!isD c && decide (c ≠ 34))
  | [] => false
theorem Lx.word {w : List Nat} {r : List Nat} {ts : List Tok} (s : Str) (hw : w = tl s) (h1 : wordL w = true) (h2 : stopsN r = true) (h3 : s ∈ reserved) (h : Lx r ts) : Lx (w ++ r) (.word s :: ts) := by
  cases w with
  | nil => exact absurd h1 Bool.false_ne_true
  | cons c w =>
    have e : s = S (c :: w) := by rw [hw]
    have h1' : (isL c && w.all inN) = true := h1
    rw [Bool.and_eq_true] at h1'
    rw [e] at h3
    rw [e]
    exact .tok _ _ _ _ _ (.word _ _ _ h1'.1 h1'.2 h2 h3) h
theorem Lx.name {w : List Nat} {r : List Nat} {ts : List Tok} (s : Str) (hw : w = tl s) (h1 : wordL w = true) (hl : w.length ≤ 20) (h2 : stopsN r = true) (h3 : s ∉ reserved) (h : Lx r ts) : Lx (w ++ r) (.name s :: ts) := by
  cases w with
  | nil => exact absurd h1 Bool.false_ne_true
  | cons c w =>
    have e : s = S (c :: w) := by rw [hw]
    have h1' : (isL c && w.all inN) = true := h1
    rw [Bool.and_eq_true] at h1'
    rw [e] at h3
    rw [e]
    exact .tok _ _ _ _ _ (.name _ _ _ h1'.1 h1'.2 h2 h3 hl) h
theorem numL_zero {n : Nat} {w : List Nat} (h : numL n = 48 :: w) : w = [] := by
  by_cases hn : n < 10
  · rw [numL_lt hn] at h
    injection h with _ h2
    exact h2.symm
  · exfalso
    -- the first sign of a number of two signs or more is not 0
    have key : ∀ n, 0 < n → ∀ c w, numL n = c :: w → c ≠ 48 := by
      intro n
      induction n using Nat.strongRecOn with
      | _ n ih =>
        intro h0 c w e
        by_cases h10 : n < 10
        · rw [numL_lt h10] at e
          injection e with e1 _
          omega
        · rw [numL_step (by omega)] at e
          cases q : numL (n / 10) with
          | nil => exact absurd q (numL_ne _)
          | cons c' w' =>
            rw [q] at e
            injection e with e1 _
            rw [← e1]
            exact ih (n / 10) (by omega) (by omega) c' w' q
    exact key n (by omega) 48 w h rfl
theorem Lx.num {r : List Nat} {ts : List Tok} (n : Nat) (hn : n < 65536) (h2 : stopsN r = true) (h : Lx r ts) : Lx (numL n ++ r) (.num (n : Int) :: ts) := by
  have hl : (numL n).length ≤ 5 := numL_len (by decide) (by omega)
  have hd := numL_digits n
  have hi := int_num (n := n) (by omega)
  cases q : numL n with
  | nil => exact absurd q (numL_ne _)
  | cons c w =>
    rw [q] at hl
    have et : Str.ofString (toString ((n : Nat) : Int)) = S (c :: w) := ext_tl (by rw [tl_num, q])
    rw [et] at hi
    have dig : ∀ x ∈ c :: w, isD x = true := fun x hx => by
      have := hd x (by rw [q]; exact hx)
      unfold isD
      simp only [Bool.and_eq_true, decide_eq_true_eq]
      omega
    refine .tok _ _ _ _ _ (.num _ _ _ _ (dig c List.mem_cons_self) ?_ h2 hl hi (by omega) fun e => ?_) h
    · rw [List.all_eq_true]
      exact fun x hx => dig x (List.mem_cons_of_mem _ hx)
    · subst e
      exact numL_zero q
theorem Lx.sign {w : List Nat} {r : List Nat} {ts : List Tok} (s : Str) (hw : w = tl s) (h1 : signL w = true)
    (h2 : signs.find? (fun s => (tl s).isPrefixOf (w ++ r)) = some s) (h : Lx r ts) : Lx (w ++ r) (.sign s :: ts) := by
  cases w with
  | nil => exact absurd h1 Bool.false_ne_true
  | cons c w =>
    have h1' : (!isL c && (!isD c && decide (c ≠ 34))) = true := h1
    simp only [Bool.and_eq_true, Bool.not_eq_true', decide_eq_true_eq] at h1'
    have e : c :: (w ++ r) = tl s ++ r := by rw [← hw]; rfl
    exact .tok _ _ _ _ _ (.sign _ _ _ _ h1'.1 h1'.2.1 h1'.2.2 h2 e) h

/-! ### the texts of operands and chains -/
def strN (n : Nat) : Str := Str.ofString (toString ((n : Nat) : Int))
def Opd.text : Opd → Str
  | .num n => strN n
  | .name i => nm i
  | .mem i => ("s." : Str) ++ nm i
  | .call i n => (nm i ++ ("(" : Str)) ++ strN n ++ (", b)" : Str)
  | .neg => "(not true)"
/-- an operand of the law: its number is small -/
def Opd.small : Opd → Prop
  | .num n => n < 65536
  | .call _ n => n < 65536
  | _ => True
/-- a chain's part: the blank ahead (a newline or not), the operator, the operand -/
abbrev Part := Bool × Sg × Opd
def blank : Bool → Str
  | false => " " | true => "\n "
def partText (x : Part) : Str := (blank x.1 ++ x.2.1.str) ++ (" " : Str) ++ x.2.2.text
def chainText (p : Opd) : List Part → Str
  | [] => p.text
  | l => l.foldl (fun t x => t ++ partText x) p.text
def tailOf (l : List Part) : Tail := l.map (·.2)

theorem nm_facts (i : Nat) : wordL (tl (nm i)) = true ∧ (tl (nm i)).length ≤ 20 ∧ nm i ∉ reserved := by
  match i with
  | 0 => exact ⟨by decide +kernel, by decide +kernel, by decide +kernel⟩
  | 1 => exact ⟨by decide +kernel, by decide +kernel, by decide +kernel⟩
  | 2 => exact ⟨by decide +kernel, by decide +kernel, by decide +kernel⟩
  | n + 3 => exact ⟨by show wordL (tl ("f_1" : Str)) = true; decide +kernel, by show (tl ("f_1" : Str)).length ≤ 20; decide +kernel, by show ("f_1" : Str) ∉ reserved; decide +kernel⟩
theorem Lx.nameI {r : List Nat} {ts : List Tok} (i : Nat) (h2 : stopsN r = true) (h : Lx r ts) : Lx (tl (nm i) ++ r) (.name (nm i) :: ts) :=
  Lx.name (nm i) rfl (nm_facts i).1 (nm_facts i).2.1 h2 (nm_facts i).2.2 h
/-- a sign that no other one begins with -/
theorem Lx.sg1 {r : List Nat} {ts : List Tok} (s : Str) (c : Nat) (hs : tl s = [c]) (h1 : signL [c] = true) (h2 : (signs.map tl).find? (fun l => l.isPrefixOf [c]) = some [c]) (h3 : (signs.map tl).all (fun l => match l with | [_] => true | a :: _ => decide (a ≠ c) | [] => false) = true) (h : Lx r ts) : Lx (c :: r) (.sign s :: ts) := by
  have e : signs.find? (fun s => (tl s).isPrefixOf (c :: r)) = some s := by
    have key : ∀ l : List Str, (l.map tl).all (fun l => match l with | [_] => true | a :: _ => decide (a ≠ c) | [] => false) = true → (l.map tl).find? (fun l => l.isPrefixOf [c]) = some [c] → l.find? (fun s => (tl s).isPrefixOf (c :: r)) = some s := by
      intro l
      induction l with
      | nil => intro _ h; exact absurd h (by simp)
      | cons a l ih =>
        intro ha hf
        rw [List.map_cons, List.all_cons, Bool.and_eq_true] at ha
        rw [List.map_cons, List.find?_cons] at hf
        rw [List.find?_cons]
        cases q : tl a with
        | nil => rw [q] at ha; exact absurd ha.1 Bool.false_ne_true
        | cons x w =>
          rw [q] at ha hf
          cases w with
          | nil =>
            by_cases hx : x = c
            · subst hx
              have : (([x] : List Nat).isPrefixOf (x :: r)) = true := by simp
              rw [this]
              show some a = some s
              rw [ext_tl (x := a) (y := s) (by rw [q, hs])]
            · have e1 : (([x] : List Nat).isPrefixOf (c :: r)) = false := by
                show (x == c && _) = false
                rw [beq_false_of_ne hx]
                rfl
              have e2 : (([x] : List Nat).isPrefixOf [c]) = false := by
                show (x == c && _) = false
                rw [beq_false_of_ne hx]
                rfl
              rw [e1]
              rw [e2] at hf
              exact ih ha.2 hf
          | cons y w =>
            have hx : x ≠ c := of_decide_eq_true ha.1
            have e1 : ((x :: y :: w).isPrefixOf (c :: r)) = false := by
                show (x == c && _) = false
                rw [beq_false_of_ne hx]
                rfl
            have e2 : ((x :: y :: w).isPrefixOf [c]) = false := by
                show (x == c && _) = false
                rw [beq_false_of_ne hx]
                rfl
            rw [e1]
            rw [e2] at hf
            exact ih ha.2 hf
    exact key signs h3 h2
  exact Lx.sign (w := [c]) s hs.symm h1 e h
theorem Lx.blank {cs : List Nat} {ts : List Tok} (h : Lx cs ts) : Lx (32 :: cs) ts := .sp _ _ _ (.inl rfl) h
theorem Lx.line {cs : List Nat} {ts : List Tok} (h : Lx cs ts) : Lx (10 :: cs) ts := .sp _ _ _ (.inr rfl) h
theorem Lx.open_ {cs : List Nat} {ts : List Tok} (h : Lx cs ts) : Lx (40 :: cs) (.sign "(" :: ts) := .sg1 "(" 40 (by decide +kernel) (by decide +kernel) (by decide +kernel) (by decide +kernel) h
theorem Lx.close {cs : List Nat} {ts : List Tok} (h : Lx cs ts) : Lx (41 :: cs) (.sign ")" :: ts) := .sg1 ")" 41 (by decide +kernel) (by decide +kernel) (by decide +kernel) (by decide +kernel) h
theorem Lx.comma {cs : List Nat} {ts : List Tok} (h : Lx cs ts) : Lx (44 :: cs) (.sign "," :: ts) := .sg1 "," 44 (by decide +kernel) (by decide +kernel) (by decide +kernel) (by decide +kernel) h
theorem Lx.dot {cs : List Nat} {ts : List Tok} (h : Lx cs ts) : Lx (46 :: cs) (.sign "." :: ts) := .sg1 "." 46 (by decide +kernel) (by decide +kernel) (by decide +kernel) (by decide +kernel) h
theorem Lx.semi {cs : List Nat} {ts : List Tok} (h : Lx cs ts) : Lx (59 :: cs) (.sign ";" :: ts) := .sg1 ";" 59 (by decide +kernel) (by decide +kernel) (by decide +kernel) (by decide +kernel) h

theorem opd_lex (o : Opd) (ho : o.small) {r : List Nat} {ts : List Tok} (h2 : stopsN r = true) (h : Lx r ts) : Lx (tl o.text ++ r) (o.toks ++ ts) := by
  cases o with
  | num n =>
    show Lx (tl (strN n) ++ r) _
    unfold strN
    rw [tl_num]
    exact Lx.num n ho h2 h
  | name i => exact Lx.nameI i h2 h
  | mem i =>
    show Lx (tl (("s." : Str) ++ nm i) ++ r) _
    rw [tl_append, List.append_assoc]
    exact Lx.name (w := [115]) "s" (by decide +kernel) (by decide +kernel) (by decide) rfl (by decide +kernel) (Lx.dot (Lx.nameI i h2 h))
  | call i n =>
    show Lx (tl ((nm i ++ ("(" : Str)) ++ strN n ++ (", b)" : Str)) ++ r) _
    rw [tl_append, tl_append, tl_append]
    unfold strN
    rw [tl_num]
    simp only [List.append_assoc]
    exact Lx.nameI i rfl (Lx.open_ (Lx.num n ho rfl (Lx.comma (Lx.blank (Lx.name (w := [98]) "b" (by decide +kernel) (by decide +kernel) (by decide) rfl (by decide +kernel) (Lx.close h))))))
  | neg =>
    exact Lx.open_ (Lx.word (w := [110, 111, 116]) "not" (by decide +kernel) (by decide +kernel) rfl (by decide +kernel) (Lx.blank (Lx.word (w := [116, 114, 117, 101]) "true" (by decide +kernel) (by decide +kernel) rfl (by decide +kernel) (Lx.close h))))
theorem sg_lex (g : Sg) {r : List Nat} {ts : List Tok} (h : Lx r ts) : Lx (tl g.str ++ 32 :: r) (g.tok :: ts) := by
  have h' := Lx.blank h
  cases g with
  | or => exact Lx.word (w := [111, 114]) "or" (by decide +kernel) (by decide +kernel) rfl (by decide +kernel) h'
  | and => exact Lx.word (w := [97, 110, 100]) "and" (by decide +kernel) (by decide +kernel) rfl (by decide +kernel) h'
  | lt => exact .sg1 "<" 60 (by decide +kernel) (by decide +kernel) (by decide +kernel) (by decide +kernel) h'
  | eq =>
    refine Lx.sign (w := [61, 61]) "==" (by decide +kernel) (by decide +kernel) ?_ h'
    rfl
  | add => exact .sg1 "+" 43 (by decide +kernel) (by decide +kernel) (by decide +kernel) (by decide +kernel) h'
  | sub => exact .sg1 "-" 45 (by decide +kernel) (by decide +kernel) (by decide +kernel) (by decide +kernel) h'
  | mul => exact .sg1 "*" 42 (by decide +kernel) (by decide +kernel) (by decide +kernel) (by decide +kernel) h'
theorem blank_lex (b : Bool) {r : List Nat} {ts : List Tok} (h : Lx r ts) : Lx (tl (blank b) ++ r) ts := by
  cases b with
  | false => exact Lx.blank h
  | true => exact Lx.line (Lx.blank h)
theorem blank_stops (b : Bool) (r : List Nat) : stopsN (tl (blank b) ++ r) = true := by cases b <;> rfl
theorem parts_lex : ∀ (l : List Part) {r : List Nat} {ts : List Tok}, (∀ x ∈ l, x.2.2.small) → stopsN r = true → Lx r ts →
    Lx ((l.map fun x => tl (partText x)).flatten ++ r) (tailToks (tailOf l) ++ ts) ∧ stopsN ((l.map fun x => tl (partText x)).flatten ++ r) = true
  | [], r, ts, _, h2, h => ⟨h, h2⟩
  | (b, g, o) :: l, r, ts, hs, h2, h => by
    obtain ⟨i1, i2⟩ := parts_lex l (fun x hx => hs x (List.mem_cons_of_mem _ hx)) h2 h
    have e : (((b, g, o) :: l).map fun x => tl (partText x)).flatten ++ r = tl (blank b) ++ (tl g.str ++ 32 :: (tl o.text ++ ((l.map fun x => tl (partText x)).flatten ++ r))) := by
      rw [List.map_cons, List.flatten_cons]
      unfold partText
      simp only [tl_append, List.append_assoc]
      rfl
    have et : tailToks (tailOf ((b, g, o) :: l)) ++ ts = g.tok :: (o.toks ++ (tailToks (tailOf l) ++ ts)) := by
      simp only [tailOf, List.map_cons, tailToks, List.cons_append, List.append_assoc]
    rw [e, et]
    exact ⟨blank_lex b (sg_lex g (opd_lex o (hs _ List.mem_cons_self) i2 i1)), blank_stops b _⟩
theorem foldl_tl : ∀ (l : List Part) (t : Str), tl (l.foldl (fun t x => t ++ partText x) t) = tl t ++ (l.map fun x => tl (partText x)).flatten
  | [], t => by simp
  | x :: l, t => by rw [List.foldl_cons, foldl_tl l, tl_append, List.map_cons, List.flatten_cons, List.append_assoc]
/-- the text of a chain -/
def chain (p : Opd) (l : List Part) : Str := l.foldl (fun t x => t ++ partText x) p.text
/-- THE PLAIN LAW of the lexer -/
theorem law_lex (p : Opd) (l : List Part) (hp : p.small) (hl : ∀ x ∈ l, x.2.2.small) :
    ∃ us, LexR (tl ((("  let v = " : Str) ++ chain p l) ++ (";" : Str))) 0 ((.word "let", 2) :: us) ∧ us.map (·.1) = .name "v" :: .sign "=" :: (toksOf p (tailOf l) ++ [.sign ";"]) := by
  have i0 : Lx [59] [.sign ";"] := Lx.semi .nil
  obtain ⟨i1, i2⟩ := parts_lex l hl (r := [59]) rfl i0
  have i3 := opd_lex p hp i2 i1
  have i4 : Lx (118 :: 32 :: 61 :: 32 :: (tl p.text ++ ((l.map fun x => tl (partText x)).flatten ++ [59]))) (.name "v" :: .sign "=" :: (p.toks ++ (tailToks (tailOf l) ++ [.sign ";"]))) :=
    Lx.name (w := [118]) "v" (by decide +kernel) (by decide +kernel) (by decide) rfl (by decide +kernel) (Lx.blank (Lx.sign (w := [61]) "=" (by decide +kernel) (by decide +kernel) (by rfl) (Lx.blank i3)))
  obtain ⟨us, h1, h2⟩ := (Lx.blank i4).placed 5
  refine ⟨us, ?_, by rw [h2]; unfold toksOf; rw [List.append_assoc]⟩
  have e : tl ((("  let v = " : Str) ++ chain p l) ++ (";" : Str)) = 32 :: 32 :: (([108, 101, 116] : List Nat) ++ (32 :: 118 :: 32 :: 61 :: 32 :: (tl p.text ++ ((l.map fun x => tl (partText x)).flatten ++ [59])))) := by
    unfold chain
    rw [tl_append, tl_append, foldl_tl]
    simp only [List.append_assoc]
    rfl
  rw [e]
  refine .sp _ _ _ _ (.inl rfl) (.sp _ _ _ _ (.inl rfl) (.tok _ _ _ _ _ _ (.word 108 [101, 116] _ (by decide) (by decide) rfl (by decide +kernel)) ?_))
  have el : 0 + 1 + 1 + ((([108, 101, 116] : List Nat) ++ (32 :: 118 :: 32 :: 61 :: 32 :: (tl p.text ++ ((l.map fun x => tl (partText x)).flatten ++ [59])))).length - (32 :: 118 :: 32 :: 61 :: 32 :: (tl p.text ++ ((l.map fun x => tl (partText x)).flatten ++ [59]))).length) = 5 := by
    rw [List.length_append, Nat.add_sub_cancel]
    rfl
  have h1' := h1
  rw [← el] at h1'
  exact h1'
end K2
set_option maxRecDepth 100000
/-! The text by places, what the walks ask of it. -/
namespace K2
open PySem L2 TL
def top (i : Nat) : Stmt := PySem.Challenge.pw_fascicle_k02_chains_of_operators.main.body.getD i (.Pass ⟨0, 0, 0, 0⟩)
abbrev sLetter : Stmt := top 9
abbrev sDigit : Stmt := top 10
abbrev sInName : Stmt := top 11
abbrev sRunEnd : Stmt := top 12
abbrev sWord : Stmt := top 14
abbrev sNumber : Stmt := top 15
abbrev sSign : Stmt := top 17
abbrev sToken : Stmt := top 18
abbrev sTokens : Stmt := top 19
abbrev sReader (j : Nat) : Stmt := inClass (top 25) j
abbrev sArgs : Stmt := top 28
abbrev sPrim : Stmt := top 29
abbrev sCall : Stmt := top 30
abbrev sProd : Stmt := top 31
abbrev sSum : Stmt := top 32
abbrev sPlain : Stmt := top 33
abbrev sBoth : Stmt := top 34
abbrev sExpr : Stmt := top 35
abbrev sLet : Stmt := top 37
abbrev sStmt : Stmt := top 41
abbrev sEDepth : Stmt := top 46
abbrev sDepth : Stmt := top 48
abbrev sParse : Stmt := top 49
abbrev sCell : Stmt := top 51
abbrev sOpd : Stmt := top 52
abbrev sChain : Stmt := top 53
abbrev sSplit : Stmt := top 54
abbrev sTree : Stmt := top 55
abbrev sLaw : Stmt := top 56

/-- a def of the module as the top has left it -/
def Df (K : PySem.W.Frag) (mg : Str → Option Value) (x : Str) (st : Stmt) (ps : List Str) : Prop :=
  ∃ (f : Addr) (fd : FuncData), Fun K x x st f fd ∧ mg x = some (.ref f) ∧ Binds K fd ps []
/-- a def of the module that keeps a promise -/
def Gf (P : Program) (w : World) (K : PySem.W.Frag) (mg : Str → Option Value) (base : Heap) (k : Nat) (x : Str) (ps : List Str) (sp : Sp) : Prop :=
  ∃ (f : Addr) (fd : FuncData), FnOk P w K mg base CX0 k f fd ps sp ∧ Binds K fd ps [] ∧ PySem.W.keepIn K (.ref f) = true ∧ mg x = some (.ref f)
/-- a method of the class at C, as the top has left it; one that keeps a promise -/
def Dm (K : PySem.W.Frag) (C : Addr) (x q : Str) (st : Stmt) (ps : List Str) : Prop :=
  ∃ (f : Addr) (fd : FuncData), Fun K x q st f fd ∧ Meth K C x f ∧ Binds K fd ps []
def Gm (P : Program) (w : World) (K : PySem.W.Frag) (mg : Str → Option Value) (base : Heap) (C : Addr) (k : Nat) (x : Str) (ps : List Str) (sp : Sp) : Prop :=
  ∃ (f : Addr) (fd : FuncData), FnOk P w K mg base CX0 k f fd ps sp ∧ Binds K fd ps [] ∧ Meth K C x f
theorem Gf.up {P : Program} {w : World} {K : PySem.W.Frag} {mg : Str → Option Value} {base : Heap} {j k : Nat} {x : Str} {ps : List Str} {sp : Sp} (h : Gf P w K mg base j x ps sp) (hk : j ≤ k) : Gf P w K mg base k x ps sp := by
  obtain ⟨f, fd, F, b, kp, m⟩ := h
  exact ⟨f, fd, F.mono hk, b, kp, m⟩
theorem Gm.up {P : Program} {w : World} {K : PySem.W.Frag} {mg : Str → Option Value} {base : Heap} {C : Addr} {j k : Nat} {x : Str} {ps : List Str} {sp : Sp} (h : Gm P w K mg base C j x ps sp) (hk : j ≤ k) : Gm P w K mg base C k x ps sp := by
  obtain ⟨f, fd, F, b, m⟩ := h
  exact ⟨f, fd, F.mono hk, b, m⟩
/-- a tuple of the module -/
def KTup (K : PySem.W.Frag) (a : Addr) (xs : List V) : Prop :=
  ∃ (o : Obj) (its : Array Value) (n : Nat), K.lookup a = some o ∧ o.cls = .type "tuple" ∧ o.data = .seq its n ∧ its.size ≤ sizeLine ∧ Vals xs its.toList
theorem KTup.sq {K : PySem.W.Frag} {a : Addr} {xs : List V} (h : KTup K a xs) (H : Hp) : SqT K H a xs := .inr h
theorem small_line {n : Nat} (h : n ≤ 20000) : n ≤ sizeLine := Nat.le_trans h (by decide)

theorem ifT {b : Bool} {A B : Prop} (e : b = true) (h : A) : if b = true then A else B := by
  rw [if_pos e]
  exact h
theorem ifF {b : Bool} {A B : Prop} (e : b = false) (h : B) : if b = true then A else B := by
  rw [if_neg (by rw [e]; exact Bool.false_ne_true)]
  exact h
/-- a global that holds an object; an int -/
theorem pe_gref {X : Cx} {x : Str} {a : Addr} {pos : Pos} (hg : Gl X x) (hm : X.mg x = some (.ref a)) (hd : (x == ("__debug__" : Str)) = false := by decide) : PE X (.Name x pos) (tC (.ref a)) := pe_glob (v := .ref a) hg hm rfl hd
theorem pe_gint {X : Cx} {x : Str} {n : Int} {t : PySem.Tok} {pos : Pos} (hg : Gl X x) (hm : X.mg x = some (.int n t)) (hd : (x == ("__debug__" : Str)) = false := by decide) : PE X (.Name x pos) (tC (.int n)) := pe_glob (v := .int n) hg hm ⟨t, rfl⟩ hd
/-! ### signs -/
theorem le_one (a c : Nat) : (!decide (([c] : List Nat) < [a])) = decide (a ≤ c) := by
  have e : (([c] : List Nat) < [a]) ↔ c < a := by simp [List.cons_lt_cons_iff]
  by_cases h : c < a
  · rw [decide_eq_true (e.mpr h), decide_eq_false (by omega)]
    rfl
  · rw [decide_eq_false (fun q => h (e.mp q)), decide_eq_true (by omega)]
    rfl
abbrev sg (c : Nat) : V := .str ⟨#[c]⟩
def spLetter : Sp := fun vs H Q _ => ∃ c, vs = [sg c] ∧ Q (.bl (isL c)) H
def spDigit : Sp := fun vs H Q _ => ∃ c, vs = [sg c] ∧ Q (.bl (isD c)) H
def spInName : Sp := fun vs H Q _ => ∃ c, vs = [sg c] ∧ Q (.bl (inN c)) H
section
variable {P : Program} {w : World} {K : PySem.W.Frag} {mg : Str → Option Value} {base : Heap}
theorem scLetter : FnScope ["char"] ["char"] (defScope sLetter) := ⟨rfl, rfl, rfl, by decide +kernel, rfl, by decide +kernel, by decide +kernel⟩
theorem ok_letter (D : Df K mg "is_letter" sLetter ["char"]) : Gf P w K mg base 1 "is_letter" ["char"] spLetter := by
  obtain ⟨f, fd, F, m, b⟩ := D
  refine ⟨f, fd, ?_, b, F.kp, m⟩
  refine F.ok scLetter (fun vs H Q E h => ?_) (fun cdv A outer s H vs Q E hr h => ?_)
  · obtain ⟨c, rfl, _⟩ := h
    rfl
  obtain ⟨c, rfl, q⟩ := h
  refine ⟨_, pss_one (ps_ret (pe_or (pe_chain op_le_str op_le_str pe_str (pv 0) pe_str) (pe_one (pe_chain op_le_str op_le_str pe_str (pv 0) pe_str)))), ?_⟩
  have a1 : (!decide (([c] : List Nat) < [97])) = decide (97 ≤ c) := le_one 97 c
  have a2 : (!decide (([122] : List Nat) < [c])) = decide (c ≤ 122) := le_one c 122
  have a3 : (!decide (([c] : List Nat) < [65])) = decide (65 ≤ c) := le_one 65 c
  have a4 : (!decide (([90] : List Nat) < [c])) = decide (c ≤ 90) := le_one c 90
  have eT : isL c = true → Q (.bl true) H := fun e => by rw [e] at q; exact q
  refine ⟨_, rfl, _, _, rfl, rfl, _, rfl, ?_⟩
  -- the second chain
  have second : ∀ (h1 : ¬ (97 ≤ c ∧ c ≤ 122)), tChain (fun x y H Q => ∃ i j, x = V.str i ∧ y = V.str j ∧ Q (V.bl !decide (j.cps.toList < i.cps.toList)) H) (fun x y H Q => ∃ i j, x = V.str i ∧ y = V.str j ∧ Q (V.bl !decide (j.cps.toList < i.cps.toList)) H)
      (tC (V.str "A")) (tVar 0) (tC (V.str "Z")) (L2.start ["char"] [sg c]) H Q := by
    intro h1
    refine ⟨_, rfl, _, _, rfl, rfl, _, rfl, ?_⟩
    by_cases h3 : 65 ≤ c
    · refine ifT (a3.trans (decide_eq_true h3)) ⟨_, _, rfl, rfl, ?_⟩
      have e : (!decide (([90] : List Nat) < [c])) = isL c := by
        rw [a4]
        unfold isL
        by_cases h2 : 97 ≤ c
        · have h2' : ¬ c ≤ 122 := fun z => h1 ⟨h2, z⟩
          simp only [h2, h2', h3, decide_true, decide_false, Bool.true_and, Bool.and_false, Bool.false_or]
        · simp only [h2, h3, decide_true, decide_false, Bool.true_and, Bool.false_and, Bool.false_or]
      show Q (V.bl (!decide (([90] : List Nat) < [c]))) H
      rw [e]
      exact q
    · refine ifF (a3.trans (decide_eq_false h3)) ?_
      have e : isL c = false := by
        unfold isL
        have h4 : ¬ 97 ≤ c := by omega
        simp only [h3, h4, decide_false, Bool.false_and, Bool.false_or]
      rw [e] at q
      exact q
  by_cases h1 : 97 ≤ c
  · refine ifT (a1.trans (decide_eq_true h1)) ⟨_, _, rfl, rfl, _, rfl, ?_⟩
    by_cases h2 : c ≤ 122
    · exact ifT (a2.trans (decide_eq_true h2)) (eT (by unfold isL; simp only [h1, h2, decide_true, Bool.true_and, Bool.true_or]))
    · exact ifF (a2.trans (decide_eq_false h2)) (second fun z => h2 z.2)
  · exact ifF (a1.trans (decide_eq_false h1)) ⟨_, rfl, ifF rfl (second fun z => h1 z.1)⟩
theorem scDigit : FnScope ["char"] ["char"] (defScope sDigit) := ⟨rfl, rfl, rfl, by decide +kernel, rfl, by decide +kernel, by decide +kernel⟩
theorem ok_digit (D : Df K mg "is_digit" sDigit ["char"]) : Gf P w K mg base 1 "is_digit" ["char"] spDigit := by
  obtain ⟨f, fd, F, m, b⟩ := D
  refine ⟨f, fd, ?_, b, F.kp, m⟩
  refine F.ok scDigit (fun vs H Q E h => ?_) (fun cdv A outer s H vs Q E hr h => ?_)
  · obtain ⟨c, rfl, _⟩ := h
    rfl
  obtain ⟨c, rfl, q⟩ := h
  refine ⟨_, pss_one (ps_ret (pe_chain op_le_str op_le_str pe_str (pv 0) pe_str)), ?_⟩
  have a1 : (!decide (([c] : List Nat) < [48])) = decide (48 ≤ c) := le_one 48 c
  have a2 : (!decide (([57] : List Nat) < [c])) = decide (c ≤ 57) := le_one c 57
  refine ⟨_, rfl, _, _, rfl, rfl, _, rfl, ?_⟩
  by_cases h1 : 48 ≤ c
  · refine ifT (a1.trans (decide_eq_true h1)) ⟨_, _, rfl, rfl, ?_⟩
    show Q (V.bl (!decide (([57] : List Nat) < [c]))) H
    have e : (!decide (([57] : List Nat) < [c])) = isD c := by
      rw [a2]
      unfold isD
      simp only [h1, decide_true, Bool.true_and]
    rw [e]
    exact q
  · refine ifF (a1.trans (decide_eq_false h1)) ?_
    have e : isD c = false := by
      unfold isD
      simp only [h1, decide_false, Bool.false_and]
    rw [e] at q
    exact q
theorem scInName : FnScope ["char"] ["char"] (defScope sInName) := ⟨rfl, rfl, rfl, by decide +kernel, rfl, by decide +kernel, by decide +kernel⟩
theorem ok_inName (D : Df K mg "in_name" sInName ["char"]) (GL : Gf P w K mg base 1 "is_letter" ["char"] spLetter) (GD : Gf P w K mg base 1 "is_digit" ["char"] spDigit) : Gf P w K mg base 2 "in_name" ["char"] spInName := by
  obtain ⟨f, fd, F, m, b⟩ := D
  obtain ⟨f1, fd1, G1, b1, k1, m1⟩ := GL
  obtain ⟨f2, fd2, G2, b2, k2, m2⟩ := GD
  refine ⟨f, fd, ?_, b, F.kp, m⟩
  refine F.ok scInName (fun vs H Q E h => ?_) (fun cdv A outer s H vs Q E hr h => ?_)
  · obtain ⟨c, rfl, _⟩ := h
    rfl
  obtain ⟨c, rfl, q⟩ := h
  refine ⟨_, pss_one (ps_ret (pe_or (pe_call G1 hr rfl m1 k1 b1 .nil pass0 (pa_cons (pv 0) pa_nil)) (pe_or (pe_call G2 hr rfl m2 k2 b2 .nil pass0 (pa_cons (pv 0) pa_nil)) (pe_one (pe_cmpR op_eq (pv 0) pe_str (nomark _)))))), ?_⟩
  refine ⟨_, rfl, c, rfl, isL c, rfl, ?_⟩
  cases e1 : isL c with
  | true =>
    refine ifT rfl ?_
    have e : inN c = true := by unfold inN; rw [e1]; rfl
    rw [e] at q
    exact q
  | false =>
    refine ifF rfl ⟨_, rfl, c, rfl, isD c, rfl, ?_⟩
    cases e2 : isD c with
    | true =>
      refine ifT rfl ?_
      have e : inN c = true := by unfold inN; rw [e1, e2]; rfl
      rw [e] at q
      exact q
    | false =>
      refine ifF rfl ⟨_, rfl, rfl, ?_⟩
      have e : decide (sg c = .str "_") = inN c := by
        have z : (sg c = .str "_") ↔ c = 95 := by
          have e0 : ("_" : Str) = ⟨#[95]⟩ := by decide +kernel
          rw [e0]
          simp
        unfold inN
        rw [e1, e2, decide_eq_decide.mpr z]
        rfl
      show Q (.bl (decide (sg c = .str "_"))) H
      rw [e]
      exact q
end
end K2
set_option maxRecDepth 100000
set_option maxHeartbeats 4000000
/-! The walk of the lexer: words and numbers. -/
namespace K2
open PySem L2 TL
/-- what the lexer asks of the module's names -/
structure LexT (K : PySem.W.Frag) (mg : Str → Option Value) : Prop where
  len : mg "len" = none
  all : mg "all" = none
  int : mg "int" = none
  maxText : ∃ t, mg "MAX_TEXT" = some (.int 20000 t)
  maxName : ∃ t, mg "MAX_NAME" = some (.int 20 t)
  resv : ∃ a, mg "RESERVED" = some (.ref a) ∧ KTup K a (reserved.map V.str)
  sgns : ∃ a, mg "SIGNS" = some (.ref a) ∧ KTup K a (signs.map V.str)

/-! ### plain facts -/
theorem run_app {w r : List Nat} (h1 : w.all inN = true) (h2 : stopsN r = true) : (w ++ r).takeWhile inN = w := by
  induction w with
  | nil =>
    cases r with
    | nil => rfl
    | cons c r =>
      have e : inN c = false := by simpa [stopsN] using h2
      show (c :: r).takeWhile inN = []
      rw [List.takeWhile_cons, e]
      rfl
  | cons a w ih =>
    rw [List.all_cons, Bool.and_eq_true] at h1
    rw [List.cons_append, List.takeWhile_cons, h1.1]
    show a :: _ = _
    rw [ih h1.2]
theorem cut_mid {z : Str} {at_ n : Nat} {w r : List Nat} (h : (tl z).drop at_ = w ++ r) (hn : n = at_ + w.length) (ha : at_ ≤ z.length) : cutS z (some (at_ : Int)) (some (n : Int)) = S w := by
  have hl : ((tl z).drop at_).length = w.length + r.length := by rw [h, List.length_append]
  rw [List.length_drop, ← len_tl] at hl
  unfold cutS
  rw [HT.sIx_nat, HT.sIx_nat]
  have e1 : min at_ z.length = at_ := by omega
  have e2 : min n z.length = n := by omega
  rw [e1, e2]
  have e3 : n - at_ = w.length := by omega
  rw [e3]
  show S (((tl z).drop at_).take w.length) = S w
  rw [h, List.take_left]
theorem sign_at {z : Str} {i : Nat} {c : Nat} {r : List Nat} (h : (tl z).drop i = c :: r) : z.cps[i]? = some c ∧ i < z.length ∧ (tl z).drop (i + 1) = r := by
  have e : (tl z)[i]? = some c := by
    have := List.getElem?_drop (xs := tl z) (i := i) (j := 0)
    rw [h] at this
    simpa using this.symm
  refine ⟨by rw [← Array.getElem?_toList]; exact e, ?_, ?_⟩
  · have hi := (List.getElem?_eq_some_iff.mp e).1
    rw [len_tl]
    exact hi
  · rw [← List.drop_drop (i := 1) (j := i), h]
    rfl
theorem drop_len {z : Str} {i : Nat} {r : List Nat} (h : (tl z).drop i = r) : z.length - i = r.length := by
  rw [← h, List.length_drop, ← len_tl]
theorem starts_iff (z s : Str) (i : Nat) (hi : i ≤ z.length) : Txt.startswith3 z s (i : Int) = (tl s).isPrefixOf ((tl z).drop i) := by
  have ef : PySem.fromIndex z.length (i : Int) = i := by
    unfold PySem.fromIndex
    rw [if_neg (by omega)]
    omega
  rw [len_tl] at hi
  unfold Txt.startswith3
  rw [ef, PySem.StrLaws.subAt_eq, Bool.eq_iff_iff, Bool.and_eq_true, decide_eq_true_eq, beq_iff_eq, List.isPrefixOf_iff_prefix, List.prefix_iff_eq_take, len_tl s, len_tl z]
  constructor
  · rintro ⟨_, h⟩
    exact h.symm
  · intro h
    have hl := congrArg List.length h
    rw [List.length_take, List.length_drop] at hl
    exact ⟨by omega, h.symm⟩
theorem inV_strs (x : Str) (l : List Str) : inV (.str x) (l.map V.str) = decide (x ∈ l) := by
  induction l with
  | nil => rfl
  | cons a l ih =>
    show (eqV (.str a) (.str x) || inV (.str x) (l.map V.str)) = _
    rw [ih]
    show ((a == x) || decide (x ∈ l)) = _
    by_cases h : a = x
    · subst h
      simp
    · have h' : ¬ x = a := fun e => h e.symm
      simp [h, h']
theorem flat_strs (l : List Str) : (l.map V.str).all flatV = true := by
  rw [List.all_map, List.all_eq_true]
  exact fun _ _ => rfl
theorem Same.two {H : Hp} {t p : Addr} {a b : HO} (ht : H t = none) (hp : upd H t a p = none) : Same H (upd (upd H t a) p b) := fun c o e => by
  have h1 : c ≠ t := ne_of_none e ht
  have h2 : upd H t a c = some o := by rw [upd_ne h1]; exact e
  rw [upd_ne (ne_of_none h2 hp)]
  exact h2

/-! ### run_end -/
def spRunEnd : Sp := fun vs H Q _ => ∃ (z : Str) (i : Nat), vs = [.str z, .int i] ∧ z.length ≤ 20000 ∧ i ≤ z.length ∧ Q (.int ((i + (((tl z).drop i).takeWhile inN).length : Nat) : Int)) H
section
variable {P : Program} {w : World} {K : PySem.W.Frag} {mg : Str → Option Value} {base : Heap}
theorem scRunEnd : FnScope ["text", "at"] ["text", "at"] (defScope sRunEnd) := ⟨rfl, rfl, rfl, by decide +kernel, rfl, by decide +kernel, by decide +kernel⟩
theorem ok_runEnd (T : LexT K mg) (D : Df K mg "run_end" sRunEnd ["text", "at"]) (GN : Gf P w K mg base 2 "in_name" ["char"] spInName) : Gf P w K mg base 3 "run_end" ["text", "at"] spRunEnd := by
  obtain ⟨f, fd, F, m, b⟩ := D
  obtain ⟨f1, fd1, G1, b1, k1, m1⟩ := GN
  refine ⟨f, fd, ?_, b, F.kp, m⟩
  refine F.ok scRunEnd (fun vs H Q E h => ?_) (fun cdv A outer s H vs Q E hr h => ?_)
  · obtain ⟨z, i, rfl, _⟩ := h
    rfl
  obtain ⟨z, i, rfl, hz, hi, q⟩ := h
  refine ⟨_, pss_cons (ps_while PassesOwn.never (PW.pt (pw_and (pt_cmpR op_lt (pv 1) (pe_callB call_len_str rfl T.len PySem.boot_len (pa_cons (pv 0) pa_nil)) (nomark _))
        (pw_and1 (pt_val (pe_call G1 hr rfl m1 k1 b1 .nil pass0 (pa_cons (pe_item_str (pv 0) (pv 1) (fun _ _ => rfl)) pa_nil))))))
      (pss_one (ps_set (i := 1) scRunEnd.nd rfl (Or.inl rfl) (pe_op op_add (pv 1) pe_int))))
    (pss_one (ps_ret (pv 1))), ?_⟩
  refine ⟨fun n σ H' => H' = H ∧ ∃ j : Nat, σ = [some (.str z), some (.int j)] ∧ j ≤ z.length ∧ n = z.length - j ∧ j + (((tl z).drop j).takeWhile inN).length = i + (((tl z).drop i).takeWhile inN).length, ⟨_, rfl, i, rfl, hi, rfl, rfl⟩, ?_⟩
  rintro n σ H' ⟨rfl, j, rfl, hj, rfl, e⟩
  refine ⟨_, rfl, _, rfl, z, rfl, small_line hz, _, _, rfl, rfl, _, rfl, ?_⟩
  by_cases hlt : j < z.length
  · refine ifT (decide_eq_true (by omega)) ?_
    obtain ⟨c, hc⟩ : ∃ c, z.cps[j]? = some c := ⟨z.cps[j], Array.getElem?_eq_getElem hlt⟩
    have hd : (tl z).drop j = c :: (tl z).drop (j + 1) := by
      have h1 : j < (tl z).length := by rw [← len_tl]; exact hlt
      rw [List.drop_eq_getElem_cons h1]
      have h2 : (tl z)[j]? = some c := by show z.cps.toList[j]? = _; rw [Array.getElem?_toList]; exact hc
      rw [List.getElem?_eq_getElem h1] at h2
      rw [Option.some.inj h2]
    refine ⟨_, rfl, _, rfl, z, j, c, rfl, rfl, by omega, by omega, by omega, by simpa using hc, c, rfl, inN c, rfl, ?_⟩
    rw [hd, List.takeWhile_cons] at e
    cases en : inN c with
    | true =>
      rw [en] at e
      refine ifT rfl ⟨fun σ' H2 => H2 = H' ∧ σ' = [some (.str z), some (.int ((j + 1 : Nat) : Int))], ?_, ?_⟩
      · rintro σ' H2 ⟨rfl, rfl⟩
        exact ⟨z.length - (j + 1), by omega, rfl, j + 1, rfl, by omega, rfl, by
          have e' : j + (((tl z).drop (j + 1)).takeWhile inN).length.succ = i + (((tl z).drop i).takeWhile inN).length := e
          omega⟩
      · exact ⟨_, rfl, _, _, rfl, rfl, rfl, rfl⟩
    | false =>
      rw [en] at e
      have e' : j + 0 = i + (((tl z).drop i).takeWhile inN).length := e
      refine ifF rfl ⟨_, rfl, ?_⟩
      rw [← e'] at q
      exact q
  · refine ifF (decide_eq_false (by omega)) (ifF rfl ⟨_, rfl, ?_⟩)
    have e2 : (tl z).drop j = [] := List.drop_eq_nil_of_le (by rw [← len_tl]; omega)
    rw [e2] at e
    have e' : j + 0 = i + (((tl z).drop i).takeWhile inN).length := e
    rw [← e'] at q
    exact q

/-! ### one token -/
end
def kindS : Tok → Str
  | .word _ => "word" | .name _ => "name" | .num _ => "number" | .sign _ => "sign"
def valV : Tok → V
  | .word w => .str w | .name x => .str x | .num n => .int n | .sign s => .str s
/-- the tuple of a token -/
def tokV (k : Tok) (i : Nat) : List V := [.str (kindS k), valV k, .int i]
def isW : Tok → Prop
  | .word _ => True | .name _ => True | _ => False
def isNm : Tok → Prop
  | .num _ => True | _ => False
def isSn : Tok → Prop
  | .sign _ => True | _ => False
def spTk (phi : Tok → Prop) : Sp := fun vs H Q _ => ∃ (z m : Str) (i : Nat) (cs : List Nat) (k : Tok) (r : List Nat), vs = [.str z, .int i, .str m] ∧ z.length ≤ 20000 ∧ i ≤ z.length ∧ (tl z).drop i = cs ∧ Tk1 cs k r ∧ phi k ∧
  ∀ (p t : Addr) (H' : Hp), Same H H' → H' t = some (.tup (tokV k i)) → H' p = some (.tup [.ref t, .int ((i + (cs.length - r.length) : Nat) : Int)]) → Q (.ref p) H'
section
variable {P : Program} {w : World} {K : PySem.W.Frag} {mg : Str → Option Value} {base : Heap}
theorem scWord : FnScope ["text", "at", "module", "end", "word"] ["text", "at", "module"] (defScope sWord) := ⟨rfl, rfl, rfl, by decide +kernel, rfl, by decide +kernel, by decide +kernel⟩
theorem ok_word (T : LexT K mg) (D : Df K mg "read_word" sWord ["text", "at", "module"]) (GR : Gf P w K mg base 3 "run_end" ["text", "at"] spRunEnd) : Gf P w K mg base 4 "read_word" ["text", "at", "module"] (spTk isW) := by
  obtain ⟨f, fd, F, m, b⟩ := D
  obtain ⟨f1, fd1, G1, b1, k1, m1⟩ := GR
  obtain ⟨aR, mR, tR⟩ := T.resv
  obtain ⟨tM, mM⟩ := T.maxName
  refine ⟨f, fd, ?_, b, F.kp, m⟩
  refine F.ok scWord (fun vs H Q E h => ?_) (fun cdv A outer s H vs Q E hr h => ?_)
  · obtain ⟨z, m, i, cs, k, r, rfl, _⟩ := h
    rfl
  obtain ⟨z, m, i, cs, k, r, rfl, hz, hi, hd, hk, hphi, q⟩ := h
  refine ⟨_, pss_cons (ps_set (i := 3) scWord.nd rfl (Or.inl rfl) (pe_call G1 hr rfl m1 k1 b1 .nil pass0 (pa_cons (pv 0) (pa_cons (pv 1) pa_nil))))
    (pss_cons (ps_set (i := 4) scWord.nd rfl (Or.inl rfl) (pe_slice sl_str (pv 0) (po_some (pv 1)) (po_some (pv 3))))
    (pss_cons (ps_if (pt_cmpR op_in_seq (pv 4) (pe_gref rfl mR) (by rfl)) (pss_one (ps_ret (pe_tup (pa_cons (pe_tup (pa_cons pe_str (pa_cons (pv 4) (pa_cons (pv 1) pa_nil)))) (pa_cons (pv 3) pa_nil))))) pss_nil)
    (pss_cons (ps_if (pt_cmpR op_gt (pe_callB call_len_str rfl T.len PySem.boot_len (pa_cons (pv 4) pa_nil)) (pe_gint rfl mM) (nomark _)) pss_never pss_nil)
    (pss_one (ps_ret (pe_tup (pa_cons (pe_tup (pa_cons pe_str (pa_cons (pv 4) (pa_cons (pv 1) pa_nil)))) (pa_cons (pv 3) pa_nil)))))))), ?_⟩
  refine ⟨_, rfl, _, rfl, z, i, rfl, hz, hi, _, rfl, _, rfl, _, rfl, _, rfl, _, rfl, z, rfl, small_line hz, ?_⟩
  -- what was cut
  have fin : ∀ (c : Nat) (w : List Nat) (x : Str), cs = (c :: w) ++ r → (c :: w).all inN = true → stopsN r = true → cutS z (some (i : Int)) (some ((i + (((tl z).drop i).takeWhile inN).length : Nat) : Int)) = S (c :: w) ∧ i + (((tl z).drop i).takeWhile inN).length = i + (cs.length - r.length) := by
    intro c w x e h1 h2
    have e2 := run_app h1 h2
    have hd' : (tl z).drop i = (c :: w) ++ r := hd.trans e
    rw [hd', e2]
    refine ⟨cut_mid hd' rfl hi, ?_⟩
    rw [e, List.length_append]
    omega
  cases hk with
  | word c w r hc hw hr2 hm =>
    obtain ⟨e1, e2⟩ := fin c w "" rfl (by rw [List.all_cons, hw, show inN c = true by unfold inN; rw [hc]; rfl]; rfl) hr2
    rw [e1, e2]
    refine ⟨_, rfl, aR, _, rfl, .inr (tR.sq _), rfl, flat_strs _, _, rfl, ?_⟩
    refine ifT ?_ ?_
    · show inV (.str (S (c :: w))) (reserved.map V.str) = true
      rw [inV_strs]
      exact decide_eq_true hm
    refine ⟨_, rfl, _, rfl, (by show 3 ≤ sizeLine; decide), fun t ht => ⟨_, rfl, (by show 2 ≤ sizeLine; decide), fun p hp => ?_⟩⟩
    exact q p t _ (Same.two ht hp) (by rw [upd_ne (ne_of_none upd_same hp)]; exact upd_same) upd_same
  | name c w r hc hw hr2 hm hl =>
    obtain ⟨e1, e2⟩ := fin c w "" rfl (by rw [List.all_cons, hw, show inN c = true by unfold inN; rw [hc]; rfl]; rfl) hr2
    rw [e1, e2]
    refine ⟨_, rfl, aR, _, rfl, .inr (tR.sq _), rfl, flat_strs _, _, rfl, ?_⟩
    refine ifF ?_ ?_
    · show inV (.str (S (c :: w))) (reserved.map V.str) = false
      rw [inV_strs]
      exact decide_eq_false hm
    have hl' : (S (c :: w)).length ≤ 20 := by rw [len_tl]; exact hl
    refine ⟨_, rfl, _, rfl, Nat.le_trans hl' (by decide), _, _, rfl, rfl, _, rfl, ifF (decide_eq_false (by omega)) ?_⟩
    refine ⟨_, rfl, _, rfl, (by show 3 ≤ sizeLine; decide), fun t ht => ⟨_, rfl, (by show 2 ≤ sizeLine; decide), fun p hp => ?_⟩⟩
    exact q p t _ (Same.two ht hp) (by rw [upd_ne (ne_of_none upd_same hp)]; exact upd_same) upd_same
  | num => exact hphi.elim
  | sign => exact hphi.elim

/-- a comprehension over the signs of a text -/
theorem lc_signs {z : Str} {g : TG} {tt : TT} {te : TE} {vs : List Nat} {sg0 : St} {H1 : Hp} {D : Addr} {Qd : Hp → Prop} (Pv : Nat → Hp → Prop) (h0 : Pv 0 (upd H1 D (.lst [])))
    (hs : ∀ (i : Nat) (c : Nat) (H : Hp), z.cps[i]? = some c → Pv i H → g (sg c) (wipe sg0 vs) H fun s2 H2 => wipe s2 vs = wipe sg0 vs ∧ tt s2 H2 fun b H3 =>
      if b = true then te s2 H3 fun y H4 => ∃ acc, H4 D = some (.lst acc) ∧ acc.length < sizeLine ∧ Pv (i + 1) (upd H4 D (.lst (acc ++ [y]))) else Pv (i + 1) H3)
    (hd : ∀ H, Pv z.cps.size H → Qd H) :
    ∃ W : Nat → Nat → Hp → Prop, (∃ m, W 0 m (upd H1 D (.lst []))) ∧ ∀ i m H, W i m H →
      ((Its z).stop i H ∧ Qd H) ∨ ((Its z).go i H ∧ ∃ Nx : Hp → Prop, (∀ H', Nx H' → ∃ m', m' < m ∧ W (i + 1) m' H') ∧ ∀ x H', (Its z).yld i H x H' → g x (wipe sg0 vs) H' fun s2 H2 => wipe s2 vs = wipe sg0 vs ∧ tt s2 H2 fun b H3 =>
        if b = true then te s2 H3 fun y H4 => ∃ acc, H4 D = some (.lst acc) ∧ acc.length < sizeLine ∧ Nx (upd H4 D (.lst (acc ++ [y]))) else Nx H3) := by
  refine ⟨fun i m H => m = z.cps.size - i ∧ i ≤ z.cps.size ∧ Pv i H, ⟨_, rfl, Nat.zero_le _, h0⟩, ?_⟩
  rintro i m H ⟨rfl, hi, p⟩
  by_cases hlt : i < z.cps.size
  · refine .inr ⟨hlt, Pv (i + 1), fun H' p' => ⟨_, by omega, rfl, hlt, p'⟩, ?_⟩
    rintro x H' ⟨rfl, c, hc, rfl⟩
    exact hs i c _ hc p
  · have e : i = z.cps.size := by omega
    subst e
    exact .inl ⟨Nat.le_refl _, hd H p⟩
theorem scNumber : FnScope ["text", "at", "module", "end", "digits", "char"] ["text", "at", "module"] (defScope sNumber) := ⟨rfl, rfl, rfl, by decide +kernel, rfl, by decide +kernel, by decide +kernel⟩
theorem ok_number (T : LexT K mg) (D : Df K mg "read_number" sNumber ["text", "at", "module"]) (GR : Gf P w K mg base 3 "run_end" ["text", "at"] spRunEnd) (GD : Gf P w K mg base 1 "is_digit" ["char"] spDigit) : Gf P w K mg base 4 "read_number" ["text", "at", "module"] (spTk isNm) := by
  obtain ⟨f, fd, F, m, b⟩ := D
  obtain ⟨f1, fd1, G1, b1, k1, m1⟩ := GR
  obtain ⟨f2, fd2, G2, b2, k2, m2⟩ := GD
  refine ⟨f, fd, ?_, b, F.kp, m⟩
  refine F.ok scNumber (fun vs H Q E h => ?_) (fun cdv A outer s H vs Q E hr h => ?_)
  · obtain ⟨z, m, i, cs, k, r, rfl, _⟩ := h
    rfl
  obtain ⟨z, m, i, cs, k, r, rfl, hz, hi, hd, hk, hphi, q⟩ := h
  have hr1 : Room 1 _ := hr.mono (by decide)
  refine ⟨_, pss_cons (ps_set (i := 3) scNumber.nd rfl (Or.inl rfl) (pe_call G1 hr rfl m1 k1 b1 .nil pass0 (pa_cons (pv 0) (pa_cons (pv 1) pa_nil))))
    (pss_cons (ps_set (i := 4) scNumber.nd rfl (Or.inl rfl) (pe_slice sl_str (pv 0) (po_some (pv 1)) (po_some (pv 3))))
    (pss_cons (ps_if (PW.pt (pw_or (pt_cmpR op_gt (pe_callB call_len_str rfl T.len PySem.boot_len (pa_cons (pv 4) pa_nil)) pe_int (nomark _))
        (pw_or1 (pt_not (pt_val (pe_callB (cr_all rfl) rfl T.all (by decide +kernel) (pa_cons
          (pe_lc (own := [("char", 5)]) (g := gName 5) rfl scNumber.nd (pi_str (pv 4)) (blkOk_by (N := ["text", "at", "module", "end", "digits", "char"]) (sc := defScope sNumber) (by decide +kernel))
            (fun _ _ _ _ _ => pg_name (i := 5) scNumber.nd rfl (Or.inl rfl)) (fun _ _ _ _ _ => pts_nil) (fun _ _ _ _ _ => pe_call G2 hr1 rfl m2 k2 b2 .nil pass0 (pa_cons (pv 5) pa_nil))) pa_nil))))))) pss_never pss_nil)
    (pss_cons (ps_if (PW.pt (pw_or (pt_cmpR op_gt (pe_callTy call_int_str rfl T.int (by decide +kernel) (pa_cons (pv 4) pa_nil)) pe_int (nomark _))
        (pw_or1 (PW.pt (pw_and (pt_cmpR op_eq (pe_item_str (pv 4) pe_int (fun _ _ => rfl)) pe_str (nomark _)) (pw_and1 (pt_cmpR op_gt (pe_callB call_len_str rfl T.len PySem.boot_len (pa_cons (pv 4) pa_nil)) pe_int (nomark _)))))))) pss_never pss_nil)
    (pss_one (ps_ret (pe_tup (pa_cons (pe_tup (pa_cons pe_str (pa_cons (pe_callTy call_int_str rfl T.int (by decide +kernel) (pa_cons (pv 4) pa_nil)) (pa_cons (pv 1) pa_nil)))) (pa_cons (pv 3) pa_nil)))))))), ?_⟩
  refine ⟨_, rfl, _, rfl, z, i, rfl, hz, hi, _, rfl, _, rfl, _, rfl, _, rfl, _, rfl, z, rfl, small_line hz, ?_⟩
  cases hk with
  | word => exact hphi.elim
  | name => exact hphi.elim
  | sign => exact hphi.elim
  | num c w r n hc hw hr2 hl hn hn2 h0 =>
    have hall : (c :: w).all isD = true := by rw [List.all_cons, hc, hw]; rfl
    have hin : (c :: w).all inN = true := by
      rw [List.all_eq_true] at hall ⊢
      exact fun x hx => by unfold inN; rw [hall x hx, Bool.true_or, Bool.or_true]
    have e2 := run_app hin hr2
    have hd' : (tl z).drop i = (c :: w) ++ r := hd
    rw [hd', e2, cut_mid hd' rfl hi]
    have el : i + (c :: w).length = i + (((c :: w) ++ r).length - r.length) := by
      rw [List.length_append]
      omega
    have hl' : (S (c :: w)).length ≤ 5 := by rw [len_tl]; exact hl
    have hline : (S (c :: w)).length ≤ sizeLine := Nat.le_trans hl' (by decide)
    refine ⟨_, rfl, _, rfl, hline, _, _, rfl, rfl, _, rfl, ifF (decide_eq_false (by omega)) ?_⟩
    refine ⟨_, rfl, _, rfl, fun D hD => lc_signs (fun j H' => Same H H' ∧ H' D = some (.lst ((((c :: w).take j).map isD).map V.bl))) ⟨fun a o e => by rw [upd_ne (ne_of_none e hD)]; exact e, upd_same⟩ ?_ ?_⟩
    · rintro j x H' hx ⟨hS, hL⟩
      have hx' : (c :: w)[j]? = some x := by
        have : (S (c :: w)).cps.toList[j]? = some x := by rw [Array.getElem?_toList]; exact hx
        exact this
      refine ⟨rfl, ?_⟩
      show tCall spDigit [] E0 (tCons (tVar 5) tNil) _ H' _
      refine ⟨_, rfl, x, rfl, _, hL, ?_, fun a o e => ?_, ?_⟩
      · rw [List.length_map, List.length_map, List.length_take]
        have : sizeLine = 2 ^ 24 := rfl
        omega
      · rw [upd_ne (ne_of_none e hD)]
        exact hS a o e
      · rw [upd_same]
        have et : (c :: w).take (j + 1) = (c :: w).take j ++ [x] := by
          rw [List.take_add_one, hx']
          rfl
        rw [et, List.map_append, List.map_append]
        rfl
    · rintro H' ⟨hS, hL⟩
      have esz : (S (c :: w)).cps.size = (c :: w).length := rfl
      rw [esz, List.take_length] at hL
      refine ⟨D, _, rfl, SqL.of hL, _, rfl, ifF ?_ ?_⟩
      · show (!((c :: w).map isD).all id) = false
        rw [List.all_map]
        have : ((c :: w).all (id ∘ isD)) = true := hall
        rw [this]
        rfl
      refine ⟨_, rfl, _, n, rfl, hn, Nat.le_trans hl' (by decide), _, _, rfl, rfl, _, rfl, ifF (decide_eq_false (by omega)) ?_⟩
      refine ⟨_, rfl, _, 0, c, rfl, rfl, Int.le_refl 0, by decide, ?_, rfl, rfl, _, rfl, ?_⟩
      · rw [len_tl]
        show (0 : Int) < (((c :: w).length : Nat) : Int)
        rw [List.length_cons]
        omega
      -- what follows: the token
      have hS2 : ∀ t p a b, H' t = none → upd H' t a p = none → Same H (upd (upd H' t a) p b) := fun t p a b ht hp => hS.trans (Same.two ht hp)
      have done : tRet (tTup (tCons (tTup (tCons (tC (.str "number")) (tCons (tCB (fun xs H Q => ∃ a n, xs = [.str a] ∧ PySem.intText? a = some n ∧ a.length ≤ 640 ∧ Q (.int n) H) (tCons (tVar 4) tNil)) (tCons (tVar 1) tNil)))) (tCons (tVar 3) tNil)))
          { nx := fun _ H' => Q .non H', rt := Q } [some (.str z), some (.int i), some (.str m), some (.int ((i + (c :: w).length : Nat) : Int)), some (.str (S (c :: w))), none] H' := by
        refine ⟨_, rfl, _, n, rfl, hn, Nat.le_trans hl' (by decide), _, rfl, (by show 3 ≤ sizeLine; decide), fun t ht => ⟨_, rfl, (by show 2 ≤ sizeLine; decide), fun p hp => ?_⟩⟩
        rw [el]
        exact q p t _ (hS2 t p _ _ ht hp) (by rw [upd_ne (ne_of_none upd_same hp)]; exact upd_same) upd_same
      by_cases h48 : c = 48
      · have ew := h0 h48
        subst ew
        subst h48
        refine ifT (by decide +kernel) ?_
        refine ⟨_, rfl, _, rfl, hline, _, _, rfl, rfl, _, rfl, ifF (by decide) done⟩
      · refine ifF (decide_eq_false fun e => ?_) done
        have e0 : ("0" : Str) = ⟨#[48]⟩ := by decide +kernel
        rw [e0] at e
        injection e with e
        injection e with e
        injection e with e
        injection e with e
        exact h48 e
end
end K2
set_option maxRecDepth 100000
set_option maxHeartbeats 4000000
/-! The walk of the lexer: signs, tokens. -/
namespace K2
open PySem L2 TL

/-! ### plain facts of a token -/
theorem signs_head : signs.all (fun s => match tl s with | c :: _ => decide (c ≠ 32) && (decide (c ≠ 9) && (decide (c ≠ 10) && decide (c ≠ 35))) | [] => false) = true := by decide +kernel
theorem sign_cons {s : Str} (h : s ∈ signs) : ∃ c w, tl s = c :: w ∧ c ≠ 32 ∧ c ≠ 9 ∧ c ≠ 10 ∧ c ≠ 35 := by
  have q := List.all_eq_true.mp signs_head s h
  cases e : tl s with
  | nil => rw [e] at q; exact absurd q Bool.false_ne_true
  | cons c w =>
    rw [e] at q
    simp only [Bool.and_eq_true, decide_eq_true_eq] at q
    exact ⟨c, w, rfl, q.1, q.2.1, q.2.2.1, q.2.2.2⟩
theorem isL_ne {c : Nat} (h : isL c = true) : c ≠ 32 ∧ c ≠ 9 ∧ c ≠ 10 ∧ c ≠ 35 := by
  unfold isL at h
  simp only [Bool.or_eq_true, Bool.and_eq_true, decide_eq_true_eq] at h
  omega
theorem isD_ne {c : Nat} (h : isD c = true) : c ≠ 32 ∧ c ≠ 9 ∧ c ≠ 10 ∧ c ≠ 35 := by
  unfold isD at h
  simp only [Bool.and_eq_true, decide_eq_true_eq] at h
  omega
theorem Tk1.facts {cs r : List Nat} {k : Tok} (h : Tk1 cs k r) : ∃ c w, cs = (c :: w) ++ r ∧ c ≠ 32 ∧ c ≠ 9 ∧ c ≠ 10 ∧ c ≠ 35 := by
  cases h with
  | word c w r hc => exact ⟨c, w, rfl, isL_ne hc⟩
  | name c w r hc => exact ⟨c, w, rfl, isL_ne hc⟩
  | num c w r n hc => exact ⟨c, w, rfl, isD_ne hc⟩
  | sign c cs s r h1 h2 h3 h4 h5 =>
    obtain ⟨c', w, e, hn⟩ := sign_cons (List.mem_of_find?_eq_some h4)
    rw [e] at h5
    exact ⟨c', w, h5, hn⟩

section
variable {P : Program} {w : World} {K : PySem.W.Frag} {mg : Str → Option Value} {base : Heap}
theorem scSign : FnScope ["text", "at", "module", "sign"] ["text", "at", "module"] (defScope sSign) := ⟨rfl, rfl, rfl, by decide +kernel, rfl, by decide +kernel, by decide +kernel⟩
theorem ok_sign (T : LexT K mg) (D : Df K mg "read_sign" sSign ["text", "at", "module"]) : Gf P w K mg base 1 "read_sign" ["text", "at", "module"] (spTk isSn) := by
  obtain ⟨f, fd, F, m, b⟩ := D
  obtain ⟨aS, mS, tS⟩ := T.sgns
  refine ⟨f, fd, ?_, b, F.kp, m⟩
  refine F.ok scSign (fun vs H Q E h => ?_) (fun cdv A outer s H vs Q E hr h => ?_)
  · obtain ⟨z, m, i, cs, k, r, rfl, _⟩ := h
    rfl
  obtain ⟨z, m, i, cs, k, r, rfl, hz, hi, hd, hk, hphi, q⟩ := h
  refine ⟨_, pss_cons (ps_for PassesOwn.never rfl (pi_tup (pe_gref rfl mS)) (pg_name (i := 3) scSign.nd rfl (Or.inl rfl))
      (pss_one (ps_if (pt_val (pe_bm PySem.F.plainAttrs_str PySem.F.slot_str_startswith PySem.F.type_str_startswith mt_startswith3 (pv 0) (pa_cons (pv 3) (pa_cons (pv 1) pa_nil))))
        (pss_one (ps_ret (pe_tup (pa_cons (pe_tup (pa_cons pe_str (pa_cons (pv 3) (pa_cons (pv 1) pa_nil)))) (pa_cons (pe_op op_add (pv 1) (pe_callB call_len_str rfl T.len PySem.boot_len (pa_cons (pv 3) pa_nil))) pa_nil))))) pss_nil)))
    pss_never, ?_⟩
  cases hk with
  | word => exact hphi.elim
  | name => exact hphi.elim
  | num => exact hphi.elim
  | sign c cs s r h1 h2 h3 h4 h5 =>
    have hS : s ∈ signs := List.mem_of_find?_eq_some h4
    refine ⟨aS, rfl, ⟨_, tS.sq _⟩, for_tup (K := K) (a := aS) (xs := signs.map V.str) (fun j st H' => H' = H ∧ (∃ v : Option V, st = [some (.str z), some (.int i), some (.str m), v]) ∧ (signs.take j).find? (fun s => (tl s).isPrefixOf (c :: cs)) = none)
      ⟨rfl, ⟨none, rfl⟩, rfl⟩ (fun _ _ H' _ _ => tS.sq H') ?_ ?_⟩
    · rintro j x st H' hx ⟨rfl, ⟨v, rfl⟩, hno⟩
      rw [List.getElem?_map] at hx
      cases es : signs[j]? with
      | none => rw [es] at hx; cases hx
      | some s' =>
        rw [es] at hx
        obtain rfl : V.str s' = x := Option.some.inj hx
        refine ⟨_, rfl, rfl, _, rfl, _, rfl, z, s', (i : Int), rfl, rfl, _, rfl, ?_⟩
        rw [starts_iff z s' i hi, hd]
        have et : signs.take (j + 1) = signs.take j ++ [s'] := by rw [List.take_add_one, es]; rfl
        cases ep : (tl s').isPrefixOf (c :: cs) with
        | true =>
          have e : s' = s := by
            have e1 : (signs.take (j + 1)).find? (fun s => (tl s).isPrefixOf (c :: cs)) = some s' := by
              rw [et, List.find?_append, hno]
              show Option.none.or (([s'] : List Str).find? _) = _
              rw [List.find?_cons, ep]
              rfl
            have e2 : signs.find? (fun s => (tl s).isPrefixOf (c :: cs)) = some s' := by
              rw [← List.take_append_drop (j + 1) signs, List.find?_append, e1]
              rfl
            rw [h4] at e2
            exact (Option.some.inj e2).symm
          subst e
          have hl : s'.length ≤ sizeLine := by
            have : ∀ s ∈ signs, s.length ≤ 2 := by decide +kernel
            exact Nat.le_trans (this _ hS) (by decide)
          refine ifT rfl ⟨_, rfl, _, rfl, (by show 3 ≤ sizeLine; decide), fun t ht => ⟨_, rfl, _, rfl, _, rfl, hl, _, _, rfl, rfl, (by show 2 ≤ sizeLine; decide), fun p hp => ?_⟩⟩
          have el : ((i : Nat) : Int) + ((s'.length : Nat) : Int) = ((i + ((c :: cs).length - r.length) : Nat) : Int) := by
            rw [h5, List.length_append, ← len_tl]
            omega
          exact q p t _ (Same.two ht hp) (by rw [upd_ne (ne_of_none upd_same hp)]; exact upd_same) (by
            rw [upd_same, ← el])
        | false =>
          refine ifF rfl ⟨rfl, ⟨_, rfl⟩, ?_⟩
          rw [et, List.find?_append, hno]
          show Option.none.or (([s'] : List Str).find? _) = _
          rw [List.find?_cons, ep]
          rfl
    · rintro st H' ⟨rfl, _, hno⟩
      rw [List.length_map, List.take_length, h4] at hno
      cases hno

theorem scToken : FnScope ["text", "at", "module"] ["text", "at", "module"] (defScope sToken) := ⟨rfl, rfl, rfl, by decide +kernel, rfl, by decide +kernel, by decide +kernel⟩
theorem ok_token (D : Df K mg "read_token" sToken ["text", "at", "module"]) (GL : Gf P w K mg base 1 "is_letter" ["char"] spLetter) (GD : Gf P w K mg base 1 "is_digit" ["char"] spDigit)
    (GW : Gf P w K mg base 4 "read_word" ["text", "at", "module"] (spTk isW)) (GN : Gf P w K mg base 4 "read_number" ["text", "at", "module"] (spTk isNm)) (GS : Gf P w K mg base 1 "read_sign" ["text", "at", "module"] (spTk isSn)) :
    Gf P w K mg base 5 "read_token" ["text", "at", "module"] (spTk fun _ => True) := by
  obtain ⟨f, fd, F, m, b⟩ := D
  obtain ⟨f1, fd1, G1, b1, k1, m1⟩ := GL
  obtain ⟨f2, fd2, G2, b2, k2, m2⟩ := GD
  obtain ⟨f3, fd3, G3, b3, k3, m3⟩ := GW
  obtain ⟨f4, fd4, G4, b4, k4, m4⟩ := GN
  obtain ⟨f5, fd5, G5, b5, k5, m5⟩ := GS
  refine ⟨f, fd, ?_, b, F.kp, m⟩
  refine F.ok scToken (fun vs H Q E h => ?_) (fun cdv A outer s H vs Q E hr h => ?_)
  · obtain ⟨z, m, i, cs, k, r, rfl, _⟩ := h
    rfl
  obtain ⟨z, m, i, cs, k, r, rfl, hz, hi, hd, hk, hphi, q⟩ := h
  have hr1 : Room 1 _ := hr.mono (by decide)
  refine ⟨_, pss_cons (ps_if (pt_val (pe_call G1 hr1 rfl m1 k1 b1 .nil pass0 (pa_cons (pe_item_str (pv 0) (pv 1) (fun _ _ => rfl)) pa_nil))) (pss_one (ps_ret (pe_call G3 hr rfl m3 k3 b3 .nil pass0 (pa_cons (pv 0) (pa_cons (pv 1) (pa_cons (pv 2) pa_nil)))))) pss_nil)
    (pss_cons (ps_if (pt_val (pe_call G2 hr1 rfl m2 k2 b2 .nil pass0 (pa_cons (pe_item_str (pv 0) (pv 1) (fun _ _ => rfl)) pa_nil))) (pss_one (ps_ret (pe_call G4 hr rfl m4 k4 b4 .nil pass0 (pa_cons (pv 0) (pa_cons (pv 1) (pa_cons (pv 2) pa_nil)))))) pss_nil)
    (pss_cons (ps_if (pt_cmpR op_eq (pe_item_str (pv 0) (pv 1) (fun _ _ => rfl)) pe_str (nomark _)) pss_never pss_nil)
    (pss_one (ps_ret (pe_call G5 hr1 rfl m5 k5 b5 .nil pass0 (pa_cons (pv 0) (pa_cons (pv 1) (pa_cons (pv 2) pa_nil)))))))), ?_⟩
  obtain ⟨c, w', ec, _⟩ := hk.facts
  have hd' : (tl z).drop i = c :: (w' ++ r) := by rw [hd, ec]; rfl
  obtain ⟨hc, hlt, _⟩ := sign_at hd'
  have hz' : z.length ≤ 20000 := hz
  refine ⟨_, rfl, _, rfl, z, i, c, rfl, rfl, by omega, by omega, by omega, by simpa using hc, c, rfl, _, rfl, ?_⟩
  have noLD : ∀ c, isL c = true → isD c = false := fun c h => by
    unfold isL at h
    unfold isD
    simp only [Bool.or_eq_true, Bool.and_eq_true, decide_eq_true_eq] at h
    simp only [Bool.and_eq_false_iff, decide_eq_false_iff_not]
    omega
  cases hk with
  | word c2 w2 r h1 h2 h3 h4 =>
    obtain rfl : c2 = c := by injection ec
    exact ifT h1 ⟨_, rfl, _, rfl, _, rfl, z, m, i, _, _, _, rfl, hz, hi, hd, .word _ _ _ h1 h2 h3 h4, trivial, q⟩
  | name c2 w2 r h1 h2 h3 h4 h5 =>
    obtain rfl : c2 = c := by injection ec
    exact ifT h1 ⟨_, rfl, _, rfl, _, rfl, z, m, i, _, _, _, rfl, hz, hi, hd, .name _ _ _ h1 h2 h3 h4 h5, trivial, q⟩
  | num c2 w2 r n h1 h2 h3 h4 h5 h6 h7 =>
    obtain rfl : c2 = c := by injection ec
    have hL : isL c2 = false := by
      cases e : isL c2 with
      | false => rfl
      | true => rw [noLD _ e] at h1; cases h1
    refine ifF hL ⟨_, rfl, _, rfl, z, i, c2, rfl, rfl, by omega, by omega, by omega, by simpa using hc, c2, rfl, _, rfl, ?_⟩
    exact ifT h1 ⟨_, rfl, _, rfl, _, rfl, z, m, i, _, _, _, rfl, hz, hi, hd, .num _ _ _ _ h1 h2 h3 h4 h5 h6 h7, trivial, q⟩
  | sign c2 cs2 s r h1 h2 h3 h4 h5 =>
    obtain rfl : c2 = c := by injection ec
    refine ifF h1 ⟨_, rfl, _, rfl, z, i, c2, rfl, rfl, by omega, by omega, by omega, by simpa using hc, c2, rfl, _, rfl, ?_⟩
    refine ifF h2 ⟨_, rfl, _, rfl, z, i, c2, rfl, rfl, by omega, by omega, by omega, by simpa using hc, rfl, _, rfl, ?_⟩
    refine ifF (decide_eq_false fun e => ?_) ⟨_, rfl, _, rfl, _, rfl, z, m, i, _, _, _, rfl, hz, hi, hd, .sign _ _ _ _ h1 h2 h3 h4 h5, trivial, q⟩
    have e0 : ("\"" : Str) = ⟨#[34]⟩ := by decide +kernel
    rw [e0] at e
    injection e with e
    injection e with e
    injection e with e
    injection e with e
    exact h3 e

/-! ### all tokens -/
end
/-- the tuples of tokens -/
def ToksAt (H : Hp) (as : List Addr) (ts : List (Tok × Nat)) : Prop := Paired (fun a (x : Tok × Nat) => H a = some (.tup (tokV x.1 x.2))) as ts
theorem ToksAt.mono {H H' : Hp} {as : List Addr} {ts : List (Tok × Nat)} (h : ToksAt H as ts) (k : ∀ a xs, H a = some (.tup xs) → H' a = some (.tup xs)) : ToksAt H' as ts := Paired.mapP h fun a _ e => k a _ e
def spTokens : Sp := fun vs H Q _ => ∃ (z m : Str) (ts : List (Tok × Nat)), vs = [.str z, .str m] ∧ z.length ≤ 20000 ∧ LexR (tl z) 0 ts ∧
  ∀ (l : Addr) (as : List Addr) (H' : Hp), Same H H' → H l = none → H' l = some (.lst (as.map V.ref)) → ToksAt H' as ts → ts.length ≤ z.length → Q (.ref l) H'
def blanks : List Str := [" ", "\t", "\n"]
theorem in_blanks (c : Nat) : inV (sg c) (blanks.map V.str) = decide (c = 32 ∨ c = 9 ∨ c = 10) := by
  have e : (S [c] ∈ blanks) ↔ (c = 32 ∨ c = 9 ∨ c = 10) := by
    have e1 : blanks = [S [32], S [9], S [10]] := by decide +kernel
    rw [e1]
    simp [S]
  show inV (.str (S [c])) _ = _
  rw [inV_strs]
  exact decide_eq_decide.mpr e
section
variable {P : Program} {w : World} {K : PySem.W.Frag} {mg : Str → Option Value} {base : Heap}
theorem scTokens : FnScope ["text", "module", "result", "at", "token"] ["text", "module"] (defScope sTokens) := ⟨rfl, rfl, rfl, by decide +kernel, rfl, by decide +kernel, by decide +kernel⟩
theorem ok_tokens (T : LexT K mg) (D : Df K mg "tokens" sTokens ["text", "module"]) (GT : Gf P w K mg base 5 "read_token" ["text", "at", "module"] (spTk fun _ => True)) : Gf P w K mg base 6 "tokens" ["text", "module"] spTokens := by
  obtain ⟨f, fd, F, m, b⟩ := D
  obtain ⟨f1, fd1, G1, b1, k1, m1⟩ := GT
  obtain ⟨tM, mM⟩ := T.maxText
  refine ⟨f, fd, ?_, b, F.kp, m⟩
  refine F.ok scTokens (fun vs H Q E h => ?_) (fun cdv A outer s H vs Q E hr h => ?_)
  · obtain ⟨z, m, ts, rfl, _⟩ := h
    rfl
  obtain ⟨z, m, ts, rfl, hz, hx, q⟩ := h
  refine ⟨_, pss_cons (ps_if (pt_cmpR op_gt (pe_callB call_len_str rfl T.len PySem.boot_len (pa_cons (pv 0) pa_nil)) (pe_gint rfl mM) (nomark _)) pss_never pss_nil)
    (pss_cons (ps_set (i := 2) scTokens.nd rfl (Or.inl rfl) (pe_lst pa_nil))
    (pss_cons (ps_set (i := 3) scTokens.nd rfl (Or.inl rfl) pe_int)
    (pss_cons (ps_while PassesOwn.never (pt_cmpR op_lt (pv 3) (pe_callB call_len_str rfl T.len PySem.boot_len (pa_cons (pv 0) pa_nil)) (nomark _))
      (pss_one (ps_if (pt_cmpR op_in_seq (pe_item_str (pv 0) (pv 3) (fun _ _ => rfl)) (pe_tup (pa_cons pe_str (pa_cons pe_str (pa_cons pe_str pa_nil)))) (by rfl))
        (pss_one (ps_set (i := 3) scTokens.nd rfl (Or.inl rfl) (pe_op op_add (pv 3) pe_int)))
        (pss_one (ps_if (pt_cmpR op_eq (pe_item_str (pv 0) (pv 3) (fun _ _ => rfl)) pe_str (nomark _)) pss_never
          (pss_cons (ps_asg (pe_call G1 hr rfl m1 k1 b1 .nil pass0 (pa_cons (pv 0) (pa_cons (pv 3) (pa_cons (pv 1) pa_nil)))) (pg_tup (by rfl) (pgs_cons (pg_name (i := 4) scTokens.nd rfl (Or.inl rfl)) (pgs_cons (pg_name (i := 3) scTokens.nd rfl (Or.inl rfl)) pgs_nil))))
          (pss_one (ps_expr (pe_bm PySem.F.plainAttrs_list PySem.F.slot_list_append PySem.F.type_list_append mt_append (pv 2) (pa_cons (pv 4) pa_nil))))))))))
    (pss_one (ps_ret (pv 2)))))), ?_⟩
  refine ⟨_, rfl, z, rfl, small_line hz, _, _, rfl, rfl, _, rfl, ifF (decide_eq_false (by omega)) ?_⟩
  refine ⟨(by show 0 ≤ sizeLine; decide), fun l hl => ?_⟩
  refine ⟨fun n st H' => ∃ (i : Nat) (as : List Addr) (dn rs : List (Tok × Nat)) (v : Option V), st = [some (.str z), some (.str m), some (.ref l), some (.int i), v] ∧ i ≤ z.length ∧ LexR ((tl z).drop i) i rs ∧ ts = dn ++ rs ∧ dn.length ≤ i ∧
      Same H H' ∧ H' l = some (.lst (as.map V.ref)) ∧ ToksAt H' as dn ∧ n = z.length - i,
    ⟨_, 0, [], [], ts, none, rfl, Nat.zero_le _, hx, rfl, Nat.le_refl _, fun a o e => by rw [upd_ne (ne_of_none e hl)]; exact e, upd_same, .nil, rfl⟩, ?_⟩
  rintro n st H' ⟨i, as, dn, rs, v, rfl, hi, hy, rfl, hdn, hS, hL, hA, rfl⟩
  have hlen : as.length = dn.length := hA.length
  refine ⟨_, rfl, _, rfl, z, rfl, small_line hz, _, _, rfl, rfl, _, rfl, ?_⟩
  by_cases hlt : i < z.length
  · refine ifT (decide_eq_true (by omega)) ?_
    generalize hcs : (tl z).drop i = cs at hy
    cases hy with
    | nil =>
      have := drop_len hcs
      simp at this
      omega
    | sp c cs i ts' hc hx =>
      obtain ⟨hcp, _, hd2⟩ := sign_at hcs
      refine ⟨fun st H2 => Same H' H2 ∧ st = [some (.str z), some (.str m), some (.ref l), some (.int ((i + 1 : Nat) : Int)), v], ?_, ?_⟩
      · rintro st H2 ⟨hS2, rfl⟩
        exact ⟨_, by omega, i + 1, as, dn, rs, v, rfl, by omega, by rw [hd2]; exact hx, rfl, by omega, hS.trans hS2, hS2 _ _ hL, hA.mono fun a xs e => hS2 a _ e, rfl⟩
      · refine ⟨_, rfl, _, rfl, z, i, c, rfl, rfl, by omega, by omega, by omega, by simpa using hcp, (by show 3 ≤ sizeLine; decide), fun t ht => ?_⟩
        refine ⟨t, blanks.map V.str, rfl, .inr (SqT.of upd_same), rfl, flat_strs _, _, rfl, ifT ?_ ?_⟩
        · show inV (sg c) (blanks.map V.str) = true
          rw [in_blanks]
          exact decide_eq_true (by omega)
        · exact ⟨_, rfl, _, _, rfl, rfl, fun a o e => by rw [upd_ne (ne_of_none e ht)]; exact e, rfl⟩
    | tok c cs k r i ts' hk hx =>
      obtain ⟨c', w', ec, n1, n2, n3, n4⟩ := hk.facts
      obtain rfl : c' = c := by injection ec with e _; exact e.symm
      obtain ⟨hcp, _, hd2⟩ := sign_at hcs
      have hll := drop_len hcs
      have hcl : (c' :: cs).length = (c' :: w').length + r.length := by rw [ec, List.length_append]
      have hdr : (tl z).drop (i + ((c' :: cs).length - r.length)) = r := by
        rw [← List.drop_drop, hcs, hcl, Nat.add_sub_cancel, ec, List.drop_left]
      have hw1 : (c' :: w').length = w'.length + 1 := rfl
      have hge : 1 ≤ (c' :: cs).length - r.length := by omega
      refine ⟨fun st H2 => ∃ v', st = [some (.str z), some (.str m), some (.ref l), some (.int ((i + ((c' :: cs).length - r.length) : Nat) : Int)), v'] ∧ Same H H2 ∧ ∃ as', H2 l = some (.lst (as'.map V.ref)) ∧ ToksAt H2 as' (dn ++ [(k, i)]), ?_, ?_⟩
      · rintro st H2 ⟨v', rfl, hS2, as', hL2, hA2⟩
        exact ⟨_, by omega, i + ((c' :: cs).length - r.length), as', dn ++ [(k, i)], ts', v', rfl, by omega, by rw [hdr]; exact hx, by simp, by rw [List.length_append]; show dn.length + 1 ≤ _; omega, hS2, hL2, hA2, rfl⟩
      · refine ⟨_, rfl, _, rfl, z, i, c', rfl, rfl, by omega, by omega, by omega, by simpa using hcp, (by show 3 ≤ sizeLine; decide), fun t ht => ?_⟩
        refine ⟨t, blanks.map V.str, rfl, .inr (SqT.of upd_same), rfl, flat_strs _, _, rfl, ifF ?_ ?_⟩
        · show inV (sg c') (blanks.map V.str) = false
          rw [in_blanks]
          exact decide_eq_false (by omega)
        have hS1 : Same H' (upd H' t (.tup (blanks.map V.str))) := fun a o e => by rw [upd_ne (ne_of_none e ht)]; exact e
        refine ⟨_, rfl, _, rfl, z, i, c', rfl, rfl, by omega, by omega, by omega, by simpa using hcp, rfl, _, rfl, ifF (decide_eq_false fun e => ?_) ?_⟩
        · have e0 : ("#" : Str) = ⟨#[35]⟩ := by decide +kernel
          rw [e0] at e
          injection e with e
          injection e with e
          injection e with e
          injection e with e
          exact n4 e
        refine ⟨_, rfl, _, rfl, _, rfl, z, m, i, _, k, r, rfl, hz, hi, hcs, hk, trivial, fun p t2 H2 hS2 ht2 hp2 => ?_⟩
        have hS3 : Same H' H2 := hS1.trans hS2
        refine ⟨p, _, rfl, SqT.of hp2, rfl, _, _, rfl, _, _, rfl, rfl, ?_⟩
        refine ⟨_, rfl, .inl ⟨rfl, _, SqL.of (hS3 _ _ hL)⟩, _, rfl, l, _, _, rfl, rfl, hS3 _ _ hL, ?_, ?_⟩
        · rw [List.length_map, hlen]
          have : sizeLine = 2 ^ 24 := rfl
          omega
        have n2l : t2 ≠ l := fun e => by
          subst e
          rw [hS3 _ _ hL] at ht2
          cases ht2
        refine ⟨_, rfl, fun a o e => ?_, as ++ [t2], ?_, ?_⟩
        · rw [upd_ne (ne_of_none e hl)]
          exact hS3 _ _ (hS _ _ e)
        · rw [upd_same, List.map_append]
          rfl
        · refine Paired.snoc (ToksAt.mono hA fun a xs e => ?_) (by rw [upd_ne n2l]; exact ht2)
          have : a ≠ l := fun z => by rw [z, hL] at e; cases e
          rw [upd_ne this]
          exact hS3 _ _ e
  · refine ifF (decide_eq_false (by omega)) ⟨_, rfl, ?_⟩
    have e2 : (tl z).drop i = [] := List.drop_eq_nil_of_le (by rw [← len_tl]; omega)
    rw [e2] at hy
    cases hy
    exact q l as H' hS hl hL (by rw [List.append_nil]; exact hA) (by rw [List.append_nil]; omega)
end
end K2
set_option maxRecDepth 100000
/-! Rules of our own: the keys of a dict of the module, walked; repr of data. -/
namespace K2
open PySem L2 PyProof.Rows

/-- at d: a dict of the module whose keys are the texts ks -/
def KKeys (K : PySem.W.Frag) (d : Addr) (ks : List Str) : Prop :=
  ∃ (es : Array DictEntry) (n : Nat), K.lookup d = some ⟨.type "dict", none, .dict es n, #[]⟩ ∧ Paired (fun (k : Str) (e : DictEntry) => ∃ t, e.key = .str k t) ks es.toList ∧ (d == sysModules) = false
/-- the texts ks, one after the other -/
def Itw (ks : List Str) : It :=
  ⟨fun i _ => i < ks.length, fun i H x H' => H' = H ∧ ∃ k, ks[i]? = some k ∧ x = .str k, fun i _ => ks.length ≤ i⟩
theorem pair_get {α β : Type} {F : α → β → Prop} : ∀ {l : List α} {r : List β} {i : Nat} {x : α}, Paired F l r → l[i]? = some x → ∃ y, r[i]? = some y ∧ F x y
  | _, _, _, _, .nil, e => by simp at e
  | _, _, 0, _, .cons h _, e => by
    obtain rfl := Option.some.inj e
    exact ⟨_, rfl, h⟩
  | _, _, i + 1, _, .cons _ t, e => by
    obtain ⟨y, h1, h2⟩ := pair_get (i := i) t (by simpa using e)
    exact ⟨y, by simpa using h1, h2⟩
section
variable {P : Program} {w : World} {K : PySem.W.Frag} {tg : Expr} {d it : Addr} {ks : List Str} {es : Array DictEntry} {n : Nat}
theorem turn_written (hl : K.lookup d = some ⟨.type "dict", none, .dict es n, #[]⟩) (hp : Paired (fun (k : Str) (e : DictEntry) => ∃ t, e.key = .str k t) ks es.toList) :
    Turn P w K tg (Itw ks) [it] it (fun i h => h.IsKeyIter it d i ks.length n) := by
  have hsz : es.size = ks.length := by
    have := Paired.length hp
    rw [Array.length_toList] at this
    exact this.symm
  constructor
  · exact List.mem_singleton_self _
  · intro i h st b hb
    obtain rfl := List.mem_singleton.mp hb
    obtain ⟨o, e1, _, e3⟩ := st
    exact ⟨o, e1, fun v z => by rw [e3] at z; cases z⟩
  · intro i h h' st k
    obtain ⟨o, e1, e2, e3⟩ := st
    exact ⟨o, k it (List.mem_singleton_self _) o e1, e2, e3⟩
  · intro X hP hw hK hc i pins s sg H E I hf st hg
    subst hP hw hK
    obtain ⟨f0, f1, f2, f3, f4, f5⟩ := hf it (List.mem_singleton_self _)
    have hi : i < ks.length := hg
    obtain ⟨k, hk⟩ : ∃ k, ks[i]? = some k := ⟨ks[i], List.getElem?_eq_getElem hi⟩
    obtain ⟨e, he, t, et⟩ := pair_get hp hk
    have hraw : s.heap.DictRaw d es n := ⟨_, I.kIn d _ hl, ⟨rfl, rfl, rfl⟩, rfl⟩
    have hi2 : i < es.size := by omega
    have ee : es[i] = e := by
      rw [Array.getElem?_toList, Array.getElem?_eq_getElem hi2] at he
      exact Option.some.inj he
    have st' := st
    rw [← hsz] at st'
    refine wpAny_pyNext_keys_item_raw st' hraw hi2 fun h' hit' sb => ?_
    have I1 : Inv X pins sg H { s with heap := h' } := I.turned (t' := s.toks) (fun b ob hb q => (sb.2 b hb).trans q) f0 f1 f3 f4 f5
    obtain ⟨oi, o1, o2, o3⟩ := id hit'
    refine ⟨es[i].key, rfl, go_of (s := { s with heap := h' }) o1 o2 o3 (by decide) ⟨.str k, H, I1, ⟨t, by rw [ee]; exact et⟩, ⟨rfl, k, hk, rfl⟩, ?_, fun b hb => (hf b hb).1⟩⟩
    show h'.IsKeyIter it d (i + 1) ks.length n
    rw [← hsz]
    exact hit'
  · intro X hP hw hK hc i pins s sg H E I hf st hg
    subst hP hw hK
    obtain ⟨f0, f1, f2, f3, f4, f5⟩ := hf it (List.mem_singleton_self _)
    exact next_key_end (I.ok.hd hc) st (I.kIn d _ hl) rfl hsz hg fun h' eb => ⟨rfl, I.turned (t' := s.toks) (fun b ob hb q => eb b ob hb q) f0 f1 f3 f4 f5⟩
  · exact fun A i s Q E st h => wpAny_pyIter_keyiter st h
end
def iWritten (K : PySem.W.Frag) (te : TE) : TI := fun st H R => te st H fun x H1 => ∃ d ks, x = .ref d ∧ KKeys K d ks ∧ R (Itw ks) H1
/-- for k in d, d a dict of the module -/
theorem pi_written {X : Cx} {tg e : Expr} {te : TE} (he : PE X e te) : PI X tg e (iWritten X.K te) := by
  refine ⟨fun pins s sg H R I h => ?_⟩
  refine thn (he.run pins s sg H _ I h) fun u s1 hq => ?_
  obtain ⟨x, H1, I1, rx, d, ks, rfl, hk, q⟩ := hq
  obtain ⟨es, n, hl, hp, hd⟩ := hk
  obtain rfl : u = Value.ref d := rx
  have hsz : es.size = ks.length := by
    have := Paired.length hp
    rw [Array.length_toList] at this
    exact this.symm
  refine iter_keys hd (I1.kIn d _ hl) ⟨rfl, rfl, rfl⟩ rfl (pi_one (tk := s1.toks) I1 _ (turn_written (it := s1.heap.objs.size) hl hp) ⟨_, Heap.get?_push_size _ rfl, rfl, ?_⟩ q)
  rw [hsz]
  rfl
/-- the loop over them -/
theorem for_written {ks : List Str} {g : TG} {tb : TS} {D : Ends} {st : L2.St} {H : Hp} (Pv : Nat → L2.St → Hp → Prop) (h0 : Pv 0 st H)
    (hs : ∀ i k st H, ks[i]? = some k → Pv i st H → g (.str k) st H fun s2 H2 => tb { D with nx := Pv (i + 1), ct := Pv (i + 1), bk := D.nx } s2 H2) (hd : ∀ st H, Pv ks.length st H → D.nx st H) :
    ∃ W : Nat → Nat → L2.St → Hp → Prop, (∃ m, W 0 m st H) ∧ ∀ i m st H, W i m st H →
      ((Itw ks).stop i H ∧ D.nx st H) ∨ ((Itw ks).go i H ∧ ∃ N : L2.St → Hp → Prop, (∀ s' H', N s' H' → ∃ m', m' < m ∧ W (i + 1) m' s' H') ∧ ∀ x H', (Itw ks).yld i H x H' → g x st H' fun s2 H2 => tb { D with nx := N, ct := N, bk := D.nx } s2 H2) := by
  refine ⟨fun i m st H => m = ks.length - i ∧ i ≤ ks.length ∧ Pv i st H, ⟨_, rfl, Nat.zero_le _, h0⟩, ?_⟩
  rintro i m st H ⟨rfl, hi, p⟩
  by_cases hlt : i < ks.length
  · refine .inr ⟨hlt, Pv (i + 1), fun s' H' p' => ⟨_, by omega, rfl, hlt, p'⟩, ?_⟩
    rintro x H' ⟨rfl, k, hk, rfl⟩
    exact hs i k st _ hk p
  · have e : i = ks.length := by omega
    subst e
    exact .inl ⟨Nat.le_refl _, hd st H p⟩
end K2
set_option maxRecDepth 100000
set_option maxHeartbeats 4000000
/-! The reader: its fields, its methods. -/
namespace K2
open PySem L2 TL
/-- the reader's fields, in the order in which __init__ stores them -/
def rf (l : Addr) (m : Str) (k lim : Int) : List (Str × V) := [("rest", .ref l), ("module", .str m), ("place", .int k), ("limit", .int lim), ("inside", .int 0)]
theorem rf_rest {l m k lim} : (rf l m k lim).lookup ("rest" : Str) = some (V.ref l) := rfl
theorem rf_place {l m k lim} : (rf l m k lim).lookup ("place" : Str) = some (V.int k) := rfl
theorem rf_put {l m k lim} (j : Int) : putF "place" (.int j) (rf l m k lim) = rf l m j lim := rfl
/-- what stands still while a reader reads -/
structure RT where
  l : Addr
  dx : Addr
  as : List Addr
  toks : List (Tok × Nat)
  m : Str
  lim : Int
/-- a reader at p whose next tokens are ts -/
def RdAt (C : Addr) (H : Hp) (p : Addr) (T : RT) (ts : List Tok) : Prop :=
  ∃ k : Nat, H p = some (.ins C T.dx (rf T.l T.m k T.lim)) ∧ H T.l = some (.lst (T.as.map V.ref)) ∧ ToksAt H T.as T.toks ∧ T.toks.length ≤ 20000 ∧ (T.toks.drop k).map (·.1) = ts ∧ k ≤ T.toks.length
/-- all but p stands -/
def Ext (p : Addr) (H H' : Hp) : Prop := ∀ b o, H b = some o → b ≠ p → H' b = some o
theorem Ext.refl (p : Addr) (H : Hp) : Ext p H H := fun _ _ e _ => e
theorem Ext.trans {p : Addr} {H H1 H2 : Hp} (a : Ext p H H1) (b : Ext p H1 H2) : Ext p H H2 := fun c o e n => b c o (a c o e n) n
theorem Ext.of {p : Addr} {H H' : Hp} (s : Same H H') : Ext p H H' := fun b o e _ => s b o e
theorem ins_ne {H : Hp} {p a C dx : Addr} {fs : List (Str × V)} {xs : List V} (h : H p = some (.ins C dx fs)) (e : H a = some (.tup xs)) : a ≠ p := fun z => by
  rw [z, h] at e
  cases e
theorem ins_ne' {H : Hp} {p a C dx : Addr} {fs : List (Str × V)} {xs : List V} (h : H p = some (.ins C dx fs)) (e : H a = some (.lst xs)) : a ≠ p := fun z => by
  rw [z, h] at e
  cases e
/-- a new object leaves a reader as it is -/
theorem RdAt.same {C : Addr} {H H' : Hp} {p : Addr} {T : RT} {ts : List Tok} (h : RdAt C H p T ts) (s : Same H H') : RdAt C H' p T ts := by
  obtain ⟨k, h1, h2, h3, h4⟩ := h
  exact ⟨k, s _ _ h1, s _ _ h2, h3.mono fun a xs e => s _ _ e, h4⟩
theorem paired_at {α β : Type} {F : α → β → Prop} : ∀ {l : List α} {r : List β} {i : Nat} {y : β}, Paired F l r → r[i]? = some y → ∃ x, l[i]? = some x ∧ F x y
  | _, _, _, _, .nil, e => by simp at e
  | _, _, 0, _, .cons h _, e => by
    obtain rfl := Option.some.inj e
    exact ⟨_, rfl, h⟩
  | _, _, i + 1, _, .cons _ t, e => by
    obtain ⟨x, h1, h2⟩ := paired_at (i := i) t (by simpa using e)
    exact ⟨x, by simpa using h1, h2⟩
/-- the next token, as it stands -/
theorem RdAt.next {C : Addr} {H : Hp} {p : Addr} {T : RT} {tok : Tok} {ts : List Tok} (h : RdAt C H p T (tok :: ts)) :
    ∃ (k : Nat) (a : Addr) (i : Nat), H p = some (.ins C T.dx (rf T.l T.m k T.lim)) ∧ H T.l = some (.lst (T.as.map V.ref)) ∧ k < T.as.length ∧ T.as.length ≤ 20000 ∧ T.as[k]? = some a ∧ H a = some (.tup (tokV tok i)) ∧
      T.toks[k]? = some (tok, i) ∧ k = T.toks.length - (ts.length + 1) ∧ (∀ H' : Hp, H' p = some (.ins C T.dx (rf T.l T.m ((k : Int) + 1) T.lim)) → Ext p H H' → RdAt C H' p T ts) := by
  obtain ⟨k, h1, h2, h3, h4, h5, h6⟩ := h
  cases e : T.toks.drop k with
  | nil => rw [e] at h5; cases h5
  | cons x r =>
    rw [e] at h5
    obtain ⟨tok', i⟩ := x
    have e1 : tok' = tok := by injection h5
    have e2 : r.map (·.1) = ts := by injection h5
    subst e1
    have hk : T.toks[k]? = some (tok', i) := by
      have := List.getElem?_drop (xs := T.toks) (i := k) (j := 0)
      rw [e] at this
      simpa using this.symm
    have hr : T.toks.drop (k + 1) = r := by rw [← List.drop_drop (i := 1) (j := k), e]; rfl
    have hlt : k < T.toks.length := (List.getElem?_eq_some_iff.mp hk).1
    obtain ⟨a, ha, hat⟩ := paired_at h3 hk
    have hl : T.as.length = T.toks.length := Paired.length h3
    have hrl : T.toks.length = k + (ts.length + 1) := by
      have := congrArg List.length e
      rw [List.length_drop, List.length_cons, ← List.length_map (f := (·.1)) (as := r), e2] at this
      omega
    refine ⟨k, a, i, h1, h2, by omega, by omega, ha, hat, hk, by omega, fun H' q x => ⟨k + 1, q, x _ _ h2 (ins_ne' h1 h2), h3.mono fun b xs z => x _ _ z (ins_ne h1 z), h4, by rw [hr]; exact e2, hlt⟩⟩
/-- the reader has read all -/
theorem RdAt.place {C : Addr} {H : Hp} {p : Addr} {T : RT} {ts : List Tok} (h : RdAt C H p T ts) :
    H p = some (.ins C T.dx (rf T.l T.m ((T.toks.length - ts.length : Nat) : Int) T.lim)) ∧ H T.l = some (.lst (T.as.map V.ref)) ∧ T.as.length = T.toks.length ∧ ts.length ≤ T.toks.length := by
  obtain ⟨k, h1, h2, h3, h4, h5, h6⟩ := h
  have := congrArg List.length h5
  rw [List.length_map, List.length_drop] at this
  have e : T.toks.length - ts.length = k := by omega
  rw [e]
  exact ⟨h1, h2, Paired.length h3, by omega⟩

/-! ### the methods' promises -/
def isTok (k : Tok) (kind val : Str) : Bool := decide (kindS k = kind) && decide (valV k = .str val)
theorem tok_word (v : Str) : isTok (.word v) "word" v = true := by
  unfold isTok
  rw [decide_eq_true (show kindS (.word v) = "word" from rfl), decide_eq_true (show valV (.word v) = .str v from rfl)]
  rfl
theorem tok_sign (v : Str) : isTok (.sign v) "sign" v = true := by
  unfold isTok
  rw [decide_eq_true (show kindS (.sign v) = "sign" from rfl), decide_eq_true (show valV (.sign v) = .str v from rfl)]
  rfl
theorem tok_word_no {k : Tok} {v : Str} (h : k ≠ .word v) : isTok k "word" v = false := by
  unfold isTok
  rw [Bool.and_eq_false_iff]
  cases k with
  | word w => exact .inr (decide_eq_false fun e => h (by rw [V.str.inj e]))
  | name _ => exact .inl (show decide (("name" : Str) = "word") = false by decide +kernel)
  | num _ => exact .inl (show decide (("number" : Str) = "word") = false by decide +kernel)
  | sign _ => exact .inl (show decide (("sign" : Str) = "word") = false by decide +kernel)
theorem tok_sign_no {k : Tok} {v : Str} (h : k ≠ .sign v) : isTok k "sign" v = false := by
  unfold isTok
  rw [Bool.and_eq_false_iff]
  cases k with
  | sign w => exact .inr (decide_eq_false fun e => h (by rw [V.str.inj e]))
  | name _ => exact .inl (show decide (("name" : Str) = "sign") = false by decide +kernel)
  | num _ => exact .inl (show decide (("number" : Str) = "sign") = false by decide +kernel)
  | word _ => exact .inl (show decide (("word" : Str) = "sign") = false by decide +kernel)
def spSees (C : Addr) : Sp := fun vs H Q _ => ∃ (p : Addr) (T : RT) (tok : Tok) (ts : List Tok) (kind val : Str) (b : Bool), vs = [.ref p, .str kind, .str val] ∧ RdAt C H p T (tok :: ts) ∧ isTok tok kind val = b ∧ Q (.bl b) H
def spAccept (C : Addr) : Sp := fun vs H Q _ => ∃ (p : Addr) (T : RT) (tok : Tok) (ts : List Tok) (kind val : Str), vs = [.ref p, .str kind, .str val] ∧ RdAt C H p T (tok :: ts) ∧
  ((isTok tok kind val = false ∧ Q (.bl false) H) ∨ (isTok tok kind val = true ∧ ∀ H', RdAt C H' p T ts → Ext p H H' → Q (.bl true) H'))
def spExpect (C : Addr) : Sp := fun vs H Q _ => ∃ (p : Addr) (T : RT) (tok : Tok) (ts : List Tok) (kind val : Str), vs = [.ref p, .str kind, .str val] ∧ RdAt C H p T (tok :: ts) ∧ isTok tok kind val = true ∧ ∀ H', RdAt C H' p T ts → Ext p H H' → Q .non H'
def spSeesKind (C : Addr) : Sp := fun vs H Q _ => ∃ (p : Addr) (T : RT) (tok : Tok) (ts : List Tok) (kind : Str) (b : Bool), vs = [.ref p, .str kind] ∧ RdAt C H p T (tok :: ts) ∧ decide (kindS tok = kind) = b ∧ Q (.bl b) H
def spRead (C : Addr) : Sp := fun vs H Q _ => ∃ (p : Addr) (T : RT) (tok : Tok) (ts : List Tok) (kind : Str), vs = [.ref p, .str kind] ∧ RdAt C H p T (tok :: ts) ∧ kindS tok = kind ∧ ∀ H', RdAt C H' p T ts → Ext p H H' → Q (valV tok) H'
def spAt (C : Addr) : Sp := fun vs H Q _ => ∃ (p : Addr) (T : RT) (tok : Tok) (ts : List Tok), vs = [.ref p] ∧ RdAt C H p T (tok :: ts) ∧ ∀ i : Nat, T.toks[T.toks.length - (ts.length + 1)]? = some (tok, i) → Q (.int i) H
def spDeeper : Sp := fun vs H Q _ => ∃ (x : V) (lv : Nat), vs = [x, .int lv] ∧ lv < 40 ∧ Q (.int ((lv + 1 : Nat) : Int)) H
/-- what the reader's methods ask of the module -/
structure RdT (K : PySem.W.Frag) (mg : Str → Option Value) (C : Addr) : Prop where
  cl : Cls K C
  nRest : NoAttr K C "rest"
  nMod : NoAttr K C "module"
  nPlace : NoAttr K C "place"
  nLim : NoAttr K C "limit"
  nIn : NoAttr K C "inside"
  mgC : mg "Reader" = some (.ref C)
  len : mg "len" = none
  nest : ∃ t, mg "MAX_NESTING" = some (.int 40 t)
section
variable {P : Program} {w : World} {K : PySem.W.Frag} {mg : Str → Option Value} {base : Heap} {C : Addr}
theorem scSees : FnScope ["self", "kind", "value"] ["self", "kind", "value"] (defScope (sReader 2)) := ⟨rfl, rfl, rfl, by decide +kernel, rfl, by decide +kernel, by decide +kernel⟩
theorem ok_sees (T : RdT K mg C) (D : Dm K C "sees" "Reader.sees" (sReader 2) ["self", "kind", "value"]) : Gm P w K mg base C 1 "sees" ["self", "kind", "value"] (spSees C) := by
  obtain ⟨f, fd, F, m, b⟩ := D
  refine ⟨f, fd, ?_, b, m⟩
  refine F.ok scSees (fun vs H Q E h => ?_) (fun cdv A outer s H vs Q E hr h => ?_)
  · obtain ⟨p, U, tok, ts, kind, val, b, rfl, _⟩ := h
    rfl
  obtain ⟨p, U, tok, ts, kind, val, b, rfl, R, e, q⟩ := h
  obtain ⟨k, a, i, h1, h2, h3, h4, h5, h6, h7, h8, _⟩ := R.next
  refine ⟨_, pss_cons (ps_if (pt_cmpR op_ge (pe_fld (pv 0) rfl) (pe_callB call_len_seq rfl T.len PySem.boot_len (pa_cons (pe_fld (pv 0) rfl) pa_nil)) (nomark _)) (pss_one (ps_ret pe_bl)) pss_nil)
    (pss_one (ps_ret (pe_and (pe_cmpR op_eq (pe_ix ix_tup (pe_ix ix_list (pe_fld (pv 0) rfl) (pe_fld (pv 0) rfl) (fun _ _ => rfl)) pe_int (fun _ _ => rfl)) (pv 1) (nomark _))
      (pe_one (pe_cmpR op_eq (pe_ix ix_tup (pe_ix ix_list (pe_fld (pv 0) rfl) (pe_fld (pv 0) rfl) (fun _ _ => rfl)) pe_int (fun _ _ => rfl)) (pv 2) (nomark _)))))), ?_⟩
  have hl : (U.as.map V.ref).length = U.as.length := List.length_map _
  have ha : atI (U.as.map V.ref) (k : Int) = some (.ref a) := atI_nat (by rw [List.getElem?_map, h5]; rfl)
  refine ⟨_, rfl, p, C, _, _, _, rfl, h1, T.cl, T.nPlace, rf_place, ?_⟩
  refine ⟨_, rfl, p, C, _, _, _, rfl, h1, T.cl, T.nRest, rf_rest, ?_⟩
  refine ⟨_, _, rfl, .inl (SqL.of h2), _, _, rfl, rfl, _, rfl, ifF (decide_eq_false ?_) ?_⟩
  · show ¬ ((((U.as.map V.ref).length : Nat) : Int) ≤ (k : Int))
    rw [hl]
    omega
  refine ⟨_, rfl, p, C, _, _, _, rfl, h1, T.cl, T.nRest, rf_rest, ?_⟩
  refine ⟨_, rfl, p, C, _, _, _, rfl, h1, T.cl, T.nPlace, rf_place, ?_⟩
  refine ⟨_, _, _, _, rfl, rfl, SqL.of h2, ha, _, _, _, _, rfl, rfl, SqT.of h6, at_of (j := 0) rfl rfl, _, rfl, rfl, _, rfl, ?_⟩
  have eq1 : decide (V.str (kindS tok) = V.str kind) = decide (kindS tok = kind) := by simp
  by_cases hk : kindS tok = kind
  · refine ifT (eq1.trans (decide_eq_true hk)) ?_
    refine ⟨_, rfl, p, C, _, _, _, rfl, h1, T.cl, T.nRest, rf_rest, ?_⟩
    refine ⟨_, rfl, p, C, _, _, _, rfl, h1, T.cl, T.nPlace, rf_place, ?_⟩
    refine ⟨_, _, _, _, rfl, rfl, SqL.of h2, ha, _, _, _, _, rfl, rfl, SqT.of h6, at_of (j := 1) rfl rfl, _, rfl, ?_, ?_⟩
    · cases tok <;> rfl
    · have e2 : decide (valV tok = V.str val) = b := by
        rw [← e]
        unfold isTok
        rw [decide_eq_true hk, Bool.true_and]
      show Q (.bl (decide (valV tok = V.str val))) H
      rw [e2]
      exact q
  · refine ifF (eq1.trans (decide_eq_false hk)) ?_
    have e2 : b = false := by
      rw [← e]
      unfold isTok
      rw [decide_eq_false hk, Bool.false_and]
    rw [e2] at q
    exact q

theorem scAt : FnScope ["self"] ["self"] (defScope (sReader 1)) := ⟨rfl, rfl, rfl, by decide +kernel, rfl, by decide +kernel, by decide +kernel⟩
theorem ok_at (T : RdT K mg C) (D : Dm K C "at" "Reader.at" (sReader 1) ["self"]) : Gm P w K mg base C 1 "at" ["self"] (spAt C) := by
  obtain ⟨f, fd, F, m, b⟩ := D
  refine ⟨f, fd, ?_, b, m⟩
  refine F.ok scAt (fun vs H Q E h => ?_) (fun cdv A outer s H vs Q E hr h => ?_)
  · obtain ⟨p, U, tok, ts, rfl, _⟩ := h
    rfl
  obtain ⟨p, U, tok, ts, rfl, R, q⟩ := h
  obtain ⟨k, a, i, h1, h2, h3, h4, h5, h6, h7, h8, _⟩ := R.next
  refine ⟨_, pss_cons (ps_if (pt_cmpR op_lt (pe_fld (pv 0) rfl) (pe_callB call_len_seq rfl T.len PySem.boot_len (pa_cons (pe_fld (pv 0) rfl) pa_nil)) (nomark _))
      (pss_one (ps_ret (pe_ix ix_tup (pe_ix ix_list (pe_fld (pv 0) rfl) (pe_fld (pv 0) rfl) (fun _ _ => rfl)) pe_int (fun _ _ => rfl)))) pss_nil)
    (pss_one (ps_ret (pe_fld (pv 0) rfl))), ?_⟩
  have hl : (U.as.map V.ref).length = U.as.length := List.length_map _
  have ha : atI (U.as.map V.ref) (k : Int) = some (.ref a) := atI_nat (by rw [List.getElem?_map, h5]; rfl)
  refine ⟨_, rfl, p, C, _, _, _, rfl, h1, T.cl, T.nPlace, rf_place, ?_⟩
  refine ⟨_, rfl, p, C, _, _, _, rfl, h1, T.cl, T.nRest, rf_rest, ?_⟩
  refine ⟨_, _, rfl, .inl (SqL.of h2), _, _, rfl, rfl, _, rfl, ifT (decide_eq_true ?_) ?_⟩
  · show (k : Int) < (((U.as.map V.ref).length : Nat) : Int)
    rw [hl]
    omega
  refine ⟨_, rfl, p, C, _, _, _, rfl, h1, T.cl, T.nRest, rf_rest, ?_⟩
  refine ⟨_, rfl, p, C, _, _, _, rfl, h1, T.cl, T.nPlace, rf_place, ?_⟩
  refine ⟨_, _, _, _, rfl, rfl, SqL.of h2, ha, _, _, _, _, rfl, rfl, SqT.of h6, at_of (j := 2) rfl rfl, ?_⟩
  exact q i (by rw [← h8]; exact h7)
theorem scSeesKind : FnScope ["self", "kind"] ["self", "kind"] (defScope (sReader 3)) := ⟨rfl, rfl, rfl, by decide +kernel, rfl, by decide +kernel, by decide +kernel⟩
theorem ok_seesKind (T : RdT K mg C) (D : Dm K C "sees_kind" "Reader.sees_kind" (sReader 3) ["self", "kind"]) : Gm P w K mg base C 1 "sees_kind" ["self", "kind"] (spSeesKind C) := by
  obtain ⟨f, fd, F, m, b⟩ := D
  refine ⟨f, fd, ?_, b, m⟩
  refine F.ok scSeesKind (fun vs H Q E h => ?_) (fun cdv A outer s H vs Q E hr h => ?_)
  · obtain ⟨p, U, tok, ts, kind, b, rfl, _⟩ := h
    rfl
  obtain ⟨p, U, tok, ts, kind, b, rfl, R, e, q⟩ := h
  obtain ⟨k, a, i, h1, h2, h3, h4, h5, h6, h7, h8, _⟩ := R.next
  refine ⟨_, pss_one (ps_ret (pe_and (pe_cmpR op_lt (pe_fld (pv 0) rfl) (pe_callB call_len_seq rfl T.len PySem.boot_len (pa_cons (pe_fld (pv 0) rfl) pa_nil)) (nomark _))
    (pe_one (pe_cmpR op_eq (pe_ix ix_tup (pe_ix ix_list (pe_fld (pv 0) rfl) (pe_fld (pv 0) rfl) (fun _ _ => rfl)) pe_int (fun _ _ => rfl)) (pv 1) (nomark _))))), ?_⟩
  have hl : (U.as.map V.ref).length = U.as.length := List.length_map _
  have ha : atI (U.as.map V.ref) (k : Int) = some (.ref a) := atI_nat (by rw [List.getElem?_map, h5]; rfl)
  refine ⟨_, rfl, p, C, _, _, _, rfl, h1, T.cl, T.nPlace, rf_place, ?_⟩
  refine ⟨_, rfl, p, C, _, _, _, rfl, h1, T.cl, T.nRest, rf_rest, ?_⟩
  refine ⟨_, _, rfl, .inl (SqL.of h2), _, _, rfl, rfl, _, rfl, ifT (decide_eq_true ?_) ?_⟩
  · show (k : Int) < (((U.as.map V.ref).length : Nat) : Int)
    rw [hl]
    omega
  refine ⟨_, rfl, p, C, _, _, _, rfl, h1, T.cl, T.nRest, rf_rest, ?_⟩
  refine ⟨_, rfl, p, C, _, _, _, rfl, h1, T.cl, T.nPlace, rf_place, ?_⟩
  refine ⟨_, _, _, _, rfl, rfl, SqL.of h2, ha, _, _, _, _, rfl, rfl, SqT.of h6, at_of (j := 0) rfl rfl, _, rfl, rfl, ?_⟩
  have eq1 : decide (V.str (kindS tok) = V.str kind) = decide (kindS tok = kind) := by simp
  show Q (.bl (decide (V.str (kindS tok) = V.str kind))) H
  rw [eq1, e]
  exact q
theorem scAccept : FnScope ["self", "kind", "value"] ["self", "kind", "value"] (defScope (sReader 5)) := ⟨rfl, rfl, rfl, by decide +kernel, rfl, by decide +kernel, by decide +kernel⟩
theorem ok_accept (T : RdT K mg C) (D : Dm K C "accept" "Reader.accept" (sReader 5) ["self", "kind", "value"]) (GS : Gm P w K mg base C 1 "sees" ["self", "kind", "value"] (spSees C)) : Gm P w K mg base C 2 "accept" ["self", "kind", "value"] (spAccept C) := by
  obtain ⟨f, fd, F, m, b⟩ := D
  obtain ⟨f1, fd1, G1, b1, m1⟩ := GS
  refine ⟨f, fd, ?_, b, m⟩
  refine F.ok scAccept (fun vs H Q E h => ?_) (fun cdv A outer s H vs Q E hr h => ?_)
  · obtain ⟨p, U, tok, ts, kind, val, rfl, _⟩ := h
    rfl
  obtain ⟨p, U, tok, ts, kind, val, rfl, R, q⟩ := h
  obtain ⟨k, a, i, h1, h2, h3, h4, h5, h6, h7, h8, h9⟩ := R.next
  refine ⟨_, pss_cons (ps_if (pt_val (pe_meth (pv 0) T.cl m1 G1 hr b1 .nil pass0 (pa_cons (pv 1) (pa_cons (pv 2) pa_nil)))) (pss_cons (ps_fld (pv 0) (pe_op op_add (pe_fld (pv 0) rfl) pe_int) rfl) (pss_one (ps_ret pe_bl))) pss_nil)
    (pss_one (ps_ret pe_bl)), ?_⟩
  rcases q with ⟨e, q⟩ | ⟨e, q⟩
  · exact ⟨_, rfl, p, _, _, rfl, h1, rfl, _, rfl, _, rfl, p, U, tok, ts, kind, val, false, rfl, R, e, false, rfl, ifF rfl q⟩
  · refine ⟨_, rfl, p, _, _, rfl, h1, rfl, _, rfl, _, rfl, p, U, tok, ts, kind, val, true, rfl, R, e, true, rfl, ?_⟩
    refine ifT rfl ⟨_, rfl, p, C, _, _, _, rfl, h1, T.cl, T.nPlace, rf_place, _, _, rfl, rfl, _, rfl, p, C, _, _, rfl, h1, T.cl, T.nPlace, (by show 5 < 1000; decide), ?_⟩
    have x : Ext p H (upd H p (.ins C U.dx (rf U.l U.m ((k : Int) + 1) U.lim))) := fun b o e n => by rw [upd_ne n]; exact e
    exact q _ (h9 _ upd_same x) x
theorem scExpect : FnScope ["self", "kind", "value"] ["self", "kind", "value"] (defScope (sReader 6)) := ⟨rfl, rfl, rfl, by decide +kernel, rfl, by decide +kernel, by decide +kernel⟩
theorem ok_expect (T : RdT K mg C) (D : Dm K C "expect" "Reader.expect" (sReader 6) ["self", "kind", "value"]) (GA : Gm P w K mg base C 2 "accept" ["self", "kind", "value"] (spAccept C)) : Gm P w K mg base C 3 "expect" ["self", "kind", "value"] (spExpect C) := by
  obtain ⟨f, fd, F, m, b⟩ := D
  obtain ⟨f1, fd1, G1, b1, m1⟩ := GA
  refine ⟨f, fd, ?_, b, m⟩
  refine F.ok scExpect (fun vs H Q E h => ?_) (fun cdv A outer s H vs Q E hr h => ?_)
  · obtain ⟨p, U, tok, ts, kind, val, rfl, _⟩ := h
    rfl
  obtain ⟨p, U, tok, ts, kind, val, rfl, R, e, q⟩ := h
  refine ⟨_, pss_one (ps_if (pt_not (pt_val (pe_meth (pv 0) T.cl m1 G1 hr b1 .nil pass0 (pa_cons (pv 1) (pa_cons (pv 2) pa_nil))))) pss_never pss_nil), ?_⟩
  obtain ⟨h1, _⟩ := R.place
  exact ⟨_, rfl, p, _, _, rfl, h1, rfl, _, rfl, _, rfl, p, U, tok, ts, kind, val, rfl, R, .inr ⟨e, fun H' R' x => ⟨_, rfl, ifF rfl (q H' R' x)⟩⟩⟩
theorem scRead : FnScope ["self", "kind"] ["self", "kind"] (defScope (sReader 7)) := ⟨rfl, rfl, rfl, by decide +kernel, rfl, by decide +kernel, by decide +kernel⟩
theorem ok_read (T : RdT K mg C) (D : Dm K C "read" "Reader.read" (sReader 7) ["self", "kind"]) (GS : Gm P w K mg base C 1 "sees_kind" ["self", "kind"] (spSeesKind C)) : Gm P w K mg base C 2 "read" ["self", "kind"] (spRead C) := by
  obtain ⟨f, fd, F, m, b⟩ := D
  obtain ⟨f1, fd1, G1, b1, m1⟩ := GS
  refine ⟨f, fd, ?_, b, m⟩
  refine F.ok scRead (fun vs H Q E h => ?_) (fun cdv A outer s H vs Q E hr h => ?_)
  · obtain ⟨p, U, tok, ts, kind, rfl, _⟩ := h
    rfl
  obtain ⟨p, U, tok, ts, kind, rfl, R, e, q⟩ := h
  obtain ⟨k, a, i, h1, h2, h3, h4, h5, h6, h7, h8, h9⟩ := R.next
  refine ⟨_, pss_cons (ps_if (pt_not (pt_val (pe_meth (pv 0) T.cl m1 G1 hr b1 .nil pass0 (pa_cons (pv 1) pa_nil)))) pss_never pss_nil)
    (pss_cons (ps_fld (pv 0) (pe_op op_add (pe_fld (pv 0) rfl) pe_int) rfl)
    (pss_one (ps_ret (pe_ix ix_tup (pe_ix ix_list (pe_fld (pv 0) rfl) (pe_op op_sub (pe_fld (pv 0) rfl) pe_int) (fun _ _ => rfl)) pe_int (fun _ _ => rfl))))), ?_⟩
  refine ⟨_, rfl, p, _, _, rfl, h1, rfl, _, rfl, p, U, tok, ts, kind, true, rfl, R, decide_eq_true e, _, rfl, ifF rfl ?_⟩
  refine ⟨_, rfl, p, C, _, _, _, rfl, h1, T.cl, T.nPlace, rf_place, _, _, rfl, rfl, _, rfl, p, C, _, _, rfl, h1, T.cl, T.nPlace, (by show 5 < 1000; decide), ?_⟩
  have x : Ext p H (upd H p (.ins C U.dx (rf U.l U.m ((k : Int) + 1) U.lim))) := fun b o e n => by rw [upd_ne n]; exact e
  have R' := h9 _ upd_same x
  have ha : atI (U.as.map V.ref) ((k : Int) + 1 - 1) = some (.ref a) := at_of (j := k) (by omega) (by rw [List.getElem?_map, h5]; rfl)
  have h1' : upd H p (.ins C U.dx (rf U.l U.m ((k : Int) + 1) U.lim)) p = some (.ins C U.dx (rf U.l U.m ((k : Int) + 1) U.lim)) := upd_same
  have h2' := x _ _ h2 (ins_ne' h1 h2)
  have h6' := x _ _ h6 (ins_ne h1 h6)
  refine ⟨_, rfl, p, C, _, _, _, rfl, h1', T.cl, T.nRest, rf_rest, ?_⟩
  refine ⟨_, rfl, p, C, _, _, _, rfl, h1', T.cl, T.nPlace, rf_place, _, _, rfl, rfl, ?_⟩
  refine ⟨_, _, _, _, rfl, rfl, SqL.of h2', ha, _, _, _, _, rfl, rfl, SqT.of h6', at_of (j := 1) rfl rfl, ?_⟩
  exact q _ R' x
theorem scDeeper : FnScope ["self", "level"] ["self", "level"] (defScope (sReader 8)) := ⟨rfl, rfl, rfl, by decide +kernel, rfl, by decide +kernel, by decide +kernel⟩
theorem ok_deeper (T : RdT K mg C) (D : Dm K C "deeper" "Reader.deeper" (sReader 8) ["self", "level"]) : Gm P w K mg base C 1 "deeper" ["self", "level"] spDeeper := by
  obtain ⟨f, fd, F, m, b⟩ := D
  obtain ⟨tN, mN⟩ := T.nest
  refine ⟨f, fd, ?_, b, m⟩
  refine F.ok scDeeper (fun vs H Q E h => ?_) (fun cdv A outer s H vs Q E hr h => ?_)
  · obtain ⟨x, lv, rfl, _⟩ := h
    rfl
  obtain ⟨x, lv, rfl, hl, q⟩ := h
  refine ⟨_, pss_cons (ps_if (pt_cmpR op_ge (pv 1) (pe_gint rfl mN) (nomark _)) pss_never pss_nil) (pss_one (ps_ret (pe_op op_add (pv 1) pe_int))), ?_⟩
  exact ⟨_, rfl, _, _, rfl, rfl, _, rfl, ifF (decide_eq_false (by omega)) ⟨_, rfl, _, _, rfl, rfl, q⟩⟩
/-- a reader is made -/
def spInit (C : Addr) : Sp := fun vs H Q _ => ∃ (p dx : Addr) (z m : Str) (ts : List (Tok × Nat)), vs = [.ref p, .str z, .str m] ∧ H p = some (.ins C dx []) ∧ z.length ≤ 20000 ∧ LexR (tl z) 0 ts ∧
  ∀ (U : RT) (H' : Hp), U.toks = ts → RdAt C H' p U (ts.map (·.1)) → Ext p H H' → Q .non H'
theorem scInit : FnScope ["self", "text", "module"] ["self", "text", "module"] (defScope (sReader 0)) := ⟨rfl, rfl, rfl, by decide +kernel, rfl, by decide +kernel, by decide +kernel⟩
theorem ok_init {f : Addr} {fd : FuncData} (T : RdT K mg C) (F : Fun K "__init__" "Reader.__init__" (sReader 0) f fd) (GT : Gf P w K mg base 6 "tokens" ["text", "module"] spTokens) : FnOk P w K mg base CX0 7 f fd ["self", "text", "module"] (spInit C) := by
  obtain ⟨f1, fd1, G1, b1, k1, m1⟩ := GT
  refine F.ok scInit (fun vs H Q E h => ?_) (fun cdv A outer s H vs Q E hr h => ?_)
  · obtain ⟨p, dx, z, m, ts, rfl, _⟩ := h
    rfl
  obtain ⟨p, dx, z, m, ts, rfl, hp, hz, hx, q⟩ := h
  refine ⟨_, pss_cons (ps_fld (pv 0) (pe_call G1 hr rfl m1 k1 b1 .nil pass0 (pa_cons (pv 1) (pa_cons (pv 2) pa_nil))) rfl)
    (pss_cons (ps_fld (pv 0) (pv 2) rfl)
    (pss_cons (ps_fld (pv 0) pe_int rfl)
    (pss_cons (ps_fld (pv 0) (pe_callB call_len_str rfl T.len PySem.boot_len (pa_cons (pv 1) pa_nil)) rfl)
    (pss_one (ps_fld (pv 0) pe_int rfl))))), ?_⟩
  refine ⟨_, rfl, _, rfl, z, m, ts, rfl, hz, hx, fun l as H1 hS hl hL hA hlen => ?_⟩
  have hp1 := hS _ _ hp
  refine ⟨_, rfl, p, C, dx, _, rfl, hp1, T.cl, T.nRest, (by show 0 < 1000; decide), ?_⟩
  refine ⟨_, rfl, _, rfl, p, C, dx, _, rfl, upd_same, T.cl, T.nMod, (by show 1 < 1000; decide), ?_⟩
  refine ⟨_, rfl, p, C, dx, _, rfl, upd_same, T.cl, T.nPlace, (by show 2 < 1000; decide), ?_⟩
  refine ⟨_, rfl, z, rfl, small_line hz, _, rfl, p, C, dx, _, rfl, upd_same, T.cl, T.nLim, (by show 3 < 1000; decide), ?_⟩
  refine ⟨_, rfl, p, C, dx, _, rfl, upd_same, T.cl, T.nIn, (by show 4 < 1000; decide), ?_⟩
  rw [upd_upd, upd_upd, upd_upd, upd_upd]
  have npl : l ≠ p := fun e => by rw [e, hp1] at hL; cases hL
  refine q ⟨l, dx, as, ts, m, z.length⟩ _ rfl ⟨0, upd_same, by rw [upd_ne npl]; exact hL, hA.mono fun a xs e => ?_, by show ts.length ≤ 20000; omega, rfl, Nat.zero_le _⟩ fun b o e n => ?_
  · rw [upd_ne fun z => by rw [z, hp1] at e; cases e]
    exact e
  · rw [upd_ne n]
    exact hS _ _ e
end
end K2
set_option maxRecDepth 100000
set_option maxHeartbeats 4000000
/-! The walk of the parser: expressions. -/
namespace K2
open PySem L2 TL
/-- a tree as it stands -/
def TreeAt (H : Hp) : V → Tree → Prop
  | v, .int n => ∃ a, v = .ref a ∧ H a = some (.tup [.str "int", .int n])
  | v, .bool b => ∃ a, v = .ref a ∧ H a = some (.tup [.str "bool", .bl b])
  | v, .var x => ∃ a, v = .ref a ∧ H a = some (.tup [.str "var", .str x])
  | v, .member s x => ∃ a, v = .ref a ∧ H a = some (.tup [.str "member", .str s, .str x])
  | v, .neg t => ∃ a y, v = .ref a ∧ H a = some (.tup [.str "not", y]) ∧ TreeAt H y t
  | v, .bin g t u => ∃ a y z, v = .ref a ∧ H a = some (.tup [.str g.head, y, z]) ∧ TreeAt H y t ∧ TreeAt H z u
  | v, .call f t u => ∃ a q y z x, v = .ref a ∧ H a = some (.tup [.str "call", x, .ref q]) ∧ H q = some (.tup [y, z]) ∧ TreeAt H x f ∧ TreeAt H y t ∧ TreeAt H z u
theorem TreeAt.mono {H H' : Hp} (k : ∀ a xs, H a = some (.tup xs) → H' a = some (.tup xs)) : ∀ {t : Tree} {v : V}, TreeAt H v t → TreeAt H' v t
  | .int _, _, ⟨a, e, h⟩ => ⟨a, e, k _ _ h⟩
  | .bool _, _, ⟨a, e, h⟩ => ⟨a, e, k _ _ h⟩
  | .var _, _, ⟨a, e, h⟩ => ⟨a, e, k _ _ h⟩
  | .member _ _, _, ⟨a, e, h⟩ => ⟨a, e, k _ _ h⟩
  | .neg _, _, ⟨a, y, e, h, h1⟩ => ⟨a, y, e, k _ _ h, TreeAt.mono k h1⟩
  | .bin _ _ _, _, ⟨a, y, z, e, h, h1, h2⟩ => ⟨a, y, z, e, k _ _ h, TreeAt.mono k h1, TreeAt.mono k h2⟩
  | .call _ _ _, _, ⟨a, q, y, z, x, e, h, h0, h1, h2, h3⟩ => ⟨a, q, y, z, x, e, k _ _ h, k _ _ h0, TreeAt.mono k h1, TreeAt.mono k h2, TreeAt.mono k h3⟩
theorem TreeAt.same {H H' : Hp} {t : Tree} {v : V} (h : TreeAt H v t) (s : Same H H') : TreeAt H' v t := h.mono fun _ _ e => s _ _ e
theorem RdAt.tups {C : Addr} {H H' : Hp} {p : Addr} {U : RT} {ts : List Tok} (R : RdAt C H p U ts) (x : Ext p H H') : ∀ a xs, H a = some (.tup xs) → H' a = some (.tup xs) := fun _ _ e => x _ _ e (ins_ne R.place.1 e)
theorem Same.one {H : Hp} {p : Addr} {o : HO} (h : H p = none) : Same H (upd H p o) := fun b u e => by
  rw [upd_ne (ne_of_none e h)]
  exact e
/-- a list of another's grows -/
theorem RdAt.other {C : Addr} {H : Hp} {p l : Addr} {U : RT} {ts : List Tok} {xs ys : List V} (h : RdAt C H p U ts) (hp : l ≠ p) (hU : l ≠ U.l) (hl : H l = some (.lst xs)) : RdAt C (upd H l (.lst ys)) p U ts := by
  obtain ⟨k, h1, h2, h3, h4⟩ := h
  refine ⟨k, by rw [upd_ne hp.symm]; exact h1, by rw [upd_ne hU.symm]; exact h2, h3.mono fun a zs e => ?_, h4⟩
  rw [upd_ne fun z => by rw [z, hl] at e; cases e]
  exact e
theorem tups_lst {H : Hp} {l : Addr} {xs ys : List V} (hl : H l = some (.lst xs)) : ∀ a zs, H a = some (.tup zs) → upd H l (.lst ys) a = some (.tup zs) := fun a zs e => by
  rw [upd_ne fun z => by rw [z, hl] at e; cases e]
  exact e
/-- the promise of a def that reads by the relation Rel -/
def spR (C : Addr) (Rel : R) : Sp := fun vs H Q _ => ∃ (p : Addr) (U : RT) (lv : Nat) (ts : List Tok) (t : Tree) (ts' : List Tok), vs = [.ref p, .int lv] ∧ RdAt C H p U ts ∧ Rel lv ts t ts' ∧
  ∀ v H', RdAt C H' p U ts' → Ext p H H' → TreeAt H' v t → Q v H'
def spArgs (C : Addr) (E : R) : Sp := fun vs H Q _ => ∃ (p : Addr) (U : RT) (lv : Nat) (ts : List Tok) (a b : Tree) (ts' : List Tok), vs = [.ref p, .int lv] ∧ RdAt C H p U ts ∧ Args2 E lv ts a b ts' ∧
  ∀ q x y H', RdAt C H' p U ts' → Ext p H H' → H' q = some (.tup [x, y]) → TreeAt H' x a → TreeAt H' y b → Q (.ref q) H'
/-- the reader's methods, callable at a level -/
structure Ms (P : Program) (w : World) (K : PySem.W.Frag) (mg : Str → Option Value) (base : Heap) (C : Addr) (k : Nat) : Prop where
  rd : RdT K mg C
  at_ : Gm P w K mg base C k "at" ["self"] (spAt C)
  sees : Gm P w K mg base C k "sees" ["self", "kind", "value"] (spSees C)
  seesK : Gm P w K mg base C k "sees_kind" ["self", "kind"] (spSeesKind C)
  accept : Gm P w K mg base C k "accept" ["self", "kind", "value"] (spAccept C)
  expect : Gm P w K mg base C k "expect" ["self", "kind", "value"] (spExpect C)
  read : Gm P w K mg base C k "read" ["self", "kind"] (spRead C)
  deeper : Gm P w K mg base C k "deeper" ["self", "level"] spDeeper
theorem Ms.up {P : Program} {w : World} {K : PySem.W.Frag} {mg : Str → Option Value} {base : Heap} {C : Addr} {j k : Nat} (h : Ms P w K mg base C j) (hk : j ≤ k) : Ms P w K mg base C k :=
  ⟨h.rd, h.at_.up hk, h.sees.up hk, h.seesK.up hk, h.accept.up hk, h.expect.up hk, h.read.up hk, h.deeper.up hk⟩
theorem lev4 {g : Sg} (h : atLev 4 g) : g = .mul := by cases g <;> first | rfl | cases h
theorem lev3 {g : Sg} (h : atLev 3 g) : g = .add ∨ g = .sub := by cases g <;> first | exact .inl rfl | exact .inr rfl | cases h
theorem lev2 {g : Sg} (h : atLev 2 g) : g = .lt ∨ g = .eq := by cases g <;> first | exact .inl rfl | exact .inr rfl | cases h
theorem lev1 {g : Sg} (h : atLev 1 g) : g = .and := by cases g <;> first | rfl | cases h
theorem lev0 {g : Sg} (h : atLev 0 g) : g = .or := by cases g <;> first | rfl | cases h
section
variable {P : Program} {w : World} {K : PySem.W.Frag} {mg : Str → Option Value} {base : Heap} {C : Addr} {k : Nat}
theorem scPrim : FnScope ["reader", "level", "at", "inner", "parameters", "name"] ["reader", "level"] (defScope sPrim) := ⟨rfl, rfl, rfl, by decide +kernel, rfl, by decide +kernel, by decide +kernel⟩
theorem ok_prim {S : R} (M : Ms P w K mg base C k) (D : Df K mg "read_primary" sPrim ["reader", "level"]) (GE : Gf P w K mg base k "read_expression" ["reader", "level"] (spR C S)) : Gf P w K mg base (k + 1) "read_primary" ["reader", "level"] (spR C (Prim S)) := by
  obtain ⟨f, fd, F, m, b⟩ := D
  obtain ⟨f1, fd1, G1, b1, k1, m1⟩ := GE
  obtain ⟨ft, fdt, Gt, bt, mt⟩ := M.at_
  obtain ⟨fQ, fdQ, GQ, bQ, mQ⟩ := M.seesK
  obtain ⟨fA, fdA, GA, bA, mA⟩ := M.accept
  obtain ⟨fX, fdX, GX, bX, mX⟩ := M.expect
  obtain ⟨fR, fdR, GR, bR, mR⟩ := M.read
  obtain ⟨fD, fdD, GD, bD, mD⟩ := M.deeper
  refine ⟨f, fd, ?_, b, F.kp, m⟩
  refine F.ok scPrim (fun vs H Q E h => ?_) (fun cdv A outer s H vs Q E hr h => ?_)
  · obtain ⟨p, U, lv, ts, t, ts', rfl, _⟩ := h
    rfl
  obtain ⟨p, U, lv, ts, t, ts', rfl, R, hrel, q⟩ := h
  refine ⟨_, pss_cons (ps_set (i := 2) scPrim.nd rfl (Or.inl rfl) (pe_meth0 (pv 0) M.rd.cl mt Gt hr bt .nil pass0))
    (pss_cons (ps_if (pt_val (pe_meth (pv 0) M.rd.cl mA GA hr bA .nil pass0 (pa_cons pe_str (pa_cons pe_str pa_nil)))) (pss_one (ps_ret (pe_tup (pa_cons pe_str (pa_cons pe_bl pa_nil))))) pss_nil)
    (pss_cons (ps_if (pt_val (pe_meth (pv 0) M.rd.cl mA GA hr bA .nil pass0 (pa_cons pe_str (pa_cons pe_str pa_nil)))) pss_never pss_nil)
    (pss_cons (ps_if (pt_val (pe_meth (pv 0) M.rd.cl mA GA hr bA .nil pass0 (pa_cons pe_str (pa_cons pe_str pa_nil)))) pss_never pss_nil)
    (pss_cons (ps_if (pt_val (pe_meth (pv 0) M.rd.cl mA GA hr bA .nil pass0 (pa_cons pe_str (pa_cons pe_str pa_nil)))) pss_never pss_nil)
    (pss_cons (ps_if (pt_val (pe_meth (pv 0) M.rd.cl mA GA hr bA .nil pass0 (pa_cons pe_str (pa_cons pe_str pa_nil)))) pss_never pss_nil)
    (pss_cons (ps_if (pt_val (pe_meth (pv 0) M.rd.cl mA GA hr bA .nil pass0 (pa_cons pe_str (pa_cons pe_str pa_nil))))
      (pss_cons (ps_set (i := 3) scPrim.nd rfl (Or.inl rfl) (pe_call G1 hr rfl m1 k1 b1 .nil pass0 (pa_cons (pv 0) (pa_cons (pe_meth (pv 0) M.rd.cl mD GD hr bD .nil pass0 (pa_cons (pv 1) pa_nil)) pa_nil))))
      (pss_cons (ps_expr (pe_meth (pv 0) M.rd.cl mX GX hr bX .nil pass0 (pa_cons pe_str (pa_cons pe_str pa_nil)))) (pss_one (ps_ret (pv 3))))) pss_nil)
    (pss_cons (ps_if (pt_val (pe_meth (pv 0) M.rd.cl mQ GQ hr bQ .nil pass0 (pa_cons pe_str pa_nil))) (pss_one (ps_ret (pe_tup (pa_cons pe_str (pa_cons (pe_meth (pv 0) M.rd.cl mR GR hr bR .nil pass0 (pa_cons pe_str pa_nil)) pa_nil))))) pss_nil)
    (pss_cons (ps_set (i := 5) scPrim.nd rfl (Or.inl rfl) (pe_meth (pv 0) M.rd.cl mR GR hr bR .nil pass0 (pa_cons pe_str pa_nil)))
    (pss_cons (ps_if (pt_val (pe_meth (pv 0) M.rd.cl mA GA hr bA .nil pass0 (pa_cons pe_str (pa_cons pe_str pa_nil)))) (pss_one (ps_ret (pe_tup (pa_cons pe_str (pa_cons (pv 5) (pa_cons (pe_meth (pv 0) M.rd.cl mR GR hr bR .nil pass0 (pa_cons pe_str pa_nil)) pa_nil)))))) pss_nil)
    (pss_one (ps_ret (pe_tup (pa_cons pe_str (pa_cons (pv 5) pa_nil)))))))))))))), ?_⟩
  have hp := R.place.1
  cases hrel with
  | tru _ r =>
    refine ⟨_, rfl, p, _, _, rfl, hp, rfl, p, U, _, _, rfl, R, fun i _ => ?_⟩
    refine ⟨_, rfl, p, _, _, rfl, hp, rfl, p, U, _, _, _, _, rfl, R, .inr ⟨tok_word _, fun H1 R1 x1 => ⟨_, rfl, ifT rfl ⟨(by show 2 ≤ sizeLine; decide), fun a ha => ?_⟩⟩⟩⟩
    exact q _ _ (R1.same (Same.one ha)) (x1.trans (.of (Same.one ha))) ⟨a, rfl, upd_same⟩
  | par _ r t r' hlv hE =>
    refine ⟨_, rfl, p, _, _, rfl, hp, rfl, p, U, _, _, rfl, R, fun i _ => ?_⟩
    refine ⟨_, rfl, p, _, _, rfl, hp, rfl, p, U, _, _, _, _, rfl, R, .inl ⟨tok_word_no (by intro h; cases h), _, rfl, ifF rfl ?_⟩⟩
    refine ⟨_, rfl, p, _, _, rfl, hp, rfl, p, U, _, _, _, _, rfl, R, .inl ⟨tok_word_no (by intro h; cases h), _, rfl, ifF rfl ?_⟩⟩
    refine ⟨_, rfl, p, _, _, rfl, hp, rfl, p, U, _, _, _, _, rfl, R, .inl ⟨tok_word_no (by intro h; cases h), _, rfl, ifF rfl ?_⟩⟩
    refine ⟨_, rfl, p, _, _, rfl, hp, rfl, p, U, _, _, _, _, rfl, R, .inl ⟨tok_word_no (by intro h; cases h), _, rfl, ifF rfl ?_⟩⟩
    refine ⟨_, rfl, p, _, _, rfl, hp, rfl, p, U, _, _, _, _, rfl, R, .inl ⟨tok_word_no (by intro h; cases h), _, rfl, ifF rfl ?_⟩⟩
    refine ⟨_, rfl, p, _, _, rfl, hp, rfl, p, U, _, _, _, _, rfl, R, .inr ⟨tok_sign _, fun H1 R1 x1 => ⟨_, rfl, ifT rfl ?_⟩⟩⟩
    refine ⟨_, rfl, _, rfl, p, _, _, rfl, R1.place.1, rfl, _, rfl, _, lv, rfl, hlv, p, U, lv + 1, r, t, _, rfl, R1, hE, fun v H2 R2 x2 tr2 => ?_⟩
    refine ⟨_, rfl, p, _, _, rfl, R2.place.1, rfl, p, U, _, _, _, _, rfl, R2, tok_sign _, fun H3 R3 x3 => ⟨_, rfl, ?_⟩⟩
    exact q v H3 R3 (x1.trans (x2.trans x3)) (tr2.mono (R2.tups x3))
  | num _ n r =>
    refine ⟨_, rfl, p, _, _, rfl, hp, rfl, p, U, _, _, rfl, R, fun i _ => ?_⟩
    refine ⟨_, rfl, p, _, _, rfl, hp, rfl, p, U, _, _, _, _, rfl, R, .inl ⟨tok_word_no (by intro h; cases h), _, rfl, ifF rfl ?_⟩⟩
    refine ⟨_, rfl, p, _, _, rfl, hp, rfl, p, U, _, _, _, _, rfl, R, .inl ⟨tok_word_no (by intro h; cases h), _, rfl, ifF rfl ?_⟩⟩
    refine ⟨_, rfl, p, _, _, rfl, hp, rfl, p, U, _, _, _, _, rfl, R, .inl ⟨tok_word_no (by intro h; cases h), _, rfl, ifF rfl ?_⟩⟩
    refine ⟨_, rfl, p, _, _, rfl, hp, rfl, p, U, _, _, _, _, rfl, R, .inl ⟨tok_word_no (by intro h; cases h), _, rfl, ifF rfl ?_⟩⟩
    refine ⟨_, rfl, p, _, _, rfl, hp, rfl, p, U, _, _, _, _, rfl, R, .inl ⟨tok_word_no (by intro h; cases h), _, rfl, ifF rfl ?_⟩⟩
    refine ⟨_, rfl, p, _, _, rfl, hp, rfl, p, U, _, _, _, _, rfl, R, .inl ⟨tok_sign_no (by intro h; cases h), _, rfl, ifF rfl ?_⟩⟩
    refine ⟨_, rfl, p, _, _, rfl, hp, rfl, p, U, _, _, _, true, rfl, R, decide_eq_true rfl, _, rfl, ifT rfl ?_⟩
    refine ⟨_, rfl, p, _, _, rfl, hp, rfl, p, U, _, _, _, rfl, R, rfl, fun H1 R1 x1 => ⟨(by show 2 ≤ sizeLine; decide), fun a ha => ?_⟩⟩
    exact q _ _ (R1.same (Same.one ha)) (x1.trans (.of (Same.one ha))) ⟨a, rfl, upd_same⟩
  | var _ x c r hc =>
    refine ⟨_, rfl, p, _, _, rfl, hp, rfl, p, U, _, _, rfl, R, fun i _ => ?_⟩
    refine ⟨_, rfl, p, _, _, rfl, hp, rfl, p, U, _, _, _, _, rfl, R, .inl ⟨tok_word_no (by intro h; cases h), _, rfl, ifF rfl ?_⟩⟩
    refine ⟨_, rfl, p, _, _, rfl, hp, rfl, p, U, _, _, _, _, rfl, R, .inl ⟨tok_word_no (by intro h; cases h), _, rfl, ifF rfl ?_⟩⟩
    refine ⟨_, rfl, p, _, _, rfl, hp, rfl, p, U, _, _, _, _, rfl, R, .inl ⟨tok_word_no (by intro h; cases h), _, rfl, ifF rfl ?_⟩⟩
    refine ⟨_, rfl, p, _, _, rfl, hp, rfl, p, U, _, _, _, _, rfl, R, .inl ⟨tok_word_no (by intro h; cases h), _, rfl, ifF rfl ?_⟩⟩
    refine ⟨_, rfl, p, _, _, rfl, hp, rfl, p, U, _, _, _, _, rfl, R, .inl ⟨tok_word_no (by intro h; cases h), _, rfl, ifF rfl ?_⟩⟩
    refine ⟨_, rfl, p, _, _, rfl, hp, rfl, p, U, _, _, _, _, rfl, R, .inl ⟨tok_sign_no (by intro h; cases h), _, rfl, ifF rfl ?_⟩⟩
    refine ⟨_, rfl, p, _, _, rfl, hp, rfl, p, U, _, _, _, false, rfl, R, (show decide (("name" : Str) = "number") = false by decide +kernel), _, rfl, ifF rfl ?_⟩
    refine ⟨_, rfl, p, _, _, rfl, hp, rfl, p, U, _, _, _, rfl, R, rfl, fun H1 R1 x1 => ?_⟩
    refine ⟨_, rfl, p, _, _, rfl, R1.place.1, rfl, p, U, _, _, _, _, rfl, R1, .inl ⟨tok_sign_no hc, _, rfl, ifF rfl ?_⟩⟩
    refine ⟨_, rfl, (by show 2 ≤ sizeLine; decide), fun a ha => ?_⟩
    exact q _ _ (R1.same (Same.one ha)) (x1.trans (.of (Same.one ha))) ⟨a, rfl, upd_same⟩
  | mem _ x y r =>
    refine ⟨_, rfl, p, _, _, rfl, hp, rfl, p, U, _, _, rfl, R, fun i _ => ?_⟩
    refine ⟨_, rfl, p, _, _, rfl, hp, rfl, p, U, _, _, _, _, rfl, R, .inl ⟨tok_word_no (by intro h; cases h), _, rfl, ifF rfl ?_⟩⟩
    refine ⟨_, rfl, p, _, _, rfl, hp, rfl, p, U, _, _, _, _, rfl, R, .inl ⟨tok_word_no (by intro h; cases h), _, rfl, ifF rfl ?_⟩⟩
    refine ⟨_, rfl, p, _, _, rfl, hp, rfl, p, U, _, _, _, _, rfl, R, .inl ⟨tok_word_no (by intro h; cases h), _, rfl, ifF rfl ?_⟩⟩
    refine ⟨_, rfl, p, _, _, rfl, hp, rfl, p, U, _, _, _, _, rfl, R, .inl ⟨tok_word_no (by intro h; cases h), _, rfl, ifF rfl ?_⟩⟩
    refine ⟨_, rfl, p, _, _, rfl, hp, rfl, p, U, _, _, _, _, rfl, R, .inl ⟨tok_word_no (by intro h; cases h), _, rfl, ifF rfl ?_⟩⟩
    refine ⟨_, rfl, p, _, _, rfl, hp, rfl, p, U, _, _, _, _, rfl, R, .inl ⟨tok_sign_no (by intro h; cases h), _, rfl, ifF rfl ?_⟩⟩
    refine ⟨_, rfl, p, _, _, rfl, hp, rfl, p, U, _, _, _, false, rfl, R, (show decide (("name" : Str) = "number") = false by decide +kernel), _, rfl, ifF rfl ?_⟩
    refine ⟨_, rfl, p, _, _, rfl, hp, rfl, p, U, _, _, _, rfl, R, rfl, fun H1 R1 x1 => ?_⟩
    refine ⟨_, rfl, p, _, _, rfl, R1.place.1, rfl, p, U, _, _, _, _, rfl, R1, .inr ⟨tok_sign _, fun H2 R2 x2 => ⟨_, rfl, ifT rfl ?_⟩⟩⟩
    refine ⟨_, rfl, _, rfl, p, _, _, rfl, R2.place.1, rfl, p, U, _, _, _, rfl, R2, rfl, fun H3 R3 x3 => ⟨(by show 3 ≤ sizeLine; decide), fun a ha => ?_⟩⟩
    exact q _ _ (R3.same (Same.one ha)) ((x1.trans (x2.trans x3)).trans (.of (Same.one ha))) ⟨a, rfl, upd_same⟩

theorem scArgs : FnScope ["reader", "level", "result"] ["reader", "level"] (defScope sArgs) := ⟨rfl, rfl, rfl, by decide +kernel, rfl, by decide +kernel, by decide +kernel⟩
theorem ok_args {S : R} (M : Ms P w K mg base C k) (hT : mg "tuple" = none) (D : Df K mg "read_arguments" sArgs ["reader", "level"]) (GE : Gf P w K mg base k "read_expression" ["reader", "level"] (spR C S)) : Gf P w K mg base (k + 1) "read_arguments" ["reader", "level"] (spArgs C S) := by
  obtain ⟨f, fd, F, m, b⟩ := D
  obtain ⟨f1, fd1, G1, b1, k1, m1⟩ := GE
  obtain ⟨fA, fdA, GA, bA, mA⟩ := M.accept
  obtain ⟨fX, fdX, GX, bX, mX⟩ := M.expect
  obtain ⟨fD, fdD, GD, bD, mD⟩ := M.deeper
  refine ⟨f, fd, ?_, b, F.kp, m⟩
  refine F.ok scArgs (fun vs H Q E h => ?_) (fun cdv A outer s H vs Q E hr h => ?_)
  · obtain ⟨p, U, lv, ts, t, u, ts', rfl, _⟩ := h
    rfl
  obtain ⟨p, U, lv, ts, t, u, ts', rfl, R, hrel, q⟩ := h
  refine ⟨_, pss_cons (ps_set (i := 2) scArgs.nd rfl (Or.inl rfl) (pe_lst pa_nil))
    (pss_cons (ps_if (pt_not (pt_val (pe_meth (pv 0) M.rd.cl mA GA hr bA .nil pass0 (pa_cons pe_str (pa_cons pe_str pa_nil)))))
      (pss_cons (ps_expr (pe_bm PySem.F.plainAttrs_list PySem.F.slot_list_append PySem.F.type_list_append mt_append (pv 2) (pa_cons (pe_call G1 hr rfl m1 k1 b1 .nil pass0 (pa_cons (pv 0) (pa_cons (pe_meth (pv 0) M.rd.cl mD GD hr bD .nil pass0 (pa_cons (pv 1) pa_nil)) pa_nil))) pa_nil)))
      (pss_cons (ps_while PassesOwn.never (pt_val (pe_meth (pv 0) M.rd.cl mA GA hr bA .nil pass0 (pa_cons pe_str (pa_cons pe_str pa_nil))))
        (pss_one (ps_expr (pe_bm PySem.F.plainAttrs_list PySem.F.slot_list_append PySem.F.type_list_append mt_append (pv 2) (pa_cons (pe_call G1 hr rfl m1 k1 b1 .nil pass0 (pa_cons (pv 0) (pa_cons (pe_meth (pv 0) M.rd.cl mD GD hr bD .nil pass0 (pa_cons (pv 1) pa_nil)) pa_nil))) pa_nil)))))
      (pss_one (ps_expr (pe_meth (pv 0) M.rd.cl mX GX hr bX .nil pass0 (pa_cons pe_str (pa_cons pe_str pa_nil))))))) pss_nil)
    (pss_one (ps_ret (pe_callTy call_tuple_of rfl hT (by decide +kernel) (pa_cons (pv 2) pa_nil))))), ?_⟩
  cases hrel with
  | mk c ts0 _ r1 _ _ hc hlv h1 h2 =>
    refine ⟨(by show 0 ≤ sizeLine; decide), fun l hl => ?_⟩
    have R0 := R.same (Same.one (o := .lst []) hl)
    have hpl : l ≠ p := (ne_of_none R.place.1 hl).symm
    have hUl : l ≠ U.l := (ne_of_none R.place.2.1 hl).symm
    refine ⟨_, rfl, p, _, _, rfl, R0.place.1, rfl, p, U, _, _, _, _, rfl, R0, .inl ⟨tok_sign_no hc, _, rfl, ifT rfl ?_⟩⟩
    refine ⟨_, rfl, .inl ⟨rfl, _, SqL.of upd_same⟩, _, rfl, _, rfl, p, _, _, rfl, R0.place.1, rfl, _, rfl, _, lv, rfl, hlv, p, U, lv + 1, _, t, _, rfl, R0, h1, fun v1 H1 R1 x1 tr1 => ?_⟩
    have hl1 := x1 _ _ upd_same hpl
    refine ⟨l, _, _, rfl, rfl, hl1, (by show 0 < sizeLine; decide), ?_⟩
    have e1 : ∀ b o, H b = some o → b ≠ p → upd H1 l (.lst [v1]) b = some o := fun b o e n => by
      have nb : b ≠ l := ne_of_none e hl
      rw [upd_ne nb]
      exact x1 _ _ (by rw [upd_ne nb]; exact e) n
    refine ⟨fun n st H' => st = [some (.ref p), some (.int lv), some (.ref l)] ∧ Ext p H H' ∧ ((n = 1 ∧ ∃ v1, RdAt C H' p U (.sign "," :: r1) ∧ H' l = some (.lst [v1]) ∧ TreeAt H' v1 t) ∨ (n = 0 ∧ ∃ v1 v2, RdAt C H' p U (.sign ")" :: ts') ∧ H' l = some (.lst [v1, v2]) ∧ TreeAt H' v1 t ∧ TreeAt H' v2 u)),
      ⟨1, rfl, e1, .inl ⟨rfl, v1, R1.other hpl hUl hl1, upd_same, tr1.mono (tups_lst hl1)⟩⟩, ?_⟩
    rintro n st H' ⟨rfl, x', ⟨rfl, w1, R', hl', tr'⟩ | ⟨rfl, w1, w2, R', hl', tr', tr2'⟩⟩
    · refine ⟨_, rfl, p, _, _, rfl, R'.place.1, rfl, p, U, _, _, _, _, rfl, R', .inr ⟨tok_sign _, fun H2 R2 x2 => ⟨_, rfl, ifT rfl ?_⟩⟩⟩
      have hl2 := x2 _ _ hl' hpl
      refine ⟨fun st H3 => st = [some (.ref p), some (.int lv), some (.ref l)] ∧ Ext p H H3 ∧ ∃ v2, RdAt C H3 p U (.sign ")" :: ts') ∧ H3 l = some (.lst [w1, v2]) ∧ TreeAt H3 w1 t ∧ TreeAt H3 v2 u, fun st H3 ⟨a1, a2, a3⟩ => ⟨0, Nat.lt_succ_self 0, a1, a2, .inr ⟨rfl, w1, a3⟩⟩, ?_⟩
      refine ⟨_, rfl, .inl ⟨rfl, _, SqL.of hl2⟩, _, rfl, _, rfl, p, _, _, rfl, R2.place.1, rfl, _, rfl, _, lv, rfl, hlv, p, U, lv + 1, _, u, _, rfl, R2, h2, fun v2 H3 R3 x3 tr3 => ?_⟩
      have hl3 := x3 _ _ hl2 hpl
      refine ⟨l, _, _, rfl, rfl, hl3, (by show 1 < sizeLine; decide), rfl, fun b o e n => ?_, v2, R3.other hpl hUl hl3, upd_same, ((tr'.mono (R'.tups x2)).mono (R2.tups x3)).mono (tups_lst hl3), tr3.mono (tups_lst hl3)⟩
      rw [upd_ne (ne_of_none e hl)]
      exact x3 _ _ (x2 _ _ (x' _ _ e n) n) n
    · refine ⟨_, rfl, p, _, _, rfl, R'.place.1, rfl, p, U, _, _, _, _, rfl, R', .inl ⟨tok_sign_no (sign_ne (by decide +kernel)), _, rfl, ifF rfl ?_⟩⟩
      refine ⟨_, rfl, p, _, _, rfl, R'.place.1, rfl, p, U, _, _, _, _, rfl, R', tok_sign _, fun H2 R2 x2 => ?_⟩
      have hl2 := x2 _ _ hl' hpl
      refine ⟨_, rfl, l, _, rfl, .inl ⟨SqL.of hl2, fun a ha => ?_⟩⟩
      exact q a w1 w2 _ (R2.same (Same.one ha)) ((x'.trans x2).trans (.of (Same.one ha))) upd_same ((tr'.mono (R'.tups x2)).same (Same.one ha)) ((tr2'.mono (R'.tups x2)).same (Same.one ha))

theorem scCall : FnScope ["reader", "level", "result"] ["reader", "level"] (defScope sCall) := ⟨rfl, rfl, rfl, by decide +kernel, rfl, by decide +kernel, by decide +kernel⟩
theorem ok_call {S Pr : R} (M : Ms P w K mg base C k) (D : Df K mg "read_call" sCall ["reader", "level"]) (GP : Gf P w K mg base k "read_primary" ["reader", "level"] (spR C Pr)) (GA : Gf P w K mg base k "read_arguments" ["reader", "level"] (spArgs C S)) : Gf P w K mg base (k + 1) "read_call" ["reader", "level"] (spR C (CallR S Pr)) := by
  obtain ⟨f, fd, F, m, b⟩ := D
  obtain ⟨f1, fd1, G1, b1, k1, m1⟩ := GP
  obtain ⟨f2, fd2, G2, b2, k2, m2⟩ := GA
  obtain ⟨fA, fdA, GA, bA, mA⟩ := M.accept
  obtain ⟨fD, fdD, GD, bD, mD⟩ := M.deeper
  refine ⟨f, fd, ?_, b, F.kp, m⟩
  refine F.ok scCall (fun vs H Q E h => ?_) (fun cdv A outer s H vs Q E hr h => ?_)
  · obtain ⟨p, U, lv, ts, t, ts', rfl, _⟩ := h
    rfl
  obtain ⟨p, U, lv, ts, t, ts', rfl, R, hrel, q⟩ := h
  obtain ⟨t1, ts1, n, hsub, hloop⟩ := hrel
  refine ⟨_, pss_cons (ps_set (i := 2) scCall.nd rfl (Or.inl rfl) (pe_call G1 hr rfl m1 k1 b1 .nil pass0 (pa_cons (pv 0) (pa_cons (pv 1) pa_nil))))
    (pss_cons (ps_while PassesOwn.never (pt_val (pe_meth (pv 0) M.rd.cl mA GA hr bA .nil pass0 (pa_cons pe_str (pa_cons pe_str pa_nil))))
      (pss_cons (ps_set (i := 1) scCall.nd rfl (Or.inl rfl) (pe_meth (pv 0) M.rd.cl mD GD hr bD .nil pass0 (pa_cons (pv 1) pa_nil)))
      (pss_one (ps_set (i := 2) scCall.nd rfl (Or.inl rfl) (pe_tup (pa_cons pe_str (pa_cons (pv 2) (pa_cons (pe_call G2 hr rfl m2 k2 b2 .nil pass0 (pa_cons (pv 0) (pa_cons (pv 1) pa_nil))) pa_nil))))))))
    (pss_one (ps_ret (pv 2)))), ?_⟩
  refine ⟨_, rfl, _, rfl, p, U, lv, ts, t1, ts1, rfl, R, hsub, fun v H1 R1 x1 tr1 => ?_⟩
  refine ⟨fun i st H' => ∃ (lv' : Nat) (t0 : Tree) (ts0 : List Tok) (v' : V), st = [some (.ref p), some (.int lv'), some v'] ∧ RdAt C H' p U ts0 ∧ Ext p H H' ∧ TreeAt H' v' t0 ∧ CallL S i lv' t0 ts0 t ts', ⟨n, lv, t1, ts1, v, rfl, R1, x1, tr1, hloop⟩, ?_⟩
  rintro i st H' ⟨lv', t0, ts0, v', rfl, R', x', tr', hl⟩
  cases hl with
  | stop _ _ c r hno =>
    refine ⟨_, rfl, p, _, _, rfl, R'.place.1, rfl, p, U, _, _, _, _, rfl, R', .inl ⟨tok_sign_no hno, _, rfl, ifF rfl ⟨_, rfl, q v' H' R' x' tr'⟩⟩⟩
  | go i _ _ r a b r2 _ _ hlv hs hrest =>
    refine ⟨_, rfl, p, _, _, rfl, R'.place.1, rfl, p, U, _, _, _, _, rfl, R', .inr ⟨tok_sign _, fun H2 R2 x2 => ⟨_, rfl, ifT rfl ?_⟩⟩⟩
    refine ⟨fun st H3 => ∃ v3, st = [some (.ref p), some (.int ((lv' + 1 : Nat) : Int)), some v3] ∧ RdAt C H3 p U r2 ∧ Ext p H H3 ∧ TreeAt H3 v3 (.call t0 a b), ?_, ?_⟩
    · rintro st H3 ⟨v3, rfl, R3, x3, tr3⟩
      exact ⟨i, Nat.lt_succ_self i, lv' + 1, _, r2, v3, rfl, R3, x3, tr3, hrest⟩
    · refine ⟨_, rfl, p, _, _, rfl, R2.place.1, rfl, _, rfl, _, lv', rfl, hlv, ?_⟩
      refine ⟨_, rfl, _, rfl, _, rfl, p, U, lv' + 1, r, a, b, r2, rfl, R2, hs, fun ar y z H3 R3 x3 har try_ trz => ⟨(by show 3 ≤ sizeLine; decide), fun ad had => ?_⟩⟩
      have tr2 : TreeAt H3 v' t0 := (tr'.mono (R'.tups x2)).mono (R2.tups x3)
      exact ⟨_, rfl, R3.same (Same.one had), (x'.trans (x2.trans x3)).trans (.of (Same.one had)), ad, ar, y, z, v', rfl, upd_same, Same.one had _ _ har, tr2.same (Same.one had), try_.same (Same.one had), trz.same (Same.one had)⟩

theorem scProd : FnScope ["reader", "level", "result"] ["reader", "level"] (defScope sProd) := ⟨rfl, rfl, rfl, by decide +kernel, rfl, by decide +kernel, by decide +kernel⟩
theorem ok_prod {S : R} (M : Ms P w K mg base C k) (D : Df K mg "read_product" sProd ["reader", "level"]) (GS : Gf P w K mg base k "read_call" ["reader", "level"] (spR C S)) : Gf P w K mg base (k + 1) "read_product" ["reader", "level"] (spR C (Chain (atLev 4) S)) := by
  obtain ⟨f, fd, F, m, b⟩ := D
  obtain ⟨f1, fd1, G1, b1, k1, m1⟩ := GS
  obtain ⟨fA, fdA, GA, bA, mA⟩ := M.accept
  obtain ⟨fD, fdD, GD, bD, mD⟩ := M.deeper
  refine ⟨f, fd, ?_, b, F.kp, m⟩
  refine F.ok scProd (fun vs H Q E h => ?_) (fun cdv A outer s H vs Q E hr h => ?_)
  · obtain ⟨p, U, lv, ts, t, ts', rfl, _⟩ := h
    rfl
  obtain ⟨p, U, lv, ts, t, ts', rfl, R, hrel, q⟩ := h
  obtain ⟨t1, ts1, n, hsub, hloop⟩ := hrel
  refine ⟨_, pss_cons (ps_set (i := 2) scProd.nd rfl (Or.inl rfl) (pe_call G1 hr rfl m1 k1 b1 .nil pass0 (pa_cons (pv 0) (pa_cons (pv 1) pa_nil))))
    (pss_cons (ps_while PassesOwn.never (pt_val (pe_meth (pv 0) M.rd.cl mA GA hr bA .nil pass0 (pa_cons pe_str (pa_cons pe_str pa_nil))))
      (pss_cons (ps_set (i := 1) scProd.nd rfl (Or.inl rfl) (pe_meth (pv 0) M.rd.cl mD GD hr bD .nil pass0 (pa_cons (pv 1) pa_nil)))
      (pss_one (ps_set (i := 2) scProd.nd rfl (Or.inl rfl) (pe_tup (pa_cons pe_str (pa_cons (pv 2) (pa_cons (pe_call G1 hr rfl m1 k1 b1 .nil pass0 (pa_cons (pv 0) (pa_cons (pv 1) pa_nil))) pa_nil))))))))
    (pss_one (ps_ret (pv 2)))), ?_⟩
  refine ⟨_, rfl, _, rfl, p, U, lv, ts, t1, ts1, rfl, R, hsub, fun v H1 R1 x1 tr1 => ?_⟩
  refine ⟨fun i st H' => ∃ (lv' : Nat) (t0 : Tree) (ts0 : List Tok) (v' : V), st = [some (.ref p), some (.int lv'), some v'] ∧ RdAt C H' p U ts0 ∧ Ext p H H' ∧ TreeAt H' v' t0 ∧ Loop (atLev 4) S i lv' t0 ts0 t ts', ⟨n, lv, t1, ts1, v, rfl, R1, x1, tr1, hloop⟩, ?_⟩
  rintro i st H' ⟨lv', t0, ts0, v', rfl, R', x', tr', hl⟩
  cases hl with
  | stop _ _ c r hno =>
    refine ⟨_, rfl, p, _, _, rfl, R'.place.1, rfl, p, U, _, _, _, _, rfl, R', .inl ⟨tok_sign_no (hno .mul rfl), _, rfl, ifF rfl ⟨_, rfl, q v' H' R' x' tr'⟩⟩⟩
  | go i _ _ g r t2 r2 _ _ hg hlv hs hrest =>
    obtain rfl := lev4 hg
    refine ⟨_, rfl, p, _, _, rfl, R'.place.1, rfl, p, U, _, _, _, _, rfl, R', .inr ⟨tok_sign _, fun H2 R2 x2 => ⟨_, rfl, ifT rfl ?_⟩⟩⟩
    refine ⟨fun st H3 => ∃ v3, st = [some (.ref p), some (.int ((lv' + 1 : Nat) : Int)), some v3] ∧ RdAt C H3 p U r2 ∧ Ext p H H3 ∧ TreeAt H3 v3 (.bin .mul t0 t2), ?_, ?_⟩
    · rintro st H3 ⟨v3, rfl, R3, x3, tr3⟩
      exact ⟨i, Nat.lt_succ_self i, lv' + 1, _, r2, v3, rfl, R3, x3, tr3, hrest⟩
    · refine ⟨_, rfl, p, _, _, rfl, R2.place.1, rfl, _, rfl, _, lv', rfl, hlv, ?_⟩
      refine ⟨_, rfl, _, rfl, _, rfl, p, U, lv' + 1, r, t2, r2, rfl, R2, hs, fun v3 H3 R3 x3 tr3 => ⟨(by show 3 ≤ sizeLine; decide), fun a ha => ?_⟩⟩
      have tr2 : TreeAt H3 v' t0 := (tr'.mono (R'.tups x2)).mono (R2.tups x3)
      exact ⟨_, rfl, R3.same (Same.one ha), (x'.trans (x2.trans x3)).trans (.of (Same.one ha)), a, v', v3, rfl, upd_same, tr2.same (Same.one ha), tr3.same (Same.one ha)⟩

theorem scBoth : FnScope ["reader", "level", "result"] ["reader", "level"] (defScope sBoth) := ⟨rfl, rfl, rfl, by decide +kernel, rfl, by decide +kernel, by decide +kernel⟩
theorem ok_both {S : R} (M : Ms P w K mg base C k) (D : Df K mg "read_both" sBoth ["reader", "level"]) (GS : Gf P w K mg base k "read_plain" ["reader", "level"] (spR C S)) : Gf P w K mg base (k + 1) "read_both" ["reader", "level"] (spR C (Chain (atLev 1) S)) := by
  obtain ⟨f, fd, F, m, b⟩ := D
  obtain ⟨f1, fd1, G1, b1, k1, m1⟩ := GS
  obtain ⟨fA, fdA, GA, bA, mA⟩ := M.accept
  obtain ⟨fD, fdD, GD, bD, mD⟩ := M.deeper
  refine ⟨f, fd, ?_, b, F.kp, m⟩
  refine F.ok scBoth (fun vs H Q E h => ?_) (fun cdv A outer s H vs Q E hr h => ?_)
  · obtain ⟨p, U, lv, ts, t, ts', rfl, _⟩ := h
    rfl
  obtain ⟨p, U, lv, ts, t, ts', rfl, R, hrel, q⟩ := h
  obtain ⟨t1, ts1, n, hsub, hloop⟩ := hrel
  refine ⟨_, pss_cons (ps_set (i := 2) scBoth.nd rfl (Or.inl rfl) (pe_call G1 hr rfl m1 k1 b1 .nil pass0 (pa_cons (pv 0) (pa_cons (pv 1) pa_nil))))
    (pss_cons (ps_while PassesOwn.never (pt_val (pe_meth (pv 0) M.rd.cl mA GA hr bA .nil pass0 (pa_cons pe_str (pa_cons pe_str pa_nil))))
      (pss_cons (ps_set (i := 1) scBoth.nd rfl (Or.inl rfl) (pe_meth (pv 0) M.rd.cl mD GD hr bD .nil pass0 (pa_cons (pv 1) pa_nil)))
      (pss_one (ps_set (i := 2) scBoth.nd rfl (Or.inl rfl) (pe_tup (pa_cons pe_str (pa_cons (pv 2) (pa_cons (pe_call G1 hr rfl m1 k1 b1 .nil pass0 (pa_cons (pv 0) (pa_cons (pv 1) pa_nil))) pa_nil))))))))
    (pss_one (ps_ret (pv 2)))), ?_⟩
  refine ⟨_, rfl, _, rfl, p, U, lv, ts, t1, ts1, rfl, R, hsub, fun v H1 R1 x1 tr1 => ?_⟩
  refine ⟨fun i st H' => ∃ (lv' : Nat) (t0 : Tree) (ts0 : List Tok) (v' : V), st = [some (.ref p), some (.int lv'), some v'] ∧ RdAt C H' p U ts0 ∧ Ext p H H' ∧ TreeAt H' v' t0 ∧ Loop (atLev 1) S i lv' t0 ts0 t ts', ⟨n, lv, t1, ts1, v, rfl, R1, x1, tr1, hloop⟩, ?_⟩
  rintro i st H' ⟨lv', t0, ts0, v', rfl, R', x', tr', hl⟩
  cases hl with
  | stop _ _ c r hno =>
    refine ⟨_, rfl, p, _, _, rfl, R'.place.1, rfl, p, U, _, _, _, _, rfl, R', .inl ⟨tok_word_no (hno .and rfl), _, rfl, ifF rfl ⟨_, rfl, q v' H' R' x' tr'⟩⟩⟩
  | go i _ _ g r t2 r2 _ _ hg hlv hs hrest =>
    obtain rfl := lev1 hg
    refine ⟨_, rfl, p, _, _, rfl, R'.place.1, rfl, p, U, _, _, _, _, rfl, R', .inr ⟨tok_word _, fun H2 R2 x2 => ⟨_, rfl, ifT rfl ?_⟩⟩⟩
    refine ⟨fun st H3 => ∃ v3, st = [some (.ref p), some (.int ((lv' + 1 : Nat) : Int)), some v3] ∧ RdAt C H3 p U r2 ∧ Ext p H H3 ∧ TreeAt H3 v3 (.bin .and t0 t2), ?_, ?_⟩
    · rintro st H3 ⟨v3, rfl, R3, x3, tr3⟩
      exact ⟨i, Nat.lt_succ_self i, lv' + 1, _, r2, v3, rfl, R3, x3, tr3, hrest⟩
    · refine ⟨_, rfl, p, _, _, rfl, R2.place.1, rfl, _, rfl, _, lv', rfl, hlv, ?_⟩
      refine ⟨_, rfl, _, rfl, _, rfl, p, U, lv' + 1, r, t2, r2, rfl, R2, hs, fun v3 H3 R3 x3 tr3 => ⟨(by show 3 ≤ sizeLine; decide), fun a ha => ?_⟩⟩
      have tr2 : TreeAt H3 v' t0 := (tr'.mono (R'.tups x2)).mono (R2.tups x3)
      exact ⟨_, rfl, R3.same (Same.one ha), (x'.trans (x2.trans x3)).trans (.of (Same.one ha)), a, v', v3, rfl, upd_same, tr2.same (Same.one ha), tr3.same (Same.one ha)⟩

theorem scExpr : FnScope ["reader", "level", "result"] ["reader", "level"] (defScope sExpr) := ⟨rfl, rfl, rfl, by decide +kernel, rfl, by decide +kernel, by decide +kernel⟩
theorem ok_expr {S : R} (M : Ms P w K mg base C k) (D : Df K mg "read_expression" sExpr ["reader", "level"]) (GS : Gf P w K mg base k "read_both" ["reader", "level"] (spR C S)) : Gf P w K mg base (k + 1) "read_expression" ["reader", "level"] (spR C (Chain (atLev 0) S)) := by
  obtain ⟨f, fd, F, m, b⟩ := D
  obtain ⟨f1, fd1, G1, b1, k1, m1⟩ := GS
  obtain ⟨fA, fdA, GA, bA, mA⟩ := M.accept
  obtain ⟨fD, fdD, GD, bD, mD⟩ := M.deeper
  refine ⟨f, fd, ?_, b, F.kp, m⟩
  refine F.ok scExpr (fun vs H Q E h => ?_) (fun cdv A outer s H vs Q E hr h => ?_)
  · obtain ⟨p, U, lv, ts, t, ts', rfl, _⟩ := h
    rfl
  obtain ⟨p, U, lv, ts, t, ts', rfl, R, hrel, q⟩ := h
  obtain ⟨t1, ts1, n, hsub, hloop⟩ := hrel
  refine ⟨_, pss_cons (ps_set (i := 2) scExpr.nd rfl (Or.inl rfl) (pe_call G1 hr rfl m1 k1 b1 .nil pass0 (pa_cons (pv 0) (pa_cons (pv 1) pa_nil))))
    (pss_cons (ps_while PassesOwn.never (pt_val (pe_meth (pv 0) M.rd.cl mA GA hr bA .nil pass0 (pa_cons pe_str (pa_cons pe_str pa_nil))))
      (pss_cons (ps_set (i := 1) scExpr.nd rfl (Or.inl rfl) (pe_meth (pv 0) M.rd.cl mD GD hr bD .nil pass0 (pa_cons (pv 1) pa_nil)))
      (pss_one (ps_set (i := 2) scExpr.nd rfl (Or.inl rfl) (pe_tup (pa_cons pe_str (pa_cons (pv 2) (pa_cons (pe_call G1 hr rfl m1 k1 b1 .nil pass0 (pa_cons (pv 0) (pa_cons (pv 1) pa_nil))) pa_nil))))))))
    (pss_one (ps_ret (pv 2)))), ?_⟩
  refine ⟨_, rfl, _, rfl, p, U, lv, ts, t1, ts1, rfl, R, hsub, fun v H1 R1 x1 tr1 => ?_⟩
  refine ⟨fun i st H' => ∃ (lv' : Nat) (t0 : Tree) (ts0 : List Tok) (v' : V), st = [some (.ref p), some (.int lv'), some v'] ∧ RdAt C H' p U ts0 ∧ Ext p H H' ∧ TreeAt H' v' t0 ∧ Loop (atLev 0) S i lv' t0 ts0 t ts', ⟨n, lv, t1, ts1, v, rfl, R1, x1, tr1, hloop⟩, ?_⟩
  rintro i st H' ⟨lv', t0, ts0, v', rfl, R', x', tr', hl⟩
  cases hl with
  | stop _ _ c r hno =>
    refine ⟨_, rfl, p, _, _, rfl, R'.place.1, rfl, p, U, _, _, _, _, rfl, R', .inl ⟨tok_word_no (hno .or rfl), _, rfl, ifF rfl ⟨_, rfl, q v' H' R' x' tr'⟩⟩⟩
  | go i _ _ g r t2 r2 _ _ hg hlv hs hrest =>
    obtain rfl := lev0 hg
    refine ⟨_, rfl, p, _, _, rfl, R'.place.1, rfl, p, U, _, _, _, _, rfl, R', .inr ⟨tok_word _, fun H2 R2 x2 => ⟨_, rfl, ifT rfl ?_⟩⟩⟩
    refine ⟨fun st H3 => ∃ v3, st = [some (.ref p), some (.int ((lv' + 1 : Nat) : Int)), some v3] ∧ RdAt C H3 p U r2 ∧ Ext p H H3 ∧ TreeAt H3 v3 (.bin .or t0 t2), ?_, ?_⟩
    · rintro st H3 ⟨v3, rfl, R3, x3, tr3⟩
      exact ⟨i, Nat.lt_succ_self i, lv' + 1, _, r2, v3, rfl, R3, x3, tr3, hrest⟩
    · refine ⟨_, rfl, p, _, _, rfl, R2.place.1, rfl, _, rfl, _, lv', rfl, hlv, ?_⟩
      refine ⟨_, rfl, _, rfl, _, rfl, p, U, lv' + 1, r, t2, r2, rfl, R2, hs, fun v3 H3 R3 x3 tr3 => ⟨(by show 3 ≤ sizeLine; decide), fun a ha => ?_⟩⟩
      have tr2 : TreeAt H3 v' t0 := (tr'.mono (R'.tups x2)).mono (R2.tups x3)
      exact ⟨_, rfl, R3.same (Same.one ha), (x'.trans (x2.trans x3)).trans (.of (Same.one ha)), a, v', v3, rfl, upd_same, tr2.same (Same.one ha), tr3.same (Same.one ha)⟩
end
end K2
set_option maxRecDepth 100000
set_option maxHeartbeats 4000000
/-! The walk of the parser: sums, comparisons, the recursion, statements. -/
namespace K2
open PySem L2 TL
/-- what the readers of operators ask of the module's tables -/
structure OpT (K : PySem.W.Frag) (w : World) (mg : Str → Option Value) : Prop where
  sums : ∃ a, mg "SUMS" = some (.ref a) ∧ KDct K w a "+" (.str "add") ∧ KDct K w a "-" (.str "sub")
  cmps : ∃ a, mg "COMPARISONS" = some (.ref a) ∧ KKeys K a ["<", "=="] ∧ KDct K w a "<" (.str "lt") ∧ KDct K w a "==" (.str "eq")
section
variable {P : Program} {w : World} {K : PySem.W.Frag} {mg : Str → Option Value} {base : Heap} {C : Addr} {k : Nat}
theorem scSum : FnScope ["reader", "level", "result", "sign"] ["reader", "level"] (defScope sSum) := ⟨rfl, rfl, rfl, by decide +kernel, rfl, by decide +kernel, by decide +kernel⟩
theorem ok_sum {S : R} (M : Ms P w K mg base C k) (O : OpT K w mg) (D : Df K mg "read_sum" sSum ["reader", "level"]) (GS : Gf P w K mg base k "read_product" ["reader", "level"] (spR C S)) : Gf P w K mg base (k + 1) "read_sum" ["reader", "level"] (spR C (Chain (atLev 3) S)) := by
  obtain ⟨f, fd, F, m, b⟩ := D
  obtain ⟨f1, fd1, G1, b1, k1, m1⟩ := GS
  obtain ⟨aO, mO, dA, dS⟩ := O.sums
  obtain ⟨fS, fdS, GS, bS, mS⟩ := M.sees
  obtain ⟨fR, fdR, GR, bR, mR⟩ := M.read
  obtain ⟨fD, fdD, GD, bD, mD⟩ := M.deeper
  refine ⟨f, fd, ?_, b, F.kp, m⟩
  refine F.ok scSum (fun vs H Q E h => ?_) (fun cdv A outer s H vs Q E hr h => ?_)
  · obtain ⟨p, U, lv, ts, t, ts', rfl, _⟩ := h
    rfl
  obtain ⟨p, U, lv, ts, t, ts', rfl, R, hrel, q⟩ := h
  obtain ⟨t1, ts1, n, hsub, hloop⟩ := hrel
  refine ⟨_, pss_cons (ps_set (i := 2) scSum.nd rfl (Or.inl rfl) (pe_call G1 hr rfl m1 k1 b1 .nil pass0 (pa_cons (pv 0) (pa_cons (pv 1) pa_nil))))
    (pss_cons (ps_while PassesOwn.never (PW.pt (pw_or (pt_val (pe_meth (pv 0) M.rd.cl mS GS hr bS .nil pass0 (pa_cons pe_str (pa_cons pe_str pa_nil)))) (pw_or1 (pt_val (pe_meth (pv 0) M.rd.cl mS GS hr bS .nil pass0 (pa_cons pe_str (pa_cons pe_str pa_nil)))))))
      (pss_cons (ps_set (i := 3) scSum.nd rfl (Or.inl rfl) (pe_meth (pv 0) M.rd.cl mR GR hr bR .nil pass0 (pa_cons pe_str pa_nil)))
      (pss_cons (ps_set (i := 1) scSum.nd rfl (Or.inl rfl) (pe_meth (pv 0) M.rd.cl mD GD hr bD .nil pass0 (pa_cons (pv 1) pa_nil)))
      (pss_one (ps_set (i := 2) scSum.nd rfl (Or.inl rfl) (pe_tup (pa_cons (pe_ix ix_kdict (pe_gref rfl mO) (pv 3) (fun _ _ => rfl)) (pa_cons (pv 2) (pa_cons (pe_call G1 hr rfl m1 k1 b1 .nil pass0 (pa_cons (pv 0) (pa_cons (pv 1) pa_nil))) pa_nil)))))))))
    (pss_one (ps_ret (pv 2)))), ?_⟩
  refine ⟨_, rfl, _, rfl, p, U, lv, ts, t1, ts1, rfl, R, hsub, fun v H1 R1 x1 tr1 => ?_⟩
  refine ⟨fun i st H' => ∃ (lv' : Nat) (t0 : Tree) (ts0 : List Tok) (v' : V) (vs : Option V), st = [some (.ref p), some (.int lv'), some v', vs] ∧ RdAt C H' p U ts0 ∧ Ext p H H' ∧ TreeAt H' v' t0 ∧ Loop (atLev 3) S i lv' t0 ts0 t ts', ⟨n, lv, t1, ts1, v, none, rfl, R1, x1, tr1, hloop⟩, ?_⟩
  rintro i st H' ⟨lv', t0, ts0, v', vs, rfl, R', x', tr', hl⟩
  cases hl with
  | stop _ _ c r hno =>
    refine ⟨_, rfl, p, _, _, rfl, R'.place.1, rfl, p, U, _, _, _, _, false, rfl, R', tok_sign_no (hno .add rfl), _, rfl, ifF rfl ?_⟩
    refine ⟨_, rfl, p, _, _, rfl, R'.place.1, rfl, p, U, _, _, _, _, false, rfl, R', tok_sign_no (hno .sub rfl), _, rfl, ifF rfl ⟨_, rfl, q v' H' R' x' tr'⟩⟩
  | go i _ _ g r t2 r2 _ _ hg hlv hs hrest =>
    rcases lev3 hg with rfl | rfl
    · refine ⟨_, rfl, p, _, _, rfl, R'.place.1, rfl, p, U, _, _, _, _, true, rfl, R', tok_sign _, _, rfl, ifT rfl (ifT rfl ?_)⟩
      refine ⟨fun st H3 => ∃ v3 vs, st = [some (.ref p), some (.int ((lv' + 1 : Nat) : Int)), some v3, vs] ∧ RdAt C H3 p U r2 ∧ Ext p H H3 ∧ TreeAt H3 v3 (.bin .add t0 t2), ?_, ?_⟩
      · rintro st H3 ⟨v3, vs3, rfl, R3, x3, tr3⟩
        exact ⟨i, Nat.lt_succ_self i, lv' + 1, _, r2, v3, vs3, rfl, R3, x3, tr3, hrest⟩
      · refine ⟨_, rfl, p, _, _, rfl, R'.place.1, rfl, p, U, _, _, _, rfl, R', rfl, fun H2 R2 x2 => ?_⟩
        refine ⟨_, rfl, p, _, _, rfl, R2.place.1, rfl, _, rfl, _, lv', rfl, hlv, ?_⟩
        refine ⟨_, rfl, aO, _, _, rfl, rfl, dA, _, rfl, _, rfl, _, rfl, p, U, lv' + 1, r, t2, r2, rfl, R2, hs, fun v3 H3 R3 x3 tr3 => ⟨(by show 3 ≤ sizeLine; decide), fun a ha => ?_⟩⟩
        have tr2 : TreeAt H3 v' t0 := (tr'.mono (R'.tups x2)).mono (R2.tups x3)
        exact ⟨_, _, rfl, R3.same (Same.one ha), (x'.trans (x2.trans x3)).trans (.of (Same.one ha)), a, v', v3, rfl, upd_same, tr2.same (Same.one ha), tr3.same (Same.one ha)⟩
    · refine ⟨_, rfl, p, _, _, rfl, R'.place.1, rfl, p, U, _, _, _, _, false, rfl, R', tok_sign_no (sign_ne (by decide +kernel)), _, rfl, ifF rfl ?_⟩
      refine ⟨_, rfl, p, _, _, rfl, R'.place.1, rfl, p, U, _, _, _, _, true, rfl, R', tok_sign _, _, rfl, ifT rfl ?_⟩
      refine ⟨fun st H3 => ∃ v3 vs, st = [some (.ref p), some (.int ((lv' + 1 : Nat) : Int)), some v3, vs] ∧ RdAt C H3 p U r2 ∧ Ext p H H3 ∧ TreeAt H3 v3 (.bin .sub t0 t2), ?_, ?_⟩
      · rintro st H3 ⟨v3, vs3, rfl, R3, x3, tr3⟩
        exact ⟨i, Nat.lt_succ_self i, lv' + 1, _, r2, v3, vs3, rfl, R3, x3, tr3, hrest⟩
      · refine ⟨_, rfl, p, _, _, rfl, R'.place.1, rfl, p, U, _, _, _, rfl, R', rfl, fun H2 R2 x2 => ?_⟩
        refine ⟨_, rfl, p, _, _, rfl, R2.place.1, rfl, _, rfl, _, lv', rfl, hlv, ?_⟩
        refine ⟨_, rfl, aO, _, _, rfl, rfl, dS, _, rfl, _, rfl, _, rfl, p, U, lv' + 1, r, t2, r2, rfl, R2, hs, fun v3 H3 R3 x3 tr3 => ⟨(by show 3 ≤ sizeLine; decide), fun a ha => ?_⟩⟩
        have tr2 : TreeAt H3 v' t0 := (tr'.mono (R'.tups x2)).mono (R2.tups x3)
        exact ⟨_, _, rfl, R3.same (Same.one ha), (x'.trans (x2.trans x3)).trans (.of (Same.one ha)), a, v', v3, rfl, upd_same, tr2.same (Same.one ha), tr3.same (Same.one ha)⟩

theorem scPlain : FnScope ["reader", "level", "result", "sign"] ["reader", "level"] (defScope sPlain) := ⟨rfl, rfl, rfl, by decide +kernel, rfl, by decide +kernel, by decide +kernel⟩
theorem ok_plain {S Pl : R} (M : Ms P w K mg base C k) (O : OpT K w mg) (D : Df K mg "read_plain" sPlain ["reader", "level"]) (GS : Gf P w K mg base k "read_sum" ["reader", "level"] (spR C S)) (GP : Gf P w K mg base k "read_plain" ["reader", "level"] (spR C Pl)) : Gf P w K mg base (k + 1) "read_plain" ["reader", "level"] (spR C (Plain S Pl)) := by
  obtain ⟨f, fd, F, m, b⟩ := D
  obtain ⟨f1, fd1, G1, b1, k1, m1⟩ := GS
  obtain ⟨f2, fd2, G2, b2, k2, m2⟩ := GP
  obtain ⟨aO, mO, kO, dL, dE⟩ := O.cmps
  obtain ⟨fA, fdA, GA, bA, mA⟩ := M.accept
  obtain ⟨fD, fdD, GD, bD, mD⟩ := M.deeper
  refine ⟨f, fd, ?_, b, F.kp, m⟩
  refine F.ok scPlain (fun vs H Q E h => ?_) (fun cdv A outer s H vs Q E hr h => ?_)
  · obtain ⟨p, U, lv, ts, t, ts', rfl, _⟩ := h
    rfl
  obtain ⟨p, U, lv, ts, t, ts', rfl, R, hrel, q⟩ := h
  refine ⟨_, pss_cons (ps_if (pt_val (pe_meth (pv 0) M.rd.cl mA GA hr bA .nil pass0 (pa_cons pe_str (pa_cons pe_str pa_nil)))) (pss_one (ps_ret (pe_tup (pa_cons pe_str (pa_cons (pe_call G2 hr rfl m2 k2 b2 .nil pass0 (pa_cons (pv 0) (pa_cons (pe_meth (pv 0) M.rd.cl mD GD hr bD .nil pass0 (pa_cons (pv 1) pa_nil)) pa_nil))) pa_nil))))) pss_nil)
    (pss_cons (ps_set (i := 2) scPlain.nd rfl (Or.inl rfl) (pe_call G1 hr rfl m1 k1 b1 .nil pass0 (pa_cons (pv 0) (pa_cons (pv 1) pa_nil))))
    (pss_cons (ps_for PassesOwn.never rfl (pi_written (pe_gref rfl mO)) (pg_name (i := 3) scPlain.nd rfl (Or.inl rfl))
      (pss_one (ps_if (pt_val (pe_meth (pv 0) M.rd.cl mA GA hr bA .nil pass0 (pa_cons pe_str (pa_cons (pv 3) pa_nil))))
        (pss_one (ps_ret (pe_tup (pa_cons (pe_ix ix_kdict (pe_gref rfl mO) (pv 3) (fun _ _ => rfl)) (pa_cons (pv 2) (pa_cons (pe_call G1 hr rfl m1 k1 b1 .nil pass0 (pa_cons (pv 0) (pa_cons (pe_meth (pv 0) M.rd.cl mD GD hr bD .nil pass0 (pa_cons (pv 1) pa_nil)) pa_nil))) pa_nil)))))) pss_nil)))
    (pss_one (ps_ret (pv 2))))), ?_⟩
  cases hrel with
  | neg _ r t r' hlv hs =>
    refine ⟨_, rfl, p, _, _, rfl, R.place.1, rfl, p, U, _, _, _, _, rfl, R, .inr ⟨tok_word _, fun H1 R1 x1 => ⟨_, rfl, ifT rfl ?_⟩⟩⟩
    refine ⟨_, rfl, _, rfl, p, _, _, rfl, R1.place.1, rfl, _, rfl, _, lv, rfl, hlv, p, U, lv + 1, r, _, _, rfl, R1, hs, fun v H2 R2 x2 tr2 => ⟨(by show 2 ≤ sizeLine; decide), fun a ha => ?_⟩⟩
    exact q _ _ (R2.same (Same.one ha)) ((x1.trans x2).trans (.of (Same.one ha))) ⟨a, v, rfl, upd_same, tr2.same (Same.one ha)⟩
  | one _ c ts0 t c' r hc hs hno =>
    refine ⟨_, rfl, p, _, _, rfl, R.place.1, rfl, p, U, _, _, _, _, rfl, R, .inl ⟨tok_word_no hc, _, rfl, ifF rfl ?_⟩⟩
    refine ⟨_, rfl, _, rfl, p, U, lv, _, _, _, rfl, R, hs, fun v H1 R1 x1 tr1 => ?_⟩
    refine ⟨aO, _, rfl, kO, for_written (fun i st H' => H' = H1 ∧ ∃ v3, st = [some (.ref p), some (.int lv), some v, v3]) ⟨rfl, none, rfl⟩ ?_ ?_⟩
    · rintro i z st H' hz ⟨rfl, v3, rfl⟩
      have hn : c' ≠ .sign z := by
        match i, hz with
        | 0, hz => obtain rfl := Option.some.inj hz; exact hno .lt rfl
        | 1, hz => obtain rfl := Option.some.inj hz; exact hno .eq rfl
        | i + 2, hz => cases hz
      exact ⟨_, rfl, p, _, _, rfl, R1.place.1, rfl, _, rfl, p, U, _, _, _, _, rfl, R1, .inl ⟨tok_sign_no hn, _, rfl, ifF rfl ⟨rfl, _, rfl⟩⟩⟩
    · rintro st H' ⟨rfl, v3, rfl⟩
      exact ⟨_, rfl, q v _ R1 x1 tr1⟩
  | two _ c ts0 t g r t2 r2 hc hg hs hlv hs2 =>
    refine ⟨_, rfl, p, _, _, rfl, R.place.1, rfl, p, U, _, _, _, _, rfl, R, .inl ⟨tok_word_no hc, _, rfl, ifF rfl ?_⟩⟩
    refine ⟨_, rfl, _, rfl, p, U, lv, _, _, _, rfl, R, hs, fun v H1 R1 x1 tr1 => ?_⟩
    have hit : ∀ (z : Str), g.tok = .sign z → KDct K w aO z (.str g.head) → ∀ st, st = [some (.ref p), some (.int lv), some v, some (.str z)] → ∀ D : Ends, (∀ x H', Q x H' → D.rt x H') →
        tIfS (tB (tMeth C "accept" (spAccept C) [] E0 (tVar 0) (tCons (tC (.str "sign")) (tCons (tVar 3) tNil))))
          (tRet (tTup (tCons (tOp (rIxD K w) (tC (.ref aO)) (tVar 3)) (tCons (tVar 2) (tCons (tCall (spR C S) [] E0 (tCons (tVar 0) (tCons (tMeth C "deeper" spDeeper [] E0 (tVar 0) (tCons (tVar 1) tNil)) tNil))) tNil))))) tNext D st H1 := by
      rintro z ez hd st rfl D hD
      have R1' := R1
      rw [ez] at R1'
      refine ⟨_, rfl, p, _, _, rfl, R1.place.1, rfl, _, rfl, p, U, _, _, _, _, rfl, R1', .inr ⟨tok_sign _, fun H2 R2 x2 => ⟨_, rfl, ifT rfl ?_⟩⟩⟩
      refine ⟨_, rfl, aO, _, _, rfl, rfl, hd, _, rfl, _, rfl, _, rfl, p, _, _, rfl, R2.place.1, rfl, _, rfl, _, lv, rfl, hlv, p, U, lv + 1, r, _, _, rfl, R2, hs2, fun v2 H3 R3 x3 tr3 => ⟨(by show 3 ≤ sizeLine; decide), fun a ha => ?_⟩⟩
      have tr0 := (tr1.mono (R1.tups x2)).mono (R2.tups x3)
      exact hD _ _ (q _ _ (R3.same (Same.one ha)) ((x1.trans (x2.trans x3)).trans (.of (Same.one ha))) ⟨a, v, v2, rfl, upd_same, tr0.same (Same.one ha), tr3.same (Same.one ha)⟩)
    refine ⟨aO, _, rfl, kO, for_written (fun i st H' => H' = H1 ∧ (∃ v3, st = [some (.ref p), some (.int lv), some v, v3]) ∧ (i = 0 ∨ (i = 1 ∧ g = .eq))) ⟨rfl, ⟨none, rfl⟩, .inl rfl⟩ ?_ ?_⟩
    · rintro i z st H' hz ⟨rfl, ⟨v3, rfl⟩, hi⟩
      rcases hi with rfl | ⟨rfl, rfl⟩
      · obtain rfl := Option.some.inj hz
        rcases lev2 hg with rfl | rfl
        · exact hit _ rfl dL _ rfl _ fun _ _ z => z
        · exact ⟨_, rfl, p, _, _, rfl, R1.place.1, rfl, _, rfl, p, U, _, _, _, _, rfl, R1, .inl ⟨tok_sign_no (sign_ne (by decide +kernel)), _, rfl, ifF rfl ⟨rfl, ⟨_, rfl⟩, .inr ⟨rfl, rfl⟩⟩⟩⟩
      · obtain rfl := Option.some.inj hz
        exact hit _ rfl dE _ rfl _ fun _ _ z => z
    · rintro st H' ⟨_, _, hi⟩
      rcases hi with h | ⟨h, _⟩ <;> cases h

/-! ### the recursion -/
theorem none_left {x : Str} {st : Stmt} {j : Nat} (D : Df K mg x st ["reader", "level"]) : Gf P w K mg base j x ["reader", "level"] (spR C fun _ _ _ _ => False) := by
  obtain ⟨f, fd, F, m, b⟩ := D
  have no : ∀ vs H Q E, ¬ spR C (fun _ _ _ _ => False) vs H Q E := fun vs H Q E h => by
    obtain ⟨_, _, _, _, _, _, _, _, z, _⟩ := h
    exact z
  exact ⟨f, fd, ⟨fun vs H Q E h => absurd h (no vs H Q E), fun A outer s H args us vs Q E _ _ _ _ h => absurd h (no vs H Q E)⟩, b, F.kp, m⟩
/-- the defs of the readers -/
structure Rds (K : PySem.W.Frag) (mg : Str → Option Value) : Prop where
  tup : mg "tuple" = none
  args : Df K mg "read_arguments" sArgs ["reader", "level"]
  prim : Df K mg "read_primary" sPrim ["reader", "level"]
  call : Df K mg "read_call" sCall ["reader", "level"]
  prod : Df K mg "read_product" sProd ["reader", "level"]
  sum : Df K mg "read_sum" sSum ["reader", "level"]
  plain : Df K mg "read_plain" sPlain ["reader", "level"]
  both : Df K mg "read_both" sBoth ["reader", "level"]
  expr : Df K mg "read_expression" sExpr ["reader", "level"]
theorem readers (M : Ms P w K mg base C 3) (O : OpT K w mg) (D : Rds K mg) : ∀ n, Gf P w K mg base (3 + 8 * n) "read_expression" ["reader", "level"] (spR C (RR n).1) ∧ Gf P w K mg base (3 + 8 * n) "read_plain" ["reader", "level"] (spR C (RR n).2)
  | 0 => ⟨none_left D.expr, none_left D.plain⟩
  | n + 1 => by
    obtain ⟨ge, gp⟩ := readers M O D n
    have M' : ∀ j, Ms P w K mg base C (3 + 8 * n + j) := fun j => M.up (by omega)
    have prim := ok_prim (M' 0) D.prim ge
    have args := ok_args (M' 0) D.tup D.args ge
    have call := ok_call (M' 1) D.call prim args
    have prod := ok_prod (M' 2) D.prod call
    have sum := ok_sum (M' 3) O D.sum prod
    have plain := ok_plain (M' 4) O D.plain sum (gp.up (by omega))
    have both := ok_both (M' 5) D.both plain
    have expr := ok_expr (M' 6) D.expr both
    exact ⟨expr.up (by omega), plain.up (by omega)⟩
end
end K2
set_option maxRecDepth 100000
set_option maxHeartbeats 4000000
/-! The walk of the parser: a let, a statement, depths, parse. -/
namespace K2
open PySem L2 TL
def spLet (C : Addr) (E : R) : Sp := fun vs H Q _ => ∃ (p : Addr) (U : RT) (i lv : Nat) (x : Str) (ts : List Tok) (t : Tree) (r : List Tok), vs = [.ref p, .int i, .int lv] ∧ RdAt C H p U (.name x :: .sign "=" :: ts) ∧ E lv ts t (.sign ";" :: r) ∧
  ∀ a v H', RdAt C H' p U r → Ext p H H' → H' a = some (.tup [.str "let", .str x, v, .int i]) → TreeAt H' v t → Q (.ref a) H'
def spStmt (C : Addr) (E : R) : Sp := fun vs H Q _ => ∃ (p : Addr) (U : RT) (i lv : Nat) (x : Str) (ts : List Tok) (t : Tree) (r : List Tok), vs = [.ref p, .int lv] ∧ RdAt C H p U (.word "let" :: .name x :: .sign "=" :: ts) ∧
  U.toks[U.toks.length - (ts.length + 3)]? = some (.word "let", i) ∧ E lv ts t (.sign ";" :: r) ∧
  ∀ a v H', RdAt C H' p U r → Ext p H H' → H' a = some (.tup [.str "let", .str x, v, .int i]) → TreeAt H' v t → Q (.ref a) H'
section
variable {P : Program} {w : World} {K : PySem.W.Frag} {mg : Str → Option Value} {base : Heap} {C : Addr} {k : Nat}
theorem scLet : FnScope ["reader", "at", "level", "name", "value"] ["reader", "at", "level"] (defScope sLet) := ⟨rfl, rfl, rfl, by decide +kernel, rfl, by decide +kernel, by decide +kernel⟩
theorem ok_let {S : R} (M : Ms P w K mg base C k) (D : Df K mg "read_let" sLet ["reader", "at", "level"]) (GE : Gf P w K mg base k "read_expression" ["reader", "level"] (spR C S)) : Gf P w K mg base (k + 1) "read_let" ["reader", "at", "level"] (spLet C S) := by
  obtain ⟨f, fd, F, m, b⟩ := D
  obtain ⟨f1, fd1, G1, b1, k1, m1⟩ := GE
  obtain ⟨fX, fdX, GX, bX, mX⟩ := M.expect
  obtain ⟨fR, fdR, GR, bR, mR⟩ := M.read
  refine ⟨f, fd, ?_, b, F.kp, m⟩
  refine F.ok scLet (fun vs H Q E h => ?_) (fun cdv A outer s H vs Q E hr h => ?_)
  · obtain ⟨p, U, i, lv, x, ts, t, r, rfl, _⟩ := h
    rfl
  obtain ⟨p, U, i, lv, x, ts, t, r, rfl, R, hE, q⟩ := h
  refine ⟨_, pss_cons (ps_set (i := 3) scLet.nd rfl (Or.inl rfl) (pe_meth (pv 0) M.rd.cl mR GR hr bR .nil pass0 (pa_cons pe_str pa_nil)))
    (pss_cons (ps_expr (pe_meth (pv 0) M.rd.cl mX GX hr bX .nil pass0 (pa_cons pe_str (pa_cons pe_str pa_nil))))
    (pss_cons (ps_set (i := 4) scLet.nd rfl (Or.inl rfl) (pe_call G1 hr rfl m1 k1 b1 .nil pass0 (pa_cons (pv 0) (pa_cons (pv 2) pa_nil))))
    (pss_cons (ps_expr (pe_meth (pv 0) M.rd.cl mX GX hr bX .nil pass0 (pa_cons pe_str (pa_cons pe_str pa_nil))))
    (pss_one (ps_ret (pe_tup (pa_cons pe_str (pa_cons (pv 3) (pa_cons (pv 4) (pa_cons (pv 1) pa_nil)))))))))), ?_⟩
  refine ⟨_, rfl, p, _, _, rfl, R.place.1, rfl, p, U, _, _, _, rfl, R, rfl, fun H1 R1 x1 => ?_⟩
  refine ⟨_, rfl, p, _, _, rfl, R1.place.1, rfl, p, U, _, _, _, _, rfl, R1, tok_sign _, fun H2 R2 x2 => ?_⟩
  refine ⟨_, rfl, _, rfl, p, U, lv, ts, t, _, rfl, R2, hE, fun v H3 R3 x3 tr3 => ?_⟩
  refine ⟨_, rfl, p, _, _, rfl, R3.place.1, rfl, p, U, _, _, _, _, rfl, R3, tok_sign _, fun H4 R4 x4 => ?_⟩
  refine ⟨_, rfl, _, rfl, _, rfl, (by show 4 ≤ sizeLine; decide), fun a ha => ?_⟩
  exact q a v _ (R4.same (Same.one ha)) ((x1.trans (x2.trans (x3.trans x4))).trans (.of (Same.one ha))) upd_same ((tr3.mono (R3.tups x4)).same (Same.one ha))
theorem scStmt : FnScope ["reader", "level", "at", "result"] ["reader", "level"] (defScope sStmt) := ⟨rfl, rfl, rfl, by decide +kernel, rfl, by decide +kernel, by decide +kernel⟩
theorem ok_stmt {S : R} (M : Ms P w K mg base C k) (D : Df K mg "read_statement" sStmt ["reader", "level"]) (GL : Gf P w K mg base k "read_let" ["reader", "at", "level"] (spLet C S)) : Gf P w K mg base (k + 1) "read_statement" ["reader", "level"] (spStmt C S) := by
  obtain ⟨f, fd, F, m, b⟩ := D
  obtain ⟨f1, fd1, G1, b1, k1, m1⟩ := GL
  obtain ⟨ft, fdt, Gt, bt, mt⟩ := M.at_
  obtain ⟨fA, fdA, GA, bA, mA⟩ := M.accept
  refine ⟨f, fd, ?_, b, F.kp, m⟩
  refine F.ok scStmt (fun vs H Q E h => ?_) (fun cdv A outer s H vs Q E hr h => ?_)
  · obtain ⟨p, U, i, lv, x, ts, t, r, rfl, _⟩ := h
    rfl
  obtain ⟨p, U, i, lv, x, ts, t, r, rfl, R, hi, hE, q⟩ := h
  refine ⟨_, pss_cons (ps_set (i := 2) scStmt.nd rfl (Or.inl rfl) (pe_meth0 (pv 0) M.rd.cl mt Gt hr bt .nil pass0))
    (pss_cons (ps_if (pt_val (pe_meth (pv 0) M.rd.cl mA GA hr bA .nil pass0 (pa_cons pe_str (pa_cons pe_str pa_nil)))) (pss_one (ps_ret (pe_call G1 hr rfl m1 k1 b1 .nil pass0 (pa_cons (pv 0) (pa_cons (pv 2) (pa_cons (pv 1) pa_nil)))))) pss_nil)
    pss_never), ?_⟩
  refine ⟨_, rfl, p, _, _, rfl, R.place.1, rfl, p, U, _, _, rfl, R, fun j hj => ?_⟩
  have hi' : U.toks[U.toks.length - ((Tok.name x :: Tok.sign "=" :: ts).length + 1)]? = some (.word "let", i) := hi
  rw [hi'] at hj
  obtain rfl : i = j := by injection hj with e; injection e
  refine ⟨_, rfl, p, _, _, rfl, R.place.1, rfl, p, U, _, _, _, _, rfl, R, .inr ⟨tok_word _, fun H1 R1 x1 => ⟨_, rfl, ifT rfl ?_⟩⟩⟩
  exact ⟨_, rfl, _, rfl, _, rfl, p, U, i, lv, x, ts, t, r, rfl, R1, hE, fun a v H2 R2 x2 ha tr => q a v H2 R2 (x1.trans x2) ha tr⟩

/-! ### depths -/
def spDep (n : Nat) : Sp := fun vs H Q _ => ∃ (v : V) (t : Tree), vs = [v] ∧ TreeAt H v t ∧ t.dep ≤ n ∧ ∀ H', Same H H' → Q (.int (t.dep : Nat)) H'
def leafs : List Str := ["int", "bool", "none", "var", "member"]
/-- what the depths ask of the module -/
structure DepT (mg : Str → Option Value) : Prop where
  max : mg "max" = none
theorem scEDepth : FnScope ["e", "head", "argument"] ["e"] (defScope sEDepth) := ⟨rfl, rfl, rfl, by decide +kernel, rfl, by decide +kernel, by decide +kernel⟩
theorem ok_edepth {n : Nat} (T : DepT mg) (D : Df K mg "expression_depth" sEDepth ["e"]) (G : Gf P w K mg base k "expression_depth" ["e"] (spDep n)) : Gf P w K mg base (k + 1) "expression_depth" ["e"] (spDep (n + 1)) := by
  obtain ⟨f, fd, F, m, b⟩ := D
  obtain ⟨f1, fd1, G1, b1, k1, m1⟩ := G
  refine ⟨f, fd, ?_, b, F.kp, m⟩
  refine F.ok scEDepth (fun vs H Q E h => ?_) (fun cdv A outer s H vs Q E hr h => ?_)
  · obtain ⟨v, t, rfl, _⟩ := h
    rfl
  obtain ⟨v, t, rfl, tr, hd, q⟩ := h
  refine ⟨_, pss_cons (ps_set (i := 1) scEDepth.nd rfl (Or.inl rfl) (pe_ix ix_tup (pv 0) pe_int (fun _ _ => rfl)))
    (pss_cons (ps_if (pt_cmpR op_in_seq (pv 1) (pe_tup (pa_cons pe_str (pa_cons pe_str (pa_cons pe_str (pa_cons pe_str (pa_cons pe_str pa_nil)))))) (by rfl)) (pss_one (ps_ret pe_int)) pss_nil)
    (pss_cons (ps_if (pt_cmpR op_eq (pv 1) pe_str (nomark _)) pss_never pss_nil)
    (pss_cons (ps_if (pt_cmpR op_eq (pv 1) pe_str (nomark _))
      (pss_one (ps_ret (pe_op op_add pe_int (pe_callB (cr_max rfl) rfl T.max (by decide +kernel) (pa_cons
        (pe_op op_cat (pe_lst (pa_cons (pe_call G1 hr rfl m1 k1 b1 .nil pass0 (pa_cons (pe_ix ix_tup (pv 0) pe_int (fun _ _ => rfl)) pa_nil)) pa_nil))
          (pe_lc (own := [("argument", 2)]) (g := gName 2) rfl scEDepth.nd (pi_tup (pe_ix ix_tup (pv 0) pe_int (fun _ _ => rfl))) (blkOk_by (N := ["e", "head", "argument"]) (sc := defScope sEDepth) (by decide +kernel))
            (fun _ _ _ _ _ => pg_name (i := 2) scEDepth.nd rfl (Or.inl rfl)) (fun _ _ _ _ _ => pts_nil) (fun _ _ _ _ _ => pe_call G1 hr rfl m1 k1 b1 .nil pass0 (pa_cons (pv 2) pa_nil)))) pa_nil))))) pss_nil)
    (pss_cons (ps_if (PW.pt (pw_or (pt_cmpR op_eq (pv 1) pe_str (nomark _)) (pw_or1 (pt_cmpR op_eq (pv 1) pe_str (nomark _)))))
      (pss_one (ps_ret (pe_op op_add pe_int (pe_call G1 hr rfl m1 k1 b1 .nil pass0 (pa_cons (pe_ix ix_tup (pv 0) pe_int (fun _ _ => rfl)) pa_nil))))) pss_nil)
    (pss_one (ps_ret (pe_op op_add pe_int (pe_callB (call_max2 rfl) rfl T.max (by decide +kernel) (pa_cons (pe_call G1 hr rfl m1 k1 b1 .nil pass0 (pa_cons (pe_ix ix_tup (pv 0) pe_int (fun _ _ => rfl)) pa_nil)) (pa_cons (pe_call G1 hr rfl m1 k1 b1 .nil pass0 (pa_cons (pe_ix ix_tup (pv 0) pe_int (fun _ _ => rfl)) pa_nil)) pa_nil)))))))))), ?_⟩
  cases t with
  | int n =>
    obtain ⟨a, rfl, ha⟩ := tr
    refine ⟨_, rfl, a, _, _, _, rfl, rfl, SqT.of ha, at_of (j := 0) rfl rfl, ?_⟩
    refine ⟨_, rfl, (by show 5 ≤ sizeLine; decide), fun p hp => ⟨p, leafs.map V.str, rfl, .inr (SqT.of upd_same), rfl, flat_strs _, _, rfl, ifT (show inV _ (leafs.map V.str) = true by decide +kernel) ?_⟩⟩
    exact q _ (Same.one hp)
  | bool bb =>
    obtain ⟨a, rfl, ha⟩ := tr
    refine ⟨_, rfl, a, _, _, _, rfl, rfl, SqT.of ha, at_of (j := 0) rfl rfl, ?_⟩
    refine ⟨_, rfl, (by show 5 ≤ sizeLine; decide), fun p hp => ⟨p, leafs.map V.str, rfl, .inr (SqT.of upd_same), rfl, flat_strs _, _, rfl, ifT (show inV _ (leafs.map V.str) = true by decide +kernel) ?_⟩⟩
    exact q _ (Same.one hp)
  | var x =>
    obtain ⟨a, rfl, ha⟩ := tr
    refine ⟨_, rfl, a, _, _, _, rfl, rfl, SqT.of ha, at_of (j := 0) rfl rfl, ?_⟩
    refine ⟨_, rfl, (by show 5 ≤ sizeLine; decide), fun p hp => ⟨p, leafs.map V.str, rfl, .inr (SqT.of upd_same), rfl, flat_strs _, _, rfl, ifT (show inV _ (leafs.map V.str) = true by decide +kernel) ?_⟩⟩
    exact q _ (Same.one hp)
  | member s x =>
    obtain ⟨a, rfl, ha⟩ := tr
    refine ⟨_, rfl, a, _, _, _, rfl, rfl, SqT.of ha, at_of (j := 0) rfl rfl, ?_⟩
    refine ⟨_, rfl, (by show 5 ≤ sizeLine; decide), fun p hp => ⟨p, leafs.map V.str, rfl, .inr (SqT.of upd_same), rfl, flat_strs _, _, rfl, ifT (show inV _ (leafs.map V.str) = true by decide +kernel) ?_⟩⟩
    exact q _ (Same.one hp)
  | neg u =>
    obtain ⟨a, y, rfl, ha, tr1⟩ := tr
    refine ⟨_, rfl, a, _, _, _, rfl, rfl, SqT.of ha, at_of (j := 0) rfl rfl, ?_⟩
    refine ⟨_, rfl, (by show 5 ≤ sizeLine; decide), fun p hp => ⟨p, leafs.map V.str, rfl, .inr (SqT.of upd_same), rfl, flat_strs _, _, rfl, ifF (show inV _ (leafs.map V.str) = false by decide +kernel) ?_⟩⟩
    refine ⟨_, rfl, rfl, _, rfl, ifF (show decide (V.str _ = V.str _) = false by decide +kernel) ?_⟩
    refine ⟨_, rfl, rfl, _, rfl, ifF (show decide (V.str _ = V.str _) = false by decide +kernel) ?_⟩
    refine ⟨_, rfl, rfl, _, rfl, ifF (show decide (V.str _ = V.str _) = false by decide +kernel) ?_⟩
    refine ⟨_, rfl, rfl, _, rfl, ifT (show decide (V.str _ = V.str _) = true by decide +kernel) ?_⟩
    have hS : Same H (upd H p (.tup (leafs.map V.str))) := Same.one hp
    have hd' : 1 + u.dep ≤ n + 1 := hd
    refine ⟨_, rfl, a, _, _, _, rfl, rfl, SqT.of (hS _ _ ha), at_of (j := 1) rfl rfl, y, u, rfl, tr1.same hS, by omega, fun H1 hS1 => ⟨_, _, rfl, rfl, ?_⟩⟩
    have e : (1 : Int) + ((u.dep : Nat) : Int) = (((Tree.neg u).dep : Nat) : Int) := by
      show (1 : Int) + ((u.dep : Nat) : Int) = ((1 + u.dep : Nat) : Int)
      omega
    have q' := q H1 (hS.trans hS1)
    rw [← e] at q'
    exact q'
  | bin g u u2 =>
    obtain ⟨a, y, y2, rfl, ha, tr1, tr2⟩ := tr
    refine ⟨_, rfl, a, _, _, _, rfl, rfl, SqT.of ha, at_of (j := 0) rfl rfl, ?_⟩
    refine ⟨_, rfl, (by show 5 ≤ sizeLine; decide), fun p hp => ⟨p, leafs.map V.str, rfl, .inr (SqT.of upd_same), rfl, flat_strs _, _, rfl, ifF (show inV (.str g.head) (leafs.map V.str) = false by cases g <;> decide +kernel) ?_⟩⟩
    refine ⟨_, rfl, rfl, _, rfl, ifF (show decide (V.str g.head = V.str _) = false by cases g <;> decide +kernel) ?_⟩
    refine ⟨_, rfl, rfl, _, rfl, ifF (show decide (V.str g.head = V.str _) = false by cases g <;> decide +kernel) ?_⟩
    refine ⟨_, rfl, rfl, _, rfl, ifF (show decide (V.str g.head = V.str _) = false by cases g <;> decide +kernel) ?_⟩
    refine ⟨_, rfl, rfl, _, rfl, ifF (show decide (V.str g.head = V.str _) = false by cases g <;> decide +kernel) ?_⟩
    have hS : Same H (upd H p (.tup (leafs.map V.str))) := Same.one hp
    have hd' : 1 + max u.dep u2.dep ≤ n + 1 := hd
    refine ⟨_, rfl, a, _, _, _, rfl, rfl, SqT.of (hS _ _ ha), at_of (j := 1) rfl rfl, y, u, rfl, tr1.same hS, by omega, fun H1 hS1 => ?_⟩
    refine ⟨_, rfl, a, _, _, _, rfl, rfl, SqT.of (hS1 _ _ (hS _ _ ha)), at_of (j := 2) rfl rfl, y2, u2, rfl, tr2.same (hS.trans hS1), by omega, fun H2 hS2 => ⟨_, _, rfl, _, _, rfl, rfl, ?_⟩⟩
    have e : (1 : Int) + (if ((u2.dep : Nat) : Int) > ((u.dep : Nat) : Int) then ((u2.dep : Nat) : Int) else ((u.dep : Nat) : Int)) = (((Tree.bin g u u2).dep : Nat) : Int) := by
      show (1 : Int) + (if ((u2.dep : Nat) : Int) > ((u.dep : Nat) : Int) then ((u2.dep : Nat) : Int) else ((u.dep : Nat) : Int)) = ((1 + max u.dep u2.dep : Nat) : Int)
      split <;> omega
    have q' := q H2 (hS.trans (hS1.trans hS2))
    rw [← e] at q'
    exact q'
  | call u u2 u3 =>
    obtain ⟨a, qa, y2, y3, y, rfl, ha, hq, tr1, tr2, tr3⟩ := tr
    refine ⟨_, rfl, a, _, _, _, rfl, rfl, SqT.of ha, at_of (j := 0) rfl rfl, ?_⟩
    refine ⟨_, rfl, (by show 5 ≤ sizeLine; decide), fun p hp => ⟨p, leafs.map V.str, rfl, .inr (SqT.of upd_same), rfl, flat_strs _, _, rfl, ifF (show inV _ (leafs.map V.str) = false by decide +kernel) ?_⟩⟩
    refine ⟨_, rfl, rfl, _, rfl, ifF (show decide (V.str _ = V.str _) = false by decide +kernel) ?_⟩
    refine ⟨_, rfl, rfl, _, rfl, ifT (show decide (V.str _ = V.str _) = true by decide +kernel) ?_⟩
    have hS : Same H (upd H p (.tup (leafs.map V.str))) := Same.one hp
    have hd' : 1 + max u.dep (max u2.dep u3.dep) ≤ n + 1 := hd
    refine ⟨_, rfl, a, _, _, _, rfl, rfl, SqT.of (hS _ _ ha), at_of (j := 1) rfl rfl, y, u, rfl, tr1.same hS, by omega, fun H1 hS1 => ⟨(by show 1 ≤ sizeLine; decide), fun l hl => ?_⟩⟩
    have hS2 : Same H (upd H1 l (.lst [.int (u.dep : Nat)])) := (hS.trans hS1).trans (Same.one hl)
    generalize hH2 : upd H1 l (.lst [.int (u.dep : Nat)]) = H2 at hS2
    have hl2 : H2 l = some (.lst [.int (u.dep : Nat)]) := by rw [← hH2]; exact upd_same
    refine ⟨_, rfl, a, _, _, _, rfl, rfl, SqT.of (hS2 _ _ ha), at_of (j := 2) rfl rfl, qa, rfl, ⟨_, SqT.of (hS2 _ _ hq)⟩, fun D hD => ?_⟩
    refine lc_tup (K := K) (a := qa) (xs := [y2, y3]) (fun i H' => Same H2 H' ∧ H' D = some (.lst (([u2, u3].take i).map fun u => V.int (u.dep : Nat)))) ⟨Same.one hD, upd_same⟩ (fun i H' _ hP => SqT.of (hP.1 _ _ (hS2 _ _ hq))) ?_ ?_
    · rintro i x H' hx ⟨hS3, hL⟩
      have each : ∀ (ux : Tree), TreeAt H x ux → ux.dep ≤ n → ([u2, u3].take (i + 1)) = ([u2, u3].take i) ++ [ux] → i < 2 → tCall (spDep n) [] E0 (tCons (tVar 2) tNil) [some (.ref a), some (.str "call"), some x] H' fun y H4 => ∃ acc, H4 D = some (.lst acc) ∧ acc.length < sizeLine ∧ Same H2 (upd H4 D (.lst (acc ++ [y]))) ∧ upd H4 D (.lst (acc ++ [y])) D = some (.lst (([u2, u3].take (i + 1)).map fun u => V.int (u.dep : Nat))) := by
        intro ux trx hdx et hi2
        refine ⟨_, rfl, x, ux, rfl, trx.same (hS2.trans hS3), hdx, fun H4 hS4 => ⟨_, hS4 _ _ hL, ?_, fun b o e => ?_, ?_⟩⟩
        · rw [List.length_map, List.length_take]
          have : sizeLine = 2 ^ 24 := rfl
          omega
        · rw [upd_ne (ne_of_none e hD)]
          exact hS4 _ _ (hS3 _ _ e)
        · rw [upd_same, et, List.map_append]
          rfl
      refine ⟨rfl, ?_⟩
      rcases i with _ | _ | i
      · obtain rfl := Option.some.inj hx
        exact each u2 tr2 (by omega) rfl (by decide)
      · obtain rfl := Option.some.inj hx
        exact each u3 tr3 (by omega) rfl (by decide)
      · cases hx
    · rintro H' ⟨hS3, hL⟩
      refine ⟨l, D, _, _, rfl, rfl, hS3 _ _ hl2, hL, (by show 1 + 2 ≤ sizeLine; decide), fun p2 hp2 => ?_⟩
      refine ⟨p2, [((u.dep : Nat) : Int), ((u2.dep : Nat) : Int), ((u3.dep : Nat) : Int)], rfl, SqL.of upd_same, (by show 0 < 3; decide), fun mx hm hmax => ⟨_, _, rfl, rfl, ?_⟩⟩
      have g1 := hmax _ (List.mem_cons_self)
      have g2 := hmax ((u2.dep : Nat) : Int) (by simp)
      have g3 := hmax ((u3.dep : Nat) : Int) (by simp)
      have g4 : mx = ((u.dep : Nat) : Int) ∨ mx = ((u2.dep : Nat) : Int) ∨ mx = ((u3.dep : Nat) : Int) := by simpa using hm
      have e : (1 : Int) + mx = (((Tree.call u u2 u3).dep : Nat) : Int) := by
        show (1 : Int) + mx = ((1 + max u.dep (max u2.dep u3.dep) : Nat) : Int)
        omega
      have q' := q _ (hS2.trans (hS3.trans (Same.one (o := .lst ([V.int (u.dep : Nat)] ++ ([u2, u3].take [y2, y3].length).map fun u => V.int (u.dep : Nat))) hp2)))
      rw [← e] at q'
      exact q'

theorem dep_left {j : Nat} (D : Df K mg "expression_depth" sEDepth ["e"]) : Gf P w K mg base j "expression_depth" ["e"] (spDep 0) := by
  obtain ⟨f, fd, F, m, b⟩ := D
  have no : ∀ vs H Q E, ¬ spDep 0 vs H Q E := fun vs H Q E h => by
    obtain ⟨_, t, _, _, z, _⟩ := h
    have : 1 ≤ t.dep := by cases t <;> simp [Tree.dep] <;> omega
    omega
  exact ⟨f, fd, ⟨fun vs H Q E h => absurd h (no vs H Q E), fun A outer s H args us vs Q E _ _ _ _ h => absurd h (no vs H Q E)⟩, b, F.kp, m⟩
theorem depths (T : DepT mg) (D : Df K mg "expression_depth" sEDepth ["e"]) : ∀ n, Gf P w K mg base n "expression_depth" ["e"] (spDep n)
  | 0 => dep_left D
  | n + 1 => ok_edepth T D (depths T D n)
/-- the depth of a let -/
def spItem : Sp := fun vs H Q _ => ∃ (a : Addr) (v : V) (t : Tree) (x : Str) (i : Int), vs = [.ref a] ∧ H a = some (.tup [.str "let", .str x, v, .int i]) ∧ TreeAt H v t ∧ t.dep ≤ 10 ∧ ∀ H', Same H H' → Q (.int ((1 + t.dep : Nat) : Int)) H'
theorem scDepth : FnScope ["item", "head"] ["item"] (defScope sDepth) := ⟨rfl, rfl, rfl, by decide +kernel, rfl, by decide +kernel, by decide +kernel⟩
theorem ok_depth (D : Df K mg "depth" sDepth ["item"]) (G : Gf P w K mg base 10 "expression_depth" ["e"] (spDep 10)) : Gf P w K mg base 11 "depth" ["item"] spItem := by
  obtain ⟨f, fd, F, m, b⟩ := D
  obtain ⟨f1, fd1, G1, b1, k1, m1⟩ := G
  refine ⟨f, fd, ?_, b, F.kp, m⟩
  refine F.ok scDepth (fun vs H Q E h => ?_) (fun cdv A outer s H vs Q E hr h => ?_)
  · obtain ⟨a, v, t, x, i, rfl, _⟩ := h
    rfl
  obtain ⟨a, v, t, x, i, rfl, ha, tr, hd, q⟩ := h
  refine ⟨_, pss_cons (ps_set (i := 1) scDepth.nd rfl (Or.inl rfl) (pe_ix ix_tup (pv 0) pe_int (fun _ _ => rfl)))
    (pss_cons (ps_if (PW.pt (pw_or (pt_cmpR op_eq (pv 1) pe_str (nomark _)) (pw_or1 (pt_cmpR op_eq (pv 1) pe_str (nomark _)))))
      (pss_one (ps_ret (pe_op op_add pe_int (pe_call G1 hr rfl m1 k1 b1 .nil pass0 (pa_cons (pe_ix ix_tup (pv 0) pe_int (fun _ _ => rfl)) pa_nil))))) pss_nil)
    pss_never), ?_⟩
  refine ⟨_, rfl, a, _, _, _, rfl, rfl, SqT.of ha, at_of (j := 0) rfl rfl, ?_⟩
  refine ⟨_, rfl, rfl, _, rfl, ifT (show decide (V.str _ = V.str _) = true by decide +kernel) (ifT rfl ?_)⟩
  refine ⟨_, rfl, a, _, _, _, rfl, rfl, SqT.of ha, at_of (j := 2) rfl rfl, v, t, rfl, tr, hd, fun H1 hS => ⟨_, _, rfl, rfl, ?_⟩⟩
  have e : (1 : Int) + ((t.dep : Nat) : Int) = ((1 + t.dep : Nat) : Int) := by omega
  have q' := q H1 hS
  rw [← e] at q'
  exact q'
end
end K2
set_option maxRecDepth 100000
set_option maxHeartbeats 4000000
/-! The walk of the parser: parse. -/
namespace K2
open PySem L2 TL
def spParse : Sp := fun vs H Q _ => ∃ (z m x : Str) (i : Nat) (us : List (Tok × Nat)) (ts : List Tok) (t : Tree), vs = [.str z, .str m] ∧ z.length ≤ 20000 ∧ LexR (tl z) 0 ((.word "let", i) :: us) ∧ us.map (·.1) = .name x :: .sign "=" :: ts ∧
  (RR 3).1 1 ts t [.sign ";"] ∧ t.dep ≤ 10 ∧
  ∀ l a v H', Same H H' → H' l = some (.lst [.ref a]) → H' a = some (.tup [.str "let", .str x, v, .int i]) → TreeAt H' v t → Q (.ref l) H'
section
variable {P : Program} {w : World} {K : PySem.W.Frag} {mg : Str → Option Value} {base : Heap} {C : Addr}
theorem scParse : FnScope ["text", "module", "reader", "items", "at"] ["text", "module"] (defScope sParse) := ⟨rfl, rfl, rfl, by decide +kernel, rfl, by decide +kernel, by decide +kernel⟩
theorem ok_parse {fI : Addr} {fdI : FuncData} (M : Ms P w K mg base C 29) (hM : ∃ t, mg "MAX_DEPTH" = some (.int 12 t)) (MK : Mk K C fI) (GI : FnOk P w K mg base CX0 7 fI fdI ["self", "text", "module"] (spInit C)) (bI : Binds K fdI ["self", "text", "module"] [])
    (D : Df K mg "parse" sParse ["text", "module"]) (GS : Gf P w K mg base 29 "read_statement" ["reader", "level"] (spStmt C (RR 3).1)) (GD : Gf P w K mg base 11 "depth" ["item"] spItem) : Gf P w K mg base 30 "parse" ["text", "module"] spParse := by
  obtain ⟨f, fd, F, m, b⟩ := D
  obtain ⟨f1, fd1, G1, b1, k1, m1⟩ := GS
  obtain ⟨f2, fd2, G2, b2, k2, m2⟩ := GD
  obtain ⟨ft, fdt, Gt, bt, mt⟩ := M.at_
  obtain ⟨fA, fdA, GA, bA, mA⟩ := M.accept
  obtain ⟨tM, mM⟩ := hM
  refine ⟨f, fd, ?_, b, F.kp, m⟩
  refine F.ok scParse (fun vs H Q E h => ?_) (fun cdv A outer s H vs Q E hr h => ?_)
  · obtain ⟨z, m, x, i, us, ts, t, rfl, _⟩ := h
    rfl
  obtain ⟨z, m, x, i, us, ts, t, rfl, hz, hx, hus, hE, hdep, q⟩ := h
  have hr11 : Room 11 _ := hr.mono (by decide)
  have hr8 : Room 8 _ := hr.mono (by decide)
  refine ⟨_, pss_cons (ps_set (i := 2) scParse.nd rfl (Or.inl rfl) (pe_make MK GI hr8 rfl M.rd.mgC bI .nil pass0 (pa_cons (pv 0) (pa_cons (pv 1) pa_nil))))
    (pss_cons (ps_set (i := 3) scParse.nd rfl (Or.inl rfl) (pe_lst pa_nil))
    (pss_cons (ps_while PassesOwn.never (pt_cmpR op_lt (pe_fld (pv 2) rfl) (pe_callB call_len_seq rfl M.rd.len PySem.boot_len (pa_cons (pe_fld (pv 2) rfl) pa_nil)) (nomark _))
      (pss_cons (ps_set (i := 4) scParse.nd rfl (Or.inl rfl) (pe_meth0 (pv 2) M.rd.cl mt Gt hr bt .nil pass0))
      (pss_cons (ps_if (pt_val (pe_meth (pv 2) M.rd.cl mA GA hr bA .nil pass0 (pa_cons pe_str (pa_cons pe_str pa_nil)))) pss_never
        (pss_one (ps_if (pt_val (pe_meth (pv 2) M.rd.cl mA GA hr bA .nil pass0 (pa_cons pe_str (pa_cons pe_str pa_nil)))) pss_never
          (pss_one (ps_expr (pe_bm PySem.F.plainAttrs_list PySem.F.slot_list_append PySem.F.type_list_append mt_append (pv 3) (pa_cons (pe_call G1 hr rfl m1 k1 b1 .nil pass0 (pa_cons (pv 2) (pa_cons pe_int pa_nil))) pa_nil)))))))
      (pss_one (ps_if (PW.pt (pw_or (pt_cmpR op_gt (pe_call G2 hr11 rfl m2 k2 b2 .nil pass0 (pa_cons (pe_ix ix_list (pv 3) (pe_op op_sub (pe_callB call_len_seq rfl M.rd.len PySem.boot_len (pa_cons (pv 3) pa_nil)) pe_int) (fun _ _ => rfl)) pa_nil)) (pe_gint rfl mM) (nomark _))
          (pw_or1 (PW.pt (pw_and (pt_cmpR op_gt (pe_callB call_len_seq rfl M.rd.len PySem.boot_len (pa_cons (pv 3) pa_nil)) pe_int (nomark _))
            (pw_and1 (pt_cmpR op_gt (pe_call G2 hr11 rfl m2 k2 b2 .nil pass0 (pa_cons (pe_ix ix_list (pv 3) (pe_op op_sub (pe_callB call_len_seq rfl M.rd.len PySem.boot_len (pa_cons (pv 3) pa_nil)) pe_int) (fun _ _ => rfl)) pa_nil)) (pe_gint rfl mM) (nomark _)))))))) pss_never pss_nil)))))
    (pss_one (ps_ret (pv 3))))), ?_⟩
  refine ⟨_, rfl, _, rfl, fun p dx np ndx ne => ⟨p, dx, z, m, _, rfl, upd_same, hz, hx, fun U H1 hU R1 x1 => ⟨rfl, ?_⟩⟩⟩
  have hS1 : Same H H1 := fun b o e => x1 _ _ (by rw [upd_ne (ne_of_none e np), upd_ne (ne_of_none e ndx)]; exact e) (ne_of_none e np)
  refine ⟨(by show 0 ≤ sizeLine; decide), fun l hl => ?_⟩
  have hS2 : Same H (upd H1 l (.lst [])) := hS1.trans (Same.one hl)
  have R2 := R1.same (Same.one (o := .lst []) hl)
  have hpl : l ≠ p := (ne_of_none R1.place.1 hl).symm
  generalize hH2 : upd H1 l (.lst []) = H2 at hS2 R2
  have hl2 : H2 l = some (.lst []) := by rw [← hH2]; exact upd_same
  have hlen : U.toks.length = ts.length + 3 := by
    have := congrArg List.length hus
    rw [List.length_map] at this
    rw [hU, List.length_cons, this, List.length_cons, List.length_cons]
  have ets : (((Tok.word "let", i) :: us).map (·.1)) = .word "let" :: .name x :: .sign "=" :: ts := by rw [List.map_cons, hus]
  rw [ets] at R2
  refine ⟨fun n st H' => (n = 1 ∧ H' = H2 ∧ st = [some (.str z), some (.str m), some (.ref p), some (.ref l), none]) ∨
      (n = 0 ∧ ∃ v4 a v, st = [some (.str z), some (.str m), some (.ref p), some (.ref l), v4] ∧ RdAt C H' p U [] ∧ Same H H' ∧ H' l = some (.lst [.ref a]) ∧ H' a = some (.tup [.str "let", .str x, v, .int i]) ∧ TreeAt H' v t), ⟨1, .inl ⟨rfl, rfl, rfl⟩⟩, ?_⟩
  rintro n st H' (⟨rfl, rfl, rfl⟩ | ⟨rfl, v4, a, v, rfl, R', hS', hl', ha', tr'⟩)
  · obtain ⟨g1, g2, g3, g4⟩ := R2.place
    have hlm : (U.as.map V.ref).length = U.as.length := List.length_map _
    refine ⟨_, rfl, p, C, _, _, _, rfl, g1, M.rd.cl, M.rd.nPlace, rf_place, ?_⟩
    refine ⟨_, rfl, p, C, _, _, _, rfl, g1, M.rd.cl, M.rd.nRest, rf_rest, ?_⟩
    refine ⟨_, _, rfl, .inl (SqL.of g2), _, _, rfl, rfl, _, rfl, ifT (decide_eq_true ?_) ?_⟩
    · show ((U.toks.length - (Tok.word "let" :: Tok.name x :: Tok.sign "=" :: ts).length : Nat) : Int) < (((U.as.map V.ref).length : Nat) : Int)
      rw [hlm, g3, hlen]
      simp only [List.length_cons]
      omega
    refine ⟨fun st H3 => ∃ v4 a v, st = [some (.str z), some (.str m), some (.ref p), some (.ref l), v4] ∧ RdAt C H3 p U [] ∧ Same H H3 ∧ H3 l = some (.lst [.ref a]) ∧ H3 a = some (.tup [.str "let", .str x, v, .int i]) ∧ TreeAt H3 v t, fun st H3 h3 => ⟨0, by decide, .inr ⟨rfl, h3⟩⟩, ?_⟩
    refine ⟨_, rfl, p, _, _, rfl, g1, rfl, p, U, _, _, rfl, R2, fun j _ => ?_⟩
    refine ⟨_, rfl, p, _, _, rfl, g1, rfl, p, U, _, _, _, _, rfl, R2, .inl ⟨tok_word_no (word_ne (by decide +kernel)), _, rfl, ifF rfl ?_⟩⟩
    refine ⟨_, rfl, p, _, _, rfl, g1, rfl, p, U, _, _, _, _, rfl, R2, .inl ⟨tok_word_no (word_ne (by decide +kernel)), _, rfl, ifF rfl ?_⟩⟩
    refine ⟨_, rfl, .inl ⟨rfl, _, SqL.of hl2⟩, _, rfl, p, U, i, 1, x, ts, t, [], rfl, R2, by rw [hlen, Nat.sub_self, hU]; rfl, hE, fun a v H3 R3 x3 ha3 tr3 => ?_⟩
    have hl3 := x3 _ _ hl2 hpl
    refine ⟨l, _, _, rfl, rfl, hl3, (by show 0 < sizeLine; decide), ?_⟩
    have hUl : l ≠ U.l := fun e => by
      have e1 := R1.place.2.1
      rw [← e, hl] at e1
      cases e1
    have R4 : RdAt C (upd H3 l (.lst [.ref a])) p U [] := R3.other hpl hUl hl3
    have hS4 : Same H (upd H3 l (.lst [.ref a])) := fun b o e => by
      have nb : b ≠ l := fun z => by
        have := hS1 _ _ e
        rw [z, hl] at this
        cases this
      rw [upd_ne nb]
      exact x3 _ _ (hS2 _ _ e) (ne_of_none e np)
    have ha4 := tups_lst (ys := [V.ref a]) hl3 _ _ ha3
    have tr4 := tr3.mono (tups_lst (ys := [V.ref a]) hl3)
    have hl4 : upd H3 l (.lst [.ref a]) l = some (.lst [.ref a]) := upd_same
    have e0 : atI ([V.ref a] : List V) ((([V.ref a] : List V).length : Int) - 1) = some (.ref a) := at_of (j := 0) (by rfl) rfl
    refine ⟨_, rfl, _, rfl, l, _, rfl, .inl (SqL.of hl4), _, _, rfl, rfl, l, _, _, _, rfl, rfl, SqL.of hl4, e0, a, v, t, x, i, rfl, ha4, tr4, hdep, fun H5 hS5 => ?_⟩
    refine ⟨_, _, rfl, rfl, _, rfl, ifF (decide_eq_false (by omega)) ?_⟩
    refine ⟨_, rfl, l, _, rfl, .inl (SqL.of (hS5 _ _ hl4)), _, _, rfl, rfl, _, rfl, ifF (decide_eq_false (show ¬ (1 : Int) < (([V.ref a] : List V).length : Int) by simp)) ?_⟩
    refine ifF rfl ?_
    exact ⟨_, a, v, rfl, R4.same hS5, hS4.trans hS5, hS5 _ _ hl4, hS5 _ _ ha4, tr4.same hS5⟩
  · obtain ⟨g1, g2, g3, g4⟩ := R'.place
    have hlm : (U.as.map V.ref).length = U.as.length := List.length_map _
    refine ⟨_, rfl, p, C, _, _, _, rfl, g1, M.rd.cl, M.rd.nPlace, rf_place, ?_⟩
    refine ⟨_, rfl, p, C, _, _, _, rfl, g1, M.rd.cl, M.rd.nRest, rf_rest, ?_⟩
    refine ⟨_, _, rfl, .inl (SqL.of g2), _, _, rfl, rfl, _, rfl, ifF (decide_eq_false ?_) ⟨_, rfl, q l a v H' hS' hl' ha' tr'⟩⟩
    show ¬ ((U.toks.length - ([] : List Tok).length : Nat) : Int) < (((U.as.map V.ref).length : Nat) : Int)
    rw [hlm, g3]
    simp
end
end K2
/-! The law's own defs in plain Lean. -/
namespace K2
open PySem TL
/-- the operand that a cell stands for -/
def opdOf (c : Int) : Opd :=
  if c % 6 < 2 then .num (c / 6 % 65536).toNat
  else if c % 6 = 2 then .name (c / 6 % 4).toNat
  else if c % 6 = 3 then .mem (c / 6 % 4).toNat
  else if c % 6 = 4 then .call (c / 6 % 4).toNat (c / 6 % 65536).toNat
  else .neg
theorem opdOf_small (c : Int) : (opdOf c).small := by
  unfold opdOf
  split
  · show (c / 6 % 65536).toNat < 65536
    omega
  split
  · trivial
  split
  · trivial
  split
  · show (c / 6 % 65536).toNat < 65536
    omega
  · trivial
theorem nm_at (i : Nat) (h : i < 4) : (["a", "b", "xy", "f_1"] : List Str)[i]? = some (nm i) := by
  match i, h with
  | 0, _ => rfl
  | 1, _ => rfl
  | 2, _ => rfl
  | 3, _ => rfl

/-! ### the split, as the law does it -/
abbrev Grp := Opd × Tail
def spl (l : Nat) : List Grp → Grp → List Sg → Tail → List Grp × List Sg
  | dn, cur, fd, [] => (dn ++ [cur], fd)
  | dn, cur, fd, (g, o) :: r => if g.lev = l then spl l (dn ++ [cur]) (o, []) (fd ++ [g]) r else spl l dn (cur.1, cur.2 ++ [(g, o)]) fd r
theorem spl_eq (l : Nat) : ∀ (r : Tail) (dn : List Grp) (cur : Grp) (fd : List Sg),
    spl l dn cur fd r = (dn ++ (cur.1, cur.2 ++ (splitAtLev l r).1) :: (splitAtLev l r).2.map (·.2), fd ++ (splitAtLev l r).2.map (·.1))
  | [], dn, cur, fd => by simp [spl, splitAtLev]
  | (g, o) :: r, dn, cur, fd => by
    unfold spl splitAtLev
    split
    · rw [spl_eq l r]
      simp
    · rw [spl_eq l r]
      simp
def wanted : Nat → List Str
  | 0 => ["or"] | 1 => ["and"] | 2 => ["<", "=="] | 3 => ["+", "-"] | 4 => ["*"] | _ => []
theorem in_wanted (l : Nat) (hl : l < 5) (g : Sg) : (g.str ∈ wanted l) ↔ g.lev = l := by
  match l, hl with
  | 0, _ => cases g <;> decide +kernel
  | 1, _ => cases g <;> decide +kernel
  | 2, _ => cases g <;> decide +kernel
  | 3, _ => cases g <;> decide +kernel
  | 4, _ => cases g <;> decide +kernel
/-- the chain over two lists -/
def chainT (t : Tree) (gs : List Sg) (ts : List Tree) : Tree := (gs.zip ts).foldl (fun t x => .bin x.1 t x.2) t
theorem chain_groups (k : Nat) : ∀ (gs : List (Sg × Opd × Tail)) (t : Tree), chainT t (gs.map (·.1)) (gs.map fun x => due k x.2.1 x.2.2) = gs.foldl (fun t x => .bin x.1 t (due k x.2.1 x.2.2)) t
  | [], t => rfl
  | x :: gs, t => by
    show chainT (.bin x.1 t (due k x.2.1 x.2.2)) (gs.map (·.1)) (gs.map fun x => due k x.2.1 x.2.2) = _
    rw [chain_groups k gs]
    rfl
theorem chainT_snoc (t : Tree) (gs : List Sg) (ts : List Tree) (g : Sg) (u : Tree) (h : gs.length = ts.length) : chainT t (gs ++ [g]) (ts ++ [u]) = .bin g (chainT t gs ts) u := by
  unfold chainT
  rw [List.zip_append h, List.foldl_append]
  rfl
theorem due_succ (k : Nat) (p : Opd) (r : Tail) : due (k + 1) p r = chainT (due k p (splitAtLev (4 - k) r).1) ((splitAtLev (4 - k) r).2.map (·.1)) ((splitAtLev (4 - k) r).2.map fun x => due k x.2.1 x.2.2) := by
  rw [chain_groups]
  rfl

/-! ### the law's loop -/
def sgAt (c : Int) : Sg :=
  match (c % 8).toNat with
  | 0 => .or | 1 => .and | 2 => .lt | 3 => .eq | 4 => .add | 5 => .sub | 6 => .mul | _ => .add
theorem sg_at (c : Int) : (["or", "and", "<", "==", "+", "-", "*", "+"] : List Str)[(c % 8).toNat]? = some (sgAt c).str := by
  have h : (c % 8).toNat < 8 := by omega
  unfold sgAt
  generalize (c % 8).toNat = i at h
  match i, h with
  | 0, _ => rfl
  | 1, _ => rfl
  | 2, _ => rfl
  | 3, _ => rfl
  | 4, _ => rfl
  | 5, _ => rfl
  | 6, _ => rfl
  | 7, _ => rfl
/-- the operator that is taken: at most one comparison -/
def pick (f : Bool) (c : Int) : Sg := if f = true ∧ (sgAt c).cmp = true then .mul else sgAt c
theorem pick_ok (f : Bool) (c : Int) : f = true → (pick f c).cmp = false := by
  intro h
  unfold pick
  by_cases e : (sgAt c).cmp = true
  · rw [if_pos ⟨h, e⟩]
    rfl
  · rw [if_neg fun z => e z.2]
    simpa using e
/-- a cell's part of the text -/
def partOf (f : Bool) (c : Int) : Part := (decide (c / 4 % 2 = 1), pick f c, opdOf (c / 8))
end K2
set_option maxRecDepth 100000
set_option maxHeartbeats 4000000
/-! The walk of the law's own defs: cells, operands. -/
namespace K2
open PySem L2 TL
/-- what the law's defs ask of the module's names -/
structure LawT (mg : Str → Option Value) : Prop where
  len : mg "len" = none
  int : mg "int" = none
  str : mg "str" = none
  range : mg "range" = none
  min : mg "min" = none
  abs : mg "abs" = none
  isinstance : mg "isinstance" = none
  list : mg "list" = none
  repr : mg "repr" = none
def spCellL (K : PySem.W.Frag) : Sp := fun vs H Q _ => ∃ (a : Addr) (ns : List Int) (k : Nat), vs = [.ref a, .int k] ∧ SqL K H a (ns.map V.int) ∧ Q (.int (ns.getD k 0)) H
def spOpd : Sp := fun vs H Q _ => ∃ c : Int, vs = [.int c] ∧ 0 ≤ c ∧ ∀ l v H', Same H H' → H l = none → H' l = some (.lst [.str (opdOf c).text, v]) → TreeAt H' v (opdOf c).tree → Q (.ref l) H'
section
variable {P : Program} {w : World} {K : PySem.W.Frag} {mg : Str → Option Value} {base : Heap}
theorem scCell : FnScope ["_law_script", "_law_k"] ["_law_script", "_law_k"] (defScope sCell) := ⟨rfl, rfl, rfl, by decide +kernel, rfl, by decide +kernel, by decide +kernel⟩
theorem ok_cell (T : LawT mg) (D : Df K mg "_law_cell" sCell ["_law_script", "_law_k"]) : Gf P w K mg base 1 "_law_cell" ["_law_script", "_law_k"] (spCellL K) := by
  obtain ⟨f, fd, F, m, b⟩ := D
  refine ⟨f, fd, ?_, b, F.kp, m⟩
  refine F.ok scCell (fun vs H Q E h => ?_) (fun cdv A outer s H vs Q E hr h => ?_)
  · obtain ⟨a, ns, k, rfl, _⟩ := h
    rfl
  obtain ⟨a, ns, k, rfl, hS, q⟩ := h
  refine ⟨_, pss_cons (ps_if (pt_cmpR op_lt (pv 1) (pe_callB call_len_seq rfl T.len PySem.boot_len (pa_cons (pv 0) pa_nil)) (nomark _))
      (pss_one (ps_ret (pe_callTy call_int1 rfl T.int (by decide +kernel) (pa_cons (pe_ix ix_list (pv 0) (pv 1) (fun _ _ => rfl)) pa_nil)))) pss_nil)
    (pss_one (ps_ret pe_int)), ?_⟩
  have hl : (ns.map V.int).length = ns.length := List.length_map _
  refine ⟨_, rfl, _, rfl, a, _, rfl, .inl hS, _, _, rfl, rfl, _, rfl, ?_⟩
  by_cases hlt : k < ns.length
  · refine ifT (decide_eq_true (by rw [hl]; omega)) ?_
    have hx : (ns.map V.int)[k]? = some (.int (ns.getD k 0)) := by
      rw [List.getElem?_map, List.getElem?_eq_getElem hlt, List.getD_eq_getElem?_getD, List.getElem?_eq_getElem hlt]
      rfl
    exact ⟨_, rfl, _, rfl, a, _, _, _, rfl, rfl, hS, atI_nat hx, .inl ⟨_, rfl, q⟩⟩
  · refine ifF (decide_eq_false (by rw [hl]; omega)) ?_
    have e : ns.getD k 0 = 0 := by
      rw [List.getD_eq_getElem?_getD, List.getElem?_eq_none (by omega)]
      rfl
    rw [e] at q
    exact q
theorem scOpd : FnScope ["_law_cell_here", "_law_kind", "_law_n", "_law_name"] ["_law_cell_here"] (defScope sOpd) := ⟨rfl, rfl, rfl, by decide +kernel, rfl, by decide +kernel, by decide +kernel⟩
theorem ok_opd (T : LawT mg) (D : Df K mg "_law_operand" sOpd ["_law_cell_here"]) : Gf P w K mg base 1 "_law_operand" ["_law_cell_here"] spOpd := by
  obtain ⟨f, fd, F, m, b⟩ := D
  refine ⟨f, fd, ?_, b, F.kp, m⟩
  refine F.ok scOpd (fun vs H Q E h => ?_) (fun cdv A outer s H vs Q E hr h => ?_)
  · obtain ⟨c, rfl, _⟩ := h
    rfl
  obtain ⟨c, rfl, h0, q⟩ := h
  refine ⟨_, pss_cons (ps_set (i := 1) scOpd.nd rfl (Or.inl rfl) (pe_op op_mod (pe_callTy call_int1 rfl T.int (by decide +kernel) (pa_cons (pv 0) pa_nil)) pe_int))
    (pss_cons (ps_set (i := 2) scOpd.nd rfl (Or.inl rfl) (pe_op op_mod (pe_callTy call_int1 rfl T.int (by decide +kernel) (pa_cons (pe_op op_fdiv (pv 0) pe_int) pa_nil)) pe_int))
    (pss_cons (ps_set (i := 3) scOpd.nd rfl (Or.inl rfl) (pe_ix ix_list (pe_lst (pa_cons pe_str (pa_cons pe_str (pa_cons pe_str (pa_cons pe_str pa_nil))))) (pe_op op_mod (pe_callTy call_int1 rfl T.int (by decide +kernel) (pa_cons (pe_op op_fdiv (pv 0) pe_int) pa_nil)) pe_int) (fun _ _ => rfl)))
    (pss_cons (ps_if (pt_cmpR op_lt (pv 1) pe_int (nomark _)) (pss_one (ps_ret (pe_lst (pa_cons (pe_callTy call_str_int rfl T.str (by decide +kernel) (pa_cons (pv 2) pa_nil)) (pa_cons (pe_tup (pa_cons pe_str (pa_cons (pv 2) pa_nil))) pa_nil))))) pss_nil)
    (pss_cons (ps_if (pt_cmpR op_eq (pv 1) pe_int (nomark _)) (pss_one (ps_ret (pe_lst (pa_cons (pv 3) (pa_cons (pe_tup (pa_cons pe_str (pa_cons (pv 3) pa_nil))) pa_nil))))) pss_nil)
    (pss_cons (ps_if (pt_cmpR op_eq (pv 1) pe_int (nomark _)) (pss_one (ps_ret (pe_lst (pa_cons (pe_op op_add_str pe_str (pv 3)) (pa_cons (pe_tup (pa_cons pe_str (pa_cons pe_str (pa_cons (pv 3) pa_nil)))) pa_nil))))) pss_nil)
    (pss_cons (ps_if (pt_cmpR op_eq (pv 1) pe_int (nomark _)) (pss_one (ps_ret (pe_lst (pa_cons (pe_op op_add_str (pe_op op_add_str (pe_op op_add_str (pv 3) pe_str) (pe_callTy call_str_int rfl T.str (by decide +kernel) (pa_cons (pv 2) pa_nil))) pe_str)
        (pa_cons (pe_tup (pa_cons pe_str (pa_cons (pe_tup (pa_cons pe_str (pa_cons (pv 3) pa_nil))) (pa_cons (pe_tup (pa_cons (pe_tup (pa_cons pe_str (pa_cons (pv 2) pa_nil))) (pa_cons (pe_tup (pa_cons pe_str (pa_cons pe_str pa_nil))) pa_nil))) pa_nil)))) pa_nil))))) pss_nil)
    (pss_one (ps_ret (pe_lst (pa_cons pe_str (pa_cons (pe_tup (pa_cons pe_str (pa_cons (pe_tup (pa_cons pe_str (pa_cons pe_bl pa_nil))) pa_nil))) pa_nil))))))))))), ?_⟩
  have hk : c % 6 < 6 := by omega
  have hk0 : 0 ≤ c % 6 := by omega
  have en : c / 6 % 65536 = (((c / 6 % 65536).toNat : Nat) : Int) := by omega
  have ei : c / 6 % 4 = (((c / 6 % 4).toNat : Nat) : Int) := by omega
  have hi4 : (c / 6 % 4).toNat < 4 := by omega
  have hn : (c / 6 % 65536).toNat < 65536 := by omega
  generalize hN : (c / 6 % 65536).toNat = n at en hn
  generalize hI : (c / 6 % 4).toNat = i at ei hi4
  refine ⟨_, rfl, .inl ⟨_, rfl, _, _, rfl, rfl, (by show (0 : Int) < 6; decide), ?_⟩⟩
  refine ⟨_, rfl, _, _, rfl, rfl, ⟨by decide, by decide⟩, .inl ⟨_, rfl, _, _, rfl, rfl, (by show (0 : Int) < 65536; decide), ?_⟩⟩
  refine ⟨(by show 4 ≤ sizeLine; decide), fun l0 hl0 => ?_⟩
  refine ⟨_, rfl, _, _, rfl, rfl, ⟨by decide, by decide⟩, .inl ⟨_, rfl, _, _, rfl, rfl, (by show (0 : Int) < 4; decide), l0, (["a", "b", "xy", "f_1"] : List Str).map V.str, c / 6 % 4, .str (nm i), rfl, rfl, SqL.of upd_same, at_of (j := i) ei (by rw [List.getElem?_map, nm_at i hi4]; rfl), ?_⟩⟩
  have hS0 : Same H (upd H l0 (.lst [.str "a", .str "b", .str "xy", .str "f_1"])) := Same.one hl0
  show tSeq _ _ _ [some (.int c), some (.int (c % 6)), some (.int (c / 6 % 65536)), some (.str (nm i))] _
  rw [en]
  have hlog : (((n : Nat) : Int)).natAbs.log2 < 1920 := by
    rw [Int.natAbs_natCast]
    have := Nat.log2_lt (n := n) (k := 16)
    by_cases hz : n = 0
    · subst hz
      decide
    · have h16 : n < 2 ^ 16 := hn
      have := (Nat.log2_lt hz).mpr h16
      omega
  have hnm : (nm i).length ≤ 20 := by rw [len_tl]; exact (nm_facts i).2.1
  have hstr : (strN n).length ≤ 5 := by
    rw [len_tl]
    unfold strN
    rw [tl_num]
    exact numL_len (by decide) (by omega)
  have line : ∀ k, k ≤ 1000 → k ≤ sizeLine := fun k hk => Nat.le_trans hk (by decide)
  have isno : ∀ k : Int, c % 6 ≠ k → decide (V.int (c % 6) = V.int k) = false := fun k hk => decide_eq_false fun e => hk (V.int.inj e)
  by_cases h2 : c % 6 < 2
  · have eo : opdOf c = .num n := by unfold opdOf; rw [if_pos h2, hN]
    rw [eo] at q
    refine ⟨_, rfl, _, _, rfl, rfl, _, rfl, ifT (decide_eq_true h2) ?_⟩
    refine ⟨_, rfl, _, rfl, hlog, _, rfl, (by show 2 ≤ sizeLine; decide), fun a ha => ⟨(by show 2 ≤ sizeLine; decide), fun l hl => ?_⟩⟩
    have hS1 := hS0.trans (Same.one (o := .tup [.str "int", .int n]) ha)
    exact q l (.ref a) _ (hS1.trans (Same.one hl)) (hS1.free hl) upd_same ⟨a, rfl, Same.one hl _ _ upd_same⟩
  refine ⟨_, rfl, _, _, rfl, rfl, _, rfl, ifF (decide_eq_false h2) ?_⟩
  by_cases h3 : c % 6 = 2
  · have eo : opdOf c = .name i := by unfold opdOf; rw [if_neg h2, if_pos h3, hI]
    rw [eo] at q
    refine ⟨_, rfl, rfl, _, rfl, ifT (decide_eq_true (by rw [h3])) ?_⟩
    refine ⟨_, rfl, _, rfl, (by show 2 ≤ sizeLine; decide), fun a ha => ⟨(by show 2 ≤ sizeLine; decide), fun l hl => ?_⟩⟩
    have hS1 := hS0.trans (Same.one (o := .tup [.str "var", .str (nm i)]) ha)
    exact q l (.ref a) _ (hS1.trans (Same.one hl)) (hS1.free hl) upd_same ⟨a, rfl, Same.one hl _ _ upd_same⟩
  refine ⟨_, rfl, rfl, _, rfl, ifF (isno 2 h3) ?_⟩
  by_cases h4 : c % 6 = 3
  · have eo : opdOf c = .mem i := by unfold opdOf; rw [if_neg h2, if_neg h3, if_pos h4, hI]
    rw [eo] at q
    refine ⟨_, rfl, rfl, _, rfl, ifT (decide_eq_true (by rw [h4])) ?_⟩
    refine ⟨_, rfl, _, _, rfl, rfl, line _ (by show 2 + (nm i).length ≤ 1000; omega), _, rfl, (by show 3 ≤ sizeLine; decide), fun a ha => ⟨(by show 2 ≤ sizeLine; decide), fun l hl => ?_⟩⟩
    have hS1 := hS0.trans (Same.one (o := .tup [.str "member", .str "s", .str (nm i)]) ha)
    exact q l (.ref a) _ (hS1.trans (Same.one hl)) (hS1.free hl) upd_same ⟨a, rfl, Same.one hl _ _ upd_same⟩
  refine ⟨_, rfl, rfl, _, rfl, ifF (isno 3 h4) ?_⟩
  by_cases h5 : c % 6 = 4
  · have eo : opdOf c = .call i n := by unfold opdOf; rw [if_neg h2, if_neg h3, if_neg h4, if_pos h5, hI, hN]
    rw [eo] at q
    refine ⟨_, rfl, rfl, _, rfl, ifT (decide_eq_true (by rw [h5])) ?_⟩
    have e1 : (nm i ++ ("(" : Str)).length = (nm i).length + 1 := by
      rw [len_tl, tl_append, List.length_append, ← len_tl]
      rfl
    have e2 : ((nm i ++ ("(" : Str)) ++ strN n).length = (nm i).length + 1 + (strN n).length := by
      rw [len_tl, tl_append, List.length_append, ← len_tl, ← len_tl, e1]
    refine ⟨_, rfl, _, _, rfl, rfl, line _ (by show (nm i).length + 1 ≤ 1000; omega), _, rfl, _, rfl, hlog, _, _, rfl, rfl, line _ ?_, _, _, rfl, rfl, line _ ?_, ?_⟩
    · show (nm i ++ ("(" : Str)).length + (strN n).length ≤ 1000
      omega
    · show ((nm i ++ ("(" : Str)) ++ strN n).length + 4 ≤ 1000
      omega
    refine ⟨_, rfl, (by show 2 ≤ sizeLine; decide), fun a1 p1 => ⟨_, rfl, (by show 2 ≤ sizeLine; decide), fun a2 p2 => ⟨(by show 2 ≤ sizeLine; decide), fun a3 p3 => ⟨(by show 2 ≤ sizeLine; decide), fun a4 p4 => ⟨(by show 3 ≤ sizeLine; decide), fun a5 p5 => ⟨(by show 2 ≤ sizeLine; decide), fun l hl => ?_⟩⟩⟩⟩⟩⟩
    have s6 := Same.one (o := .lst [.str ((nm i ++ ("(" : Str)) ++ strN n ++ (", b)" : Str)), .ref a5]) hl
    have s5 := (Same.one (o := .tup [.str "call", .ref a1, .ref a4]) p5).trans s6
    have s4 := (Same.one (o := .tup [.ref a2, .ref a3]) p4).trans s5
    have s3 := (Same.one (o := .tup [.str "var", .str "b"]) p3).trans s4
    have s2 := (Same.one (o := .tup [.str "int", .int n]) p2).trans s3
    have s1 := (Same.one (o := .tup [.str "var", .str (nm i)]) p1).trans s2
    have fr : H l = none := ((((((hS0.trans (Same.one p1)).trans (Same.one p2)).trans (Same.one p3)).trans (Same.one p4)).trans (Same.one p5))).free hl
    exact q l (.ref a5) _ (hS0.trans s1) fr upd_same ⟨a5, a4, .ref a2, .ref a3, .ref a1, rfl, s6 _ _ upd_same, s5 _ _ upd_same, ⟨a1, rfl, s2 _ _ upd_same⟩, ⟨a2, rfl, s3 _ _ upd_same⟩, ⟨a3, rfl, s4 _ _ upd_same⟩⟩
  · have eo : opdOf c = .neg := by unfold opdOf; rw [if_neg h2, if_neg h3, if_neg h4, if_neg h5]
    rw [eo] at q
    refine ⟨_, rfl, rfl, _, rfl, ifF (isno 4 h5) ?_⟩
    refine ⟨(by show 2 ≤ sizeLine; decide), fun a1 p1 => ⟨(by show 2 ≤ sizeLine; decide), fun a2 p2 => ⟨(by show 2 ≤ sizeLine; decide), fun l hl => ?_⟩⟩⟩
    have s3 := Same.one (o := .lst [.str "(not true)", .ref a2]) hl
    have s2 := (Same.one (o := .tup [.str "not", .ref a1]) p2).trans s3
    have s1 := (Same.one (o := .tup [.str "bool", .bl true]) p1).trans s2
    have fr : H l = none := ((hS0.trans (Same.one p1)).trans (Same.one p2)).free hl
    exact q l (.ref a2) _ (hS0.trans s1) fr upd_same ⟨a2, .ref a1, rfl, s3 _ _ upd_same, ⟨a1, rfl, s2 _ _ upd_same⟩⟩
end
end K2
set_option maxRecDepth 100000
set_option maxHeartbeats 4000000
/-! The walk of the law's own defs: chains, splits, trees. -/
namespace K2
open PySem L2 TL
def TreesAt (H : Hp) (vs : List V) (ts : List Tree) : Prop := Paired (fun v t => TreeAt H v t) vs ts
theorem TreesAt.mono {H H' : Hp} {vs : List V} {ts : List Tree} (h : TreesAt H vs ts) (k : ∀ a xs, H a = some (.tup xs) → H' a = some (.tup xs)) : TreesAt H' vs ts := Paired.mapP h fun _ _ e => e.mono k
theorem TreesAt.same {H H' : Hp} {vs : List V} {ts : List Tree} (h : TreesAt H vs ts) (s : Same H H') : TreesAt H' vs ts := h.mono fun _ _ e => s _ _ e
/-- signs as values -/
def sgV (gs : List Sg) : List V := gs.map fun g => V.str g.str
theorem sgV_get {gs : List Sg} {i : Nat} {g : Sg} (h : gs[i]? = some g) : (sgV gs)[i]? = some (.str g.str) := by
  unfold sgV
  rw [List.getElem?_map, h]
  rfl
theorem sgV_len (gs : List Sg) : (sgV gs).length = gs.length := List.length_map _
/-- the heads of the operators -/
def headsK : List (Key × V) := mergeK [] [(Sum.inr "or", .str "or"), (Sum.inr "and", .str "and"), (Sum.inr "<", .str "lt"), (Sum.inr "==", .str "eq"), (Sum.inr "+", .str "add"), (Sum.inr "-", .str "sub"), (Sum.inr "*", .str "mul")]
theorem heads_at (g : Sg) : L2.valV headsK (Sum.inr g.str) = some (V.str g.head) := by cases g <;> decide +kernel
def spChainL : Sp := fun vs H Q _ => ∃ (pa sa ha : Addr) (xs : List V) (t0 : Tree) (ts : List Tree) (gs : List Sg), vs = [.ref pa, .ref sa, .ref ha] ∧ H pa = some (.lst xs) ∧ TreesAt H xs (t0 :: ts) ∧ H sa = some (.lst (sgV gs)) ∧ gs.length = ts.length ∧ gs.length ≤ 7 ∧ H ha = some (.dK headsK) ∧
  ∀ v H', Same H H' → TreeAt H' v (chainT t0 gs ts) → Q v H'
section
variable {P : Program} {w : World} {K : PySem.W.Frag} {mg : Str → Option Value} {base : Heap}
theorem scChain : FnScope ["_law_parts", "_law_signs", "_law_heads", "_law_tree_here", "_law_k"] ["_law_parts", "_law_signs", "_law_heads"] (defScope sChain) := ⟨rfl, rfl, rfl, by decide +kernel, rfl, by decide +kernel, by decide +kernel⟩
theorem ok_chain (T : LawT mg) (D : Df K mg "_law_chain" sChain ["_law_parts", "_law_signs", "_law_heads"]) : Gf P w K mg base 1 "_law_chain" ["_law_parts", "_law_signs", "_law_heads"] spChainL := by
  obtain ⟨f, fd, F, m, b⟩ := D
  refine ⟨f, fd, ?_, b, F.kp, m⟩
  refine F.ok scChain (fun vs H Q E h => ?_) (fun cdv A outer s H vs Q E hr h => ?_)
  · obtain ⟨pa, sa, ha, xs, t0, ts, gs, rfl, _⟩ := h
    rfl
  obtain ⟨pa, sa, ha, xs, t0, ts, gs, rfl, hp, hT, hs, hl, h7, hh, q⟩ := h
  have hu := hu_of hr
  refine ⟨_, pss_cons (ps_set (i := 3) scChain.nd rfl (Or.inl rfl) (pe_ix ix_list (pv 0) pe_int (fun _ _ => rfl)))
    (pss_cons (ps_for PassesOwn.never rfl (pi_range1 rfl T.range (pa_cons (pe_callB call_len_seq rfl T.len PySem.boot_len (pa_cons (pv 1) pa_nil)) pa_nil)) (pg_name (i := 4) scChain.nd rfl (Or.inl rfl))
      (pss_one (ps_set (i := 3) scChain.nd rfl (Or.inl rfl) (pe_tup (pa_cons (pe_dget hu (pv 2) (pe_ix ix_list (pv 1) (pv 4) (fun _ _ => rfl)) (fun _ _ => rfl)) (pa_cons (pv 3) (pa_cons (pe_ix ix_list (pv 0) (pe_op op_add (pv 4) pe_int) (fun _ _ => rfl)) pa_nil)))))))
    (pss_one (ps_ret (pv 3)))), ?_⟩
  obtain ⟨v0, e0, tr0⟩ := paired_at (i := 0) hT rfl
  have sl : ((sgV gs).length : Int) = (gs.length : Int) := by rw [sgV_len]
  have sn : ((sgV gs).length : Int).toNat = gs.length := by rw [sl]; rfl
  refine ⟨_, rfl, pa, _, _, _, rfl, rfl, SqL.of hp, at_of (j := 0) rfl e0, ?_⟩
  refine ⟨_, rfl, sa, _, rfl, .inl (SqL.of hs), _, rfl, ?_, ?_, for_range (lo := 0) (n := ((sgV gs).length : Int).toNat) (fun i st H' => Same H H' ∧ ∃ v vk, st = [some (.ref pa), some (.ref sa), some (.ref ha), some v, vk] ∧ TreeAt H' v (chainT t0 (gs.take i) (ts.take i))) ⟨fun _ _ e => e, v0, none, rfl, tr0⟩ ?_ ?_⟩
  · rw [sl]; omega
  · rw [sl]; omega
  · rintro i st H' hi ⟨hS, v, vk, rfl, tr⟩
    rw [sn] at hi
    obtain ⟨g, hg⟩ : ∃ g, gs[i]? = some g := ⟨gs[i], List.getElem?_eq_getElem hi⟩
    obtain ⟨u, hu'⟩ : ∃ u, ts[i]? = some u := ⟨ts[i]'(by omega), List.getElem?_eq_getElem (by omega)⟩
    obtain ⟨x, hx, trx⟩ := paired_at (i := i + 1) (y := u) hT (by simpa using hu')
    refine ⟨_, rfl, _, rfl, _, rfl, sa, _, _, _, rfl, rfl, SqL.of (hS _ _ hs), at_of (j := i) (by omega) (sgV_get hg), ha, .str g.head, rfl, ?_, ?_⟩
    · rw [← heads_at g]
      exact DGet.k (k := Sum.inr g.str) (hS _ _ hh)
    · refine ⟨_, rfl, _, rfl, _, rfl, _, _, rfl, rfl, pa, _, _, _, rfl, rfl, SqL.of (hS _ _ hp), at_of (j := i + 1) (by omega) hx, (by show 3 ≤ sizeLine; decide), fun a ha' => ?_⟩
      refine ⟨hS.trans (Same.one ha'), _, _, rfl, ?_⟩
      have et : gs.take (i + 1) = gs.take i ++ [g] := by rw [List.take_add_one, hg]; rfl
      have eu : ts.take (i + 1) = ts.take i ++ [u] := by rw [List.take_add_one, hu']; rfl
      rw [et, eu, chainT_snoc _ _ _ _ _ (by rw [List.length_take, List.length_take]; omega)]
      exact ⟨a, v, x, rfl, upd_same, tr.same (Same.one ha'), (trx.same hS).same (Same.one ha')⟩
  · rintro st H' ⟨hS, v, vk, rfl, tr⟩
    rw [sn, List.take_of_length_le (Nat.le_refl _), List.take_of_length_le (by omega)] at tr
    exact ⟨_, rfl, q v H' hS tr⟩

/-! ### the split -/
end
theorem paired_snoc_inv {α β : Type} {F : α → β → Prop} : ∀ {l : List α} {r : List β} {y : β}, Paired F l (r ++ [y]) → ∃ l' x, l = l' ++ [x] ∧ Paired F l' r ∧ F x y
  | _, [], _, h => by
    cases h with
    | cons h t => cases t; exact ⟨[], _, rfl, .nil, h⟩
  | _, b :: r, y, h => by
    cases h with
    | cons h t =>
      obtain ⟨l', x, rfl, h1, h2⟩ := paired_snoc_inv t
      exact ⟨_ :: l', x, rfl, .cons h h1, h2⟩
/-- a group as it stands: its objects are none of N -/
def GrpAt (N : Addr → Prop) (H : Hp) (v : V) (x : Grp) : Prop :=
  ∃ (a pl sl : Addr) (vs : List V), v = .ref a ∧ (¬ N a ∧ ¬ N pl ∧ ¬ N sl) ∧ H a = some (.lst [.ref pl, .ref sl]) ∧ H pl = some (.lst vs) ∧ TreesAt H vs (x.1.tree :: x.2.map fun y => y.2.tree) ∧ H sl = some (.lst (sgV (sgs x.2)))
/-- all but N stands -/
def Off (N : Addr → Prop) (H H' : Hp) : Prop := ∀ b o, ¬ N b → H b = some o → H' b = some o
theorem GrpAt.off {N : Addr → Prop} {H H' : Hp} {v : V} {x : Grp} (h : GrpAt N H v x) (s : Off N H H') (k : ∀ a xs, H a = some (.tup xs) → H' a = some (.tup xs)) : GrpAt N H' v x := by
  obtain ⟨a, pl, sl, vs, e, ⟨n1, n2, n3⟩, h1, h2, h3, h4⟩ := h
  exact ⟨a, pl, sl, vs, e, ⟨n1, n2, n3⟩, s _ _ n1 h1, s _ _ n2 h2, h3.mono k, s _ _ n3 h4⟩
theorem GrpAt.same {N : Addr → Prop} {H H' : Hp} {v : V} {x : Grp} (h : GrpAt N H v x) (s : Same H H') : GrpAt N H' v x := h.off (fun b o _ e => s b o e) fun _ _ e => s _ _ e
def GrpsAt (N : Addr → Prop) (H : Hp) (vs : List V) (gs : List Grp) : Prop := Paired (fun v x => GrpAt N H v x) vs gs
theorem GrpsAt.off {N : Addr → Prop} {H H' : Hp} {vs : List V} {gs : List Grp} (h : GrpsAt N H vs gs) (s : Off N H H') (k : ∀ a xs, H a = some (.tup xs) → H' a = some (.tup xs)) : GrpsAt N H' vs gs := Paired.mapP h fun _ _ e => e.off s k
theorem GrpsAt.same {N : Addr → Prop} {H H' : Hp} {vs : List V} {gs : List Grp} (h : GrpsAt N H vs gs) (s : Same H H') : GrpsAt N H' vs gs := Paired.mapP h fun _ _ e => e.same s
theorem Off.trans {N : Addr → Prop} {H H1 H2 : Hp} (a : Off N H H1) (b : Off N H1 H2) : Off N H H2 := fun c o n e => b c o n (a c o n e)
theorem Off.of {N : Addr → Prop} {H H' : Hp} (s : Same H H') : Off N H H' := fun b o _ e => s b o e
theorem Off.at {N : Addr → Prop} {H : Hp} {a : Addr} {o : HO} (h : N a) : Off N H (upd H a o) := fun b u n e => by
  rw [upd_ne fun z => n (by rw [z]; exact h)]
  exact e
def spSplitL : Sp := fun vs H Q _ => ∃ (pa sa wa : Addr) (xs : List V) (p : Opd) (r : Tail) (l : Nat), vs = [.ref pa, .ref sa, .ref wa] ∧ H pa = some (.lst xs) ∧ TreesAt H xs (p.tree :: r.map fun y => y.2.tree) ∧ H sa = some (.lst (sgV (sgs r))) ∧ H wa = some (.lst ((wanted l).map V.str)) ∧ l < 5 ∧ r.length ≤ 7 ∧
  ∀ (res G F : Addr) (N : Addr → Prop) (gvs : List V) (H' : Hp), Same H H' → H' res = some (.lst [.ref G, .ref F]) → H' G = some (.lst gvs) → GrpsAt N H' gvs ((p, (splitAtLev l r).1) :: (splitAtLev l r).2.map (·.2)) → H' F = some (.lst (sgV ((splitAtLev l r).2.map (·.1)))) → Q (.ref res) H'
section
variable {P : Program} {w : World} {K : PySem.W.Frag} {mg : Str → Option Value} {base : Heap}
theorem scSplit : FnScope ["_law_parts", "_law_signs", "_law_wanted", "_law_groups", "_law_found", "_law_k", "_law_last"] ["_law_parts", "_law_signs", "_law_wanted"] (defScope sSplit) := ⟨rfl, rfl, rfl, by decide +kernel, rfl, by decide +kernel, by decide +kernel⟩
theorem ok_split (T : LawT mg) (D : Df K mg "_law_split" sSplit ["_law_parts", "_law_signs", "_law_wanted"]) : Gf P w K mg base 1 "_law_split" ["_law_parts", "_law_signs", "_law_wanted"] spSplitL := by
  obtain ⟨f, fd, F, m, b⟩ := D
  refine ⟨f, fd, ?_, b, F.kp, m⟩
  refine F.ok scSplit (fun vs H Q E h => ?_) (fun cdv A outer s H vs Q E hr h => ?_)
  · obtain ⟨pa, sa, wa, xs, p, r, l, rfl, _⟩ := h
    rfl
  obtain ⟨pa, sa, wa, xs, p, r, l, rfl, hp, hT, hs, hw, hl5, h7, q⟩ := h
  refine ⟨_, pss_cons (ps_set (i := 3) scSplit.nd rfl (Or.inl rfl) (pe_lst (pa_cons (pe_lst (pa_cons (pe_lst (pa_cons (pe_ix ix_list (pv 0) pe_int (fun _ _ => rfl)) pa_nil)) (pa_cons (pe_lst pa_nil) pa_nil))) pa_nil)))
    (pss_cons (ps_set (i := 4) scSplit.nd rfl (Or.inl rfl) (pe_lst pa_nil))
    (pss_cons (ps_for PassesOwn.never rfl (pi_range1 rfl T.range (pa_cons (pe_callB call_len_seq rfl T.len PySem.boot_len (pa_cons (pv 1) pa_nil)) pa_nil)) (pg_name (i := 5) scSplit.nd rfl (Or.inl rfl))
      (pss_one (ps_if (pt_cmpR op_in_seq (pe_ix ix_list (pv 1) (pv 5) (fun _ _ => rfl)) (pv 2) (by rfl))
        (pss_cons (ps_expr (pe_bm PySem.F.plainAttrs_list PySem.F.slot_list_append PySem.F.type_list_append mt_append (pv 4) (pa_cons (pe_ix ix_list (pv 1) (pv 5) (fun _ _ => rfl)) pa_nil)))
        (pss_one (ps_expr (pe_bm PySem.F.plainAttrs_list PySem.F.slot_list_append PySem.F.type_list_append mt_append (pv 3) (pa_cons (pe_lst (pa_cons (pe_lst (pa_cons (pe_ix ix_list (pv 0) (pe_op op_add (pv 5) pe_int) (fun _ _ => rfl)) pa_nil)) (pa_cons (pe_lst pa_nil) pa_nil))) pa_nil)))))
        (pss_cons (ps_set (i := 6) scSplit.nd rfl (Or.inl rfl) (pe_ix ix_list (pv 3) (pe_op op_sub (pe_callB call_len_seq rfl T.len PySem.boot_len (pa_cons (pv 3) pa_nil)) pe_int) (fun _ _ => rfl)))
        (pss_one (ps_asg (pe_lst (pa_cons (pe_op op_cat (pe_ix ix_list (pv 6) pe_int (fun _ _ => rfl)) (pe_lst (pa_cons (pe_ix ix_list (pv 0) (pe_op op_add (pv 5) pe_int) (fun _ _ => rfl)) pa_nil))) (pa_cons (pe_op op_cat (pe_ix ix_list (pv 6) pe_int (fun _ _ => rfl)) (pe_lst (pa_cons (pe_ix ix_list (pv 1) (pv 5) (fun _ _ => rfl)) pa_nil))) pa_nil)))
          (pg_sub (pv 3) (pe_op op_sub (pe_callB call_len_seq rfl T.len PySem.boot_len (pa_cons (pv 3) pa_nil)) pe_int) set_list)))))))
    (pss_one (ps_ret (pe_lst (pa_cons (pv 3) (pa_cons (pv 4) pa_nil))))))), ?_⟩
  obtain ⟨v0, e0, tr0⟩ := paired_at (i := 0) hT rfl
  refine ⟨_, rfl, pa, _, _, _, rfl, rfl, SqL.of hp, at_of (j := 0) rfl e0, (by show 1 ≤ sizeLine; decide), fun a1 p1 => ⟨(by show 0 ≤ sizeLine; decide), fun a2 p2 => ⟨(by show 2 ≤ sizeLine; decide), fun a3 p3 => ⟨(by show 1 ≤ sizeLine; decide), fun G p4 => ⟨(by show 0 ≤ sizeLine; decide), fun Fo p5 => ?_⟩⟩⟩⟩⟩
  have s5 := Same.one (o := .lst []) p5
  have s4 := (Same.one (o := .lst [.ref a3]) p4).trans s5
  have s3 := (Same.one (o := .lst [.ref a1, .ref a2]) p3).trans s4
  have s2 := (Same.one (o := .lst []) p2).trans s3
  have s1 := (Same.one (o := .lst [v0]) p1).trans s2
  have nG : H G = none := (((Same.one p1).trans (Same.one p2)).trans (Same.one p3)).free p4
  have nF : H Fo = none := ((((Same.one p1).trans (Same.one p2)).trans (Same.one p3)).trans (Same.one p4)).free p5
  have d3 := s4 a3 _ upd_same
  have d1 := s2 a1 _ upd_same
  have d2 := s3 a2 _ upd_same
  have dG := s5 G _ upd_same
  have n1G : a1 ≠ G := ne_of_none (((Same.one (o := .lst []) p2).trans (Same.one (o := .lst [.ref a1, .ref a2]) p3)) _ _ upd_same) p4
  have n2G : a2 ≠ G := ne_of_none ((Same.one (o := .lst [.ref a1, .ref a2]) p3) _ _ upd_same) p4
  have n3G : a3 ≠ G := ne_of_none upd_same p4
  have n1F : a1 ≠ Fo := ne_of_none ((((Same.one (o := .lst []) p2).trans (Same.one (o := .lst [.ref a1, .ref a2]) p3)).trans (Same.one (o := .lst [.ref a3]) p4)) _ _ upd_same) p5
  have n2F : a2 ≠ Fo := ne_of_none (((Same.one (o := .lst [.ref a1, .ref a2]) p3).trans (Same.one (o := .lst [.ref a3]) p4)) _ _ upd_same) p5
  have n3F : a3 ≠ Fo := ne_of_none ((Same.one (o := .lst [.ref a3]) p4) _ _ upd_same) p5
  have nGF : G ≠ Fo := ne_of_none upd_same p5
  have dF : upd (upd (upd (upd (upd H a1 (.lst [v0])) a2 (.lst [])) a3 (.lst [.ref a1, .ref a2])) G (.lst [.ref a3])) Fo (.lst []) Fo = some (.lst []) := upd_same
  generalize upd (upd (upd (upd (upd H a1 (.lst [v0])) a2 (.lst [])) a3 (.lst [.ref a1, .ref a2])) G (.lst [.ref a3])) Fo (.lst []) = H0 at s1 d1 d2 d3 dG dF
  have sl : ((sgV (sgs r)).length : Int) = (r.length : Int) := by rw [sgV_len]; unfold sgs; rw [List.length_map]
  have sn : ((sgV (sgs r)).length : Int).toNat = r.length := by rw [sl]; rfl
  have line : ∀ k, k ≤ 1000 → k ≤ sizeLine := fun k hk => Nat.le_trans hk (by decide)
  have lin' : ∀ k, k ≤ 1000 → k < sizeLine := fun k hk => Nat.lt_of_le_of_lt hk (by decide)
  refine ⟨_, rfl, sa, _, rfl, .inl (SqL.of (s1 _ _ hs)), _, rfl, ?_, ?_, for_range (lo := 0) (n := ((sgV (sgs r)).length : Int).toNat) (fun k st H' => Same H H' ∧ (∃ vk vl, st = [some (.ref pa), some (.ref sa), some (.ref wa), some (.ref G), some (.ref Fo), vk, vl]) ∧
      ∃ (dn : List Grp) (cur : Grp) (fd : List Sg) (gvs : List V), H' G = some (.lst gvs) ∧ GrpsAt (fun b => b = G ∨ b = Fo) H' gvs (dn ++ [cur]) ∧ H' Fo = some (.lst (sgV fd)) ∧ spl l [] (p, []) [] r = spl l dn cur fd (r.drop k) ∧ dn.length ≤ k ∧ fd.length ≤ k ∧ cur.2.length ≤ k)
    ⟨s1, ⟨none, none, rfl⟩, [], (p, []), [], [.ref a3], dG, .cons ⟨a3, a1, a2, [v0], rfl, ⟨fun z => z.elim n3G n3F, fun z => z.elim n1G n1F, fun z => z.elim n2G n2F⟩, d3, d1, .cons (tr0.same s1) .nil, d2⟩ .nil, dF, rfl, Nat.le_refl _, Nat.le_refl _, Nat.le_refl _⟩ ?_ ?_⟩
  · rw [sl]; omega
  · rw [sl]; omega
  · rintro k st H' hk ⟨hS, ⟨vk, vl, rfl⟩, dn, cur, fd, gvs, hG, hA, hF, he, l1, l2, l3⟩
    rw [sn] at hk
    obtain ⟨⟨g, o⟩, hgo⟩ : ∃ x, r[k]? = some x := ⟨r[k], List.getElem?_eq_getElem hk⟩
    have hg : (sgV (sgs r))[k]? = some (.str g.str) := sgV_get (by unfold sgs; rw [List.getElem?_map, hgo]; rfl)
    obtain ⟨x, hx, trx⟩ := paired_at (i := k + 1) (y := o.tree) hT (by rw [List.getElem?_cons_succ, List.getElem?_map, hgo]; rfl)
    have hdr : r.drop k = (g, o) :: r.drop (k + 1) := by
      rw [List.drop_eq_getElem_cons hk]
      have := List.getElem?_eq_getElem hk
      rw [hgo] at this
      rw [← Option.some.inj this]
    have hlen : gvs.length = dn.length + 1 := by
      have := Paired.length hA
      rw [List.length_append] at this
      exact this
    have hs' := hS _ _ hs
    have hp' := hS _ _ hp
    refine ⟨_, rfl, _, rfl, sa, _, _, _, rfl, rfl, SqL.of hs', at_of (j := k) (by omega) hg, _, rfl, wa, _, rfl, .inl (SqL.of (hS _ _ hw)), rfl, flat_strs _, _, rfl, ?_⟩
    by_cases hc : g.lev = l
    · refine ifT ?_ ?_
      · show inV (.str g.str) ((wanted l).map V.str) = true
        rw [inV_strs]
        exact decide_eq_true ((in_wanted l hl5 g).mpr hc)
      refine ⟨_, rfl, .inl ⟨rfl, _, SqL.of hF⟩, _, rfl, _, rfl, sa, _, _, _, rfl, rfl, SqL.of hs', at_of (j := k) (by omega) hg, Fo, _, _, rfl, rfl, hF, lin' _ (by rw [sgV_len]; omega), ?_⟩
      have oF : Off (fun b => b = G ∨ b = Fo) H' (upd H' Fo (.lst (sgV fd ++ [.str g.str]))) := Off.at (.inr rfl)
      have gF : upd H' Fo (.lst (sgV fd ++ [.str g.str])) Fo = some (.lst (sgV fd ++ [.str g.str])) := upd_same
      have gG : upd H' Fo (.lst (sgV fd ++ [.str g.str])) G = some (.lst gvs) := by rw [upd_ne nGF]; exact hG
      have tF := tups_lst (ys := sgV fd ++ [.str g.str]) hF
      have sF : Same H (upd H' Fo (.lst (sgV fd ++ [.str g.str]))) := fun b u e => by rw [upd_ne (ne_of_none e nF)]; exact hS b u e
      generalize upd H' Fo (.lst (sgV fd ++ [.str g.str])) = H1 at oF gF gG tF sF
      refine ⟨_, rfl, .inl ⟨rfl, _, SqL.of gG⟩, _, rfl, _, rfl, _, _, rfl, rfl, pa, _, _, _, rfl, rfl, SqL.of (sF _ _ hp), at_of (j := k + 1) (by omega) hx, (by show 1 ≤ sizeLine; decide), fun b1 q1 => ⟨(by show 0 ≤ sizeLine; decide), fun b2 q2 => ⟨(by show 2 ≤ sizeLine; decide), fun b3 q3 => ?_⟩⟩⟩
      have z3 := Same.one (o := .lst [.ref b1, .ref b2]) q3
      have z2 := (Same.one (o := .lst []) q2).trans z3
      have z1 := (Same.one (o := .lst [x]) q1).trans z2
      have m1 := z2 b1 _ upd_same
      have m2 := z3 b2 _ upd_same
      have m3 : upd (upd (upd H1 b1 (.lst [x])) b2 (.lst [])) b3 (.lst [.ref b1, .ref b2]) b3 = some (.lst [.ref b1, .ref b2]) := upd_same
      have f1 : b1 ≠ G ∧ b1 ≠ Fo := ⟨(ne_of_none gG q1).symm, (ne_of_none gF q1).symm⟩
      have f2 : b2 ≠ G ∧ b2 ≠ Fo := ⟨(ne_of_none gG ((Same.one q1).free q2)).symm, (ne_of_none gF ((Same.one q1).free q2)).symm⟩
      have f3 : b3 ≠ G ∧ b3 ≠ Fo := ⟨(ne_of_none gG (((Same.one q1).trans (Same.one q2)).free q3)).symm, (ne_of_none gF (((Same.one q1).trans (Same.one q2)).free q3)).symm⟩
      generalize upd (upd (upd H1 b1 (.lst [x])) b2 (.lst [])) b3 (.lst [.ref b1, .ref b2]) = H2 at z1 m1 m2 m3
      have gG2 := z1 _ _ gG
      refine ⟨G, _, _, rfl, rfl, gG2, lin' _ (by omega), ?_⟩
      have t2 : ∀ a xs, H' a = some (.tup xs) → upd H2 G (.lst (gvs ++ [.ref b3])) a = some (.tup xs) := fun a xs e => tups_lst gG2 _ _ (z1 _ _ (tF _ _ e))
      have o2 : Off (fun b => b = G ∨ b = Fo) H2 (upd H2 G (.lst (gvs ++ [.ref b3]))) := Off.at (.inl rfl)
      refine ⟨fun b u e => ?_, ⟨_, _, rfl⟩, dn ++ [cur], (o, []), fd ++ [g], gvs ++ [.ref b3], upd_same, ?_, ?_, ?_, by rw [List.length_append]; simp only [List.length_cons, List.length_nil]; omega, by rw [List.length_append]; simp only [List.length_cons, List.length_nil]; omega, Nat.zero_le _⟩
      · rw [upd_ne (ne_of_none e nG)]
        exact z1 _ _ (sF _ _ e)
      · refine Paired.snoc (hA.off (oF.trans ((Off.of z1).trans o2)) t2) ⟨b3, b1, b2, [x], rfl, ⟨fun z => z.elim f3.1 f3.2, fun z => z.elim f1.1 f1.2, fun z => z.elim f2.1 f2.2⟩, ?_, ?_, .cons (trx.mono fun a xs e => t2 _ _ (hS _ _ e)) .nil, ?_⟩
        · rw [upd_ne f3.1]; exact m3
        · rw [upd_ne f1.1]; exact m1
        · rw [upd_ne f2.1]; exact m2
      · rw [upd_ne nGF.symm, z1 _ _ gF]
        unfold sgV
        rw [List.map_append]
        rfl
      · rw [he, hdr]
        show (if g.lev = l then _ else _) = _
        rw [if_pos hc]
    · refine ifF ?_ ?_
      · show inV (.str g.str) ((wanted l).map V.str) = false
        rw [inV_strs]
        exact decide_eq_false fun z => hc ((in_wanted l hl5 g).mp z)
      obtain ⟨gd, gc, rfl, hA1, hA2⟩ := paired_snoc_inv hA
      obtain ⟨ga, pl, sl', vs, rfl, ⟨nn1, nn2, nn3⟩, h1, h2, h3, h4⟩ := id hA2
      have hgd : gd.length = dn.length := Paired.length hA1
      have hgl : (gd ++ [V.ref ga]).length = gd.length + 1 := by rw [List.length_append]; rfl
      have hix : (((gd ++ [V.ref ga]).length : Nat) : Int) - 1 = (gd.length : Int) := by rw [hgl]; omega
      have hvl : vs.length = cur.2.length + 1 := by
        have := Paired.length h3
        rw [List.length_cons, List.length_map] at this
        exact this
      refine ⟨_, rfl, _, rfl, G, _, rfl, .inl (SqL.of hG), _, _, rfl, rfl, G, _, _, _, rfl, rfl, SqL.of hG, at_of (j := gd.length) hix (by rw [List.getElem?_append_right (Nat.le_refl _), Nat.sub_self]; rfl), ?_⟩
      refine ⟨_, rfl, ga, _, _, _, rfl, rfl, SqL.of h1, at_of (j := 0) rfl rfl, _, rfl, _, rfl, _, _, rfl, rfl, pa, _, _, _, rfl, rfl, SqL.of hp', at_of (j := k + 1) (by omega) hx, (by show 1 ≤ sizeLine; decide), fun c1 q1 => ?_⟩
      have z1 : Same H' (upd H' c1 (.lst [x])) := Same.one q1
      refine ⟨pl, c1, _, _, rfl, rfl, z1 _ _ h2, upd_same, line _ (by show vs.length + 1 ≤ 1000; omega), fun c2 q2 => ?_⟩
      have z2 := z1.trans (Same.one (o := .lst (vs ++ [x])) q2)
      have m2 : upd (upd H' c1 (.lst [x])) c2 (.lst (vs ++ [x])) c2 = some (.lst (vs ++ [x])) := upd_same
      generalize upd (upd H' c1 (.lst [x])) c2 (.lst (vs ++ [x])) = H2 at z2 m2
      refine ⟨_, rfl, ga, _, _, _, rfl, rfl, SqL.of (z2 _ _ h1), at_of (j := 1) rfl rfl, _, rfl, _, rfl, sa, _, _, _, rfl, rfl, SqL.of (z2 _ _ hs'), at_of (j := k) (by omega) hg, (by show 1 ≤ sizeLine; decide), fun c3 q3 => ?_⟩
      have z3 := z2.trans (Same.one (o := .lst [.str g.str]) q3)
      have y3 := Same.one (o := .lst [.str g.str]) q3
      refine ⟨sl', c3, _, _, rfl, rfl, z3 _ _ h4, upd_same, line _ (by show (sgV (sgs cur.2)).length + 1 ≤ 1000; rw [sgV_len]; unfold sgs; rw [List.length_map]; omega), fun c4 q4 => ?_⟩
      have z4 := z3.trans (Same.one (o := .lst (sgV (sgs cur.2) ++ [.str g.str])) q4)
      have m2' := (y3.trans (Same.one (o := .lst (sgV (sgs cur.2) ++ [.str g.str])) q4)) _ _ m2
      have m4 : upd (upd H2 c3 (.lst [.str g.str])) c4 (.lst (sgV (sgs cur.2) ++ [.str g.str])) c4 = some (.lst (sgV (sgs cur.2) ++ [.str g.str])) := upd_same
      have f2 : ∀ b u, H' b = some u → c2 ≠ b := fun b u e => (ne_of_none (z1 _ _ e) q2).symm
      have f4 : ∀ b u, H' b = some u → c4 ≠ b := fun b u e => (ne_of_none (z3 _ _ e) q4).symm
      generalize upd (upd H2 c3 (.lst [.str g.str])) c4 (.lst (sgV (sgs cur.2) ++ [.str g.str])) = H4 at z4 m2' m4
      refine ⟨(by show 2 ≤ sizeLine; decide), fun c5 q5 => ?_⟩
      have y5 := Same.one (o := .lst [.ref c2, .ref c4]) q5
      have z5 := z4.trans y5
      have m5 : upd H4 c5 (.lst [.ref c2, .ref c4]) c5 = some (.lst [.ref c2, .ref c4]) := upd_same
      have f5 : ∀ b u, H' b = some u → c5 ≠ b := fun b u e => (ne_of_none (z4 _ _ e) q5).symm
      have m2'' := y5 _ _ m2'
      have m4' := y5 _ _ m4
      generalize upd H4 c5 (.lst [.ref c2, .ref c4]) = H5 at z5 m5 m2'' m4'
      have gG5 := z5 _ _ hG
      refine ⟨_, rfl, _, rfl, G, _, rfl, .inl (SqL.of gG5), _, _, rfl, rfl, G, _, _, gd.length, rfl, rfl, gG5, ?_, ?_⟩
      · unfold ixN
        rw [hix, hgl, if_pos (by omega), if_pos (by omega), Int.toNat_natCast]
      have eset : (gd ++ [V.ref ga]).set gd.length (.ref c5) = gd ++ [.ref c5] := by
        rw [List.set_append_right _ _ (Nat.le_refl _), Nat.sub_self]
        rfl
      rw [eset]
      have t2 : ∀ a xs, H' a = some (.tup xs) → upd H5 G (.lst (gd ++ [.ref c5])) a = some (.tup xs) := fun a xs e => tups_lst gG5 _ _ (z5 _ _ e)
      have o2 : Off (fun b => b = G ∨ b = Fo) H5 (upd H5 G (.lst (gd ++ [.ref c5]))) := Off.at (.inl rfl)
      refine ⟨fun b u e => ?_, ⟨_, _, rfl⟩, dn, (cur.1, cur.2 ++ [(g, o)]), fd, gd ++ [.ref c5], upd_same, ?_, ?_, ?_, by omega, by omega, by rw [List.length_append]; simp only [List.length_cons, List.length_nil]; omega⟩
      · rw [upd_ne (ne_of_none e nG)]
        exact z5 _ _ (hS _ _ e)
      · refine Paired.snoc (GrpsAt.off hA1 ((Off.of z5).trans o2) t2) ⟨c5, c2, c4, vs ++ [x], rfl, ⟨fun z => z.elim (f5 _ _ hG) (f5 _ _ hF), fun z => z.elim (f2 _ _ hG) (f2 _ _ hF), fun z => z.elim (f4 _ _ hG) (f4 _ _ hF)⟩, ?_, ?_, ?_, ?_⟩
        · rw [upd_ne (f5 _ _ hG)]; exact m5
        · rw [upd_ne (f2 _ _ hG)]; exact m2''
        · show TreesAt _ (vs ++ [x]) (cur.1.tree :: (cur.2 ++ [(g, o)]).map fun y => y.2.tree)
          rw [List.map_append, ← List.cons_append]
          exact Paired.snoc (h3.mono t2) (trx.mono fun a xs e => t2 _ _ (hS _ _ e))
        · rw [upd_ne (f4 _ _ hG), m4']
          unfold sgV sgs
          rw [List.map_append, List.map_append]
          rfl
      · rw [upd_ne nGF.symm]
        exact z5 _ _ hF
      · rw [he, hdr]
        show (if g.lev = l then _ else _) = _
        rw [if_neg hc]
  · rintro st H' ⟨hS, ⟨vk, vl, rfl⟩, dn, cur, fd, gvs, hG, hA, hF, he, l1, l2, l3⟩
    rw [sn, List.drop_length] at he
    rw [spl_eq] at he
    have e1 : (p, (splitAtLev l r).1) :: (splitAtLev l r).2.map (·.2) = dn ++ [cur] := congrArg Prod.fst he
    have e2 : (splitAtLev l r).2.map (·.1) = fd := congrArg Prod.snd he
    refine ⟨_, rfl, _, rfl, (by show 2 ≤ sizeLine; decide), fun a ha => ?_⟩
    have z := Same.one (o := .lst [.ref G, .ref Fo]) ha
    exact q a G Fo (fun b => b = G ∨ b = Fo) gvs _ (hS.trans z) upd_same (z _ _ hG) (by rw [e1]; exact hA.same z) (by rw [e2]; exact z _ _ hF)
end
end K2
set_option maxRecDepth 100000
set_option maxHeartbeats 4000000
/-! The walk of the law's own defs: the tree that is due. -/
namespace K2
open PySem L2 TL
def spTreeL (k : Nat) : Sp := fun vs H Q _ => ∃ (pa sa : Addr) (xs : List V) (p : Opd) (r : Tail), vs = [.ref pa, .ref sa, .int ((5 - k : Nat) : Int)] ∧ H pa = some (.lst xs) ∧ TreesAt H xs (p.tree :: r.map fun y => y.2.tree) ∧ H sa = some (.lst (sgV (sgs r))) ∧ r.length ≤ 7 ∧
  ∀ v H', Same H H' → TreeAt H' v (due k p r) → Q v H'
/-- with k levels to go; none: never asked -/
def spT : Nat → Sp
  | 0 => fun _ _ _ _ => False
  | k + 1 => spTreeL k
theorem grp_len (l : Nat) (p : Opd) (r : Tail) : ∀ x ∈ (p, (splitAtLev l r).1) :: (splitAtLev l r).2.map (·.2), x.2.length ≤ r.length := by
  have e := split_len l r
  have key : ∀ gs : List (Sg × Opd × Tail), ∀ x ∈ gs.map (·.2), x.2.length ≤ groupLen gs := by
    intro gs
    induction gs with
    | nil => intro x hx; cases hx
    | cons y gs ih =>
      obtain ⟨g, o, q⟩ := y
      intro x hx
      show x.2.length ≤ 1 + q.length + groupLen gs
      rcases List.mem_cons.mp hx with rfl | hx
      · show q.length ≤ _
        omega
      · have := ih x hx
        omega
  intro x hx
  rcases List.mem_cons.mp hx with rfl | hx
  · show (splitAtLev l r).1.length ≤ _
    omega
  · have := key _ x hx
    omega
theorem groups_len : ∀ gs : List (Sg × Opd × Tail), gs.length ≤ groupLen gs
  | [] => Nat.le_refl _
  | (_, _, q) :: gs => by
    have := groups_len gs
    show gs.length + 1 ≤ 1 + q.length + groupLen gs
    omega
section
variable {P : Program} {w : World} {K : PySem.W.Frag} {mg : Str → Option Value} {base : Heap} {j : Nat}
theorem scTree : FnScope ["_law_parts", "_law_signs", "_law_level", "_law_levels", "_law_heads", "_law_groups", "_law_found", "_law_group"] ["_law_parts", "_law_signs", "_law_level"] (defScope sTree) := ⟨rfl, rfl, rfl, by decide +kernel, rfl, by decide +kernel, by decide +kernel⟩
theorem ok_tree {k : Nat} (hk : k ≤ 5) (hj : 1 ≤ j) (D : Df K mg "_law_tree" sTree ["_law_parts", "_law_signs", "_law_level"]) (GS : Gf P w K mg base 1 "_law_split" ["_law_parts", "_law_signs", "_law_wanted"] spSplitL) (GC : Gf P w K mg base 1 "_law_chain" ["_law_parts", "_law_signs", "_law_heads"] spChainL)
    (GT : Gf P w K mg base j "_law_tree" ["_law_parts", "_law_signs", "_law_level"] (spT k)) : Gf P w K mg base (j + 1) "_law_tree" ["_law_parts", "_law_signs", "_law_level"] (spT (k + 1)) := by
  obtain ⟨f, fd, F, m, b⟩ := D
  obtain ⟨f1, fd1, G1, b1, k1, m1⟩ := GS.up hj
  obtain ⟨f2, fd2, G2, b2, k2, m2⟩ := GC.up hj
  obtain ⟨f3, fd3, G3, b3, k3, m3⟩ := GT
  refine ⟨f, fd, ?_, b, F.kp, m⟩
  refine F.ok scTree (fun vs H Q E h => ?_) (fun cdv A outer s H vs Q E hr h => ?_)
  · obtain ⟨pa, sa, xs, p, r, rfl, _⟩ := h
    rfl
  obtain ⟨pa, sa, xs, p, r, rfl, hp, hT, hs, h7, q⟩ := h
  refine ⟨_, pss_cons (ps_set (i := 3) scTree.nd rfl (Or.inl rfl) (pe_lst (pa_cons (pe_lst (pa_cons pe_str pa_nil)) (pa_cons (pe_lst (pa_cons pe_str pa_nil)) (pa_cons (pe_lst (pa_cons pe_str (pa_cons pe_str pa_nil))) (pa_cons (pe_lst (pa_cons pe_str (pa_cons pe_str pa_nil))) (pa_cons (pe_lst (pa_cons pe_str pa_nil)) pa_nil)))))))
    (pss_cons (ps_set (i := 4) scTree.nd rfl (Or.inl rfl) (pe_disp (pps_cons pe_str pe_str (pps_cons pe_str pe_str (pps_cons pe_str pe_str (pps_cons pe_str pe_str (pps_cons pe_str pe_str (pps_cons pe_str pe_str (pps_cons pe_str pe_str pps_nil))))))) (by rfl) (by rfl) (fun z => by cases z) (by decide)))
    (pss_cons (ps_if (pt_cmpR op_eq (pv 2) pe_int (nomark _)) (pss_one (ps_ret (pe_ix ix_list (pv 0) pe_int (fun _ _ => rfl)))) pss_nil)
    (pss_cons (ps_asg (pe_call G1 hr rfl m1 k1 b1 .nil pass0 (pa_cons (pv 0) (pa_cons (pv 1) (pa_cons (pe_ix ix_list (pv 3) (pv 2) (fun _ _ => rfl)) pa_nil)))) (pg_unl (by rfl) (pgs_cons (pg_name (i := 5) scTree.nd rfl (Or.inl rfl)) (pgs_cons (pg_name (i := 6) scTree.nd rfl (Or.inl rfl)) pgs_nil))))
    (pss_one (ps_ret (pe_call G2 hr rfl m2 k2 b2 .nil pass0 (pa_cons
      (pe_lc (own := [("_law_group", 7)]) (g := gName 7) rfl scTree.nd (pi_list (pv 5)) (blkOk_by (N := ["_law_parts", "_law_signs", "_law_level", "_law_levels", "_law_heads", "_law_groups", "_law_found", "_law_group"]) (sc := defScope sTree) (by decide +kernel))
        (fun _ _ _ _ _ => pg_name (i := 7) scTree.nd rfl (Or.inl rfl)) (fun _ _ _ _ _ => pts_nil)
        (fun _ _ _ _ _ => pe_call G3 hr rfl m3 k3 b3 .nil pass0 (pa_cons (pe_ix (r := rIxL K) ix_list (pv 7) pe_int (fun _ _ => rfl)) (pa_cons (pe_ix (r := rIxL K) ix_list (pv 7) pe_int (fun _ _ => rfl)) (pa_cons (pe_op op_add (pv 2) pe_int) pa_nil)))))
      (pa_cons (pv 6) (pa_cons (pv 4) pa_nil))))))))), ?_⟩
  refine ⟨(by show 1 ≤ sizeLine; decide), fun a0 p0 => ⟨(by show 1 ≤ sizeLine; decide), fun a1 p1 => ⟨(by show 2 ≤ sizeLine; decide), fun a2 p2 => ⟨(by show 2 ≤ sizeLine; decide), fun a3 p3 => ⟨(by show 1 ≤ sizeLine; decide), fun a4 p4 => ⟨(by show 5 ≤ sizeLine; decide), fun L pL => ?_⟩⟩⟩⟩⟩⟩
  intro hd phd
  refine ⟨upd_same, [(Sum.inr "or", .str "or"), (Sum.inr "and", .str "and"), (Sum.inr "<", .str "lt"), (Sum.inr "==", .str "eq"), (Sum.inr "+", .str "add"), (Sum.inr "-", .str "sub"), (Sum.inr "*", .str "mul")], rfl, (by decide), ?_⟩
  rw [upd_upd]
  have sD := Same.one (o := .dK headsK) phd
  have sL := (Same.one (o := .lst [.ref a0, .ref a1, .ref a2, .ref a3, .ref a4]) pL).trans sD
  have s4 := (Same.one (o := .lst ((wanted 4).map V.str)) p4).trans sL
  have s3 := (Same.one (o := .lst ((wanted 3).map V.str)) p3).trans s4
  have s2 := (Same.one (o := .lst ((wanted 2).map V.str)) p2).trans s3
  have s1 := (Same.one (o := .lst ((wanted 1).map V.str)) p1).trans s2
  have s0 := (Same.one (o := .lst ((wanted 0).map V.str)) p0).trans s1
  have hL := sD L _ upd_same
  have h0 := s1 a0 _ upd_same
  have h1 := s2 a1 _ upd_same
  have h2 := s3 a2 _ upd_same
  have h3 := s4 a3 _ upd_same
  have h4 := sL a4 _ upd_same
  obtain ⟨H0, hH0⟩ : ∃ H0 : Hp, H0 = upd (upd (upd (upd (upd (upd (upd H a0 (.lst [.str "or"])) a1 (.lst [.str "and"])) a2 (.lst [.str "<", .str "=="])) a3 (.lst [.str "+", .str "-"])) a4 (.lst [.str "*"])) L (.lst [.ref a0, .ref a1, .ref a2, .ref a3, .ref a4])) hd (.dK headsK) := ⟨_, rfl⟩
  have nhd : H0 hd = some (.dK headsK) := by rw [hH0]; exact upd_same
  replace s0 : Same H H0 := by rw [hH0]; exact s0
  replace hL : H0 L = some (.lst [.ref a0, .ref a1, .ref a2, .ref a3, .ref a4]) := by rw [hH0]; exact hL
  replace h0 : H0 a0 = some (.lst ((wanted 0).map V.str)) := by rw [hH0]; exact h0
  replace h1 : H0 a1 = some (.lst ((wanted 1).map V.str)) := by rw [hH0]; exact h1
  replace h2 : H0 a2 = some (.lst ((wanted 2).map V.str)) := by rw [hH0]; exact h2
  replace h3 : H0 a3 = some (.lst ((wanted 3).map V.str)) := by rw [hH0]; exact h3
  replace h4 : H0 a4 = some (.lst ((wanted 4).map V.str)) := by rw [hH0]; exact h4
  show tSeq _ _ _ _ (upd (upd (upd (upd (upd (upd (upd H a0 (.lst [.str "or"])) a1 (.lst [.str "and"])) a2 (.lst [.str "<", .str "=="])) a3 (.lst [.str "+", .str "-"])) a4 (.lst [.str "*"])) L (.lst [.ref a0, .ref a1, .ref a2, .ref a3, .ref a4])) hd (.dK headsK))
  rw [← hH0]
  obtain ⟨v0, e0, tr0⟩ := paired_at (i := 0) hT rfl
  cases k with
  | zero =>
    refine ⟨_, rfl, rfl, _, rfl, ifT (decide_eq_true rfl) ?_⟩
    exact ⟨_, rfl, pa, _, _, _, rfl, rfl, SqL.of (s0 _ _ hp), at_of (j := 0) rfl e0, q v0 _ s0 (tr0.same s0)⟩
  | succ k =>
    refine ⟨_, rfl, rfl, _, rfl, ifF (decide_eq_false fun e => ?_) ?_⟩
    · have := V.int.inj e
      omega
    have hlv : ((5 - (k + 1) : Nat) : Int) = ((4 - k : Nat) : Int) := by omega
    obtain ⟨wa, hwa, hwH⟩ : ∃ wa, ([.ref a0, .ref a1, .ref a2, .ref a3, .ref a4] : List V)[4 - k]? = some (.ref wa) ∧ H0 wa = some (.lst ((wanted (4 - k)).map V.str)) := by
      have h5 : 4 - k < 5 := by omega
      generalize 4 - k = l at h5
      match l, h5 with
      | 0, _ => exact ⟨a0, rfl, h0⟩
      | 1, _ => exact ⟨a1, rfl, h1⟩
      | 2, _ => exact ⟨a2, rfl, h2⟩
      | 3, _ => exact ⟨a3, rfl, h3⟩
      | 4, _ => exact ⟨a4, rfl, h4⟩
    refine ⟨_, rfl, _, rfl, _, rfl, _, rfl, L, _, _, _, rfl, rfl, SqL.of hL, at_of (j := 4 - k) hlv hwa, pa, sa, wa, xs, p, r, 4 - k, rfl, s0 _ _ hp, hT.same s0, s0 _ _ hs, hwH, by omega, h7, fun res G Fo N gvs Hc hSc hres hG hA hF => ?_⟩
    refine ⟨res, _, rfl, SqL.of hres, rfl, _, _, rfl, _, _, rfl, rfl, ?_⟩
    refine ⟨_, rfl, G, rfl, ⟨_, SqL.of hG⟩, fun Dd hDd => ?_⟩
    have hglen : gvs.length = ((p, (splitAtLev (4 - k) r).1) :: (splitAtLev (4 - k) r).2.map (·.2)).length := Paired.length hA
    have hgl7 : ((p, (splitAtLev (4 - k) r).1) :: (splitAtLev (4 - k) r).2.map (·.2)).length ≤ 8 := by
      have e1 := split_len (4 - k) r
      have e2 := groups_len (splitAtLev (4 - k) r).2
      rw [List.length_cons, List.length_map]
      omega
    generalize hgr : (p, (splitAtLev (4 - k) r).1) :: (splitAtLev (4 - k) r).2.map (·.2) = grps at hA hglen hgl7
    have hbound : ∀ x ∈ grps, x.2.length ≤ 7 := fun x hx => by
      rw [← hgr] at hx
      exact Nat.le_trans (grp_len _ _ _ x hx) h7
    refine lc_list (K := K) (a := G) (xs := gvs) (fun i H' => Same Hc H' ∧ ∃ acc, H' Dd = some (.lst acc) ∧ TreesAt H' acc ((grps.take i).map fun x => due k x.1 x.2) ∧ acc.length ≤ i) ⟨Same.one hDd, [], upd_same, .nil, Nat.le_refl _⟩ (fun i H' _ hP => SqL.of (hP.1 _ _ hG)) ?_ ?_
    · rintro i x H' hx ⟨hS', acc, hL', hTs, hac⟩
      have hi : i < gvs.length := (List.getElem?_eq_some_iff.mp hx).1
      obtain ⟨grp, hgrp⟩ : ∃ y, grps[i]? = some y := ⟨grps[i]'(by omega), List.getElem?_eq_getElem (by omega)⟩
      obtain ⟨x', hx', hat⟩ := paired_at hA hgrp
      obtain rfl : x' = x := by rw [hx] at hx'; exact (Option.some.inj hx').symm
      obtain ⟨ga, pl, sl, vs, rfl, _, g1, g2, g3, g4⟩ := hat
      refine ⟨rfl, ?_⟩
      show tCall (spTreeL k) [] E0 (tCons (tOp (rIxL K) (tVar 7) (tC (.int 0))) (tCons (tOp (rIxL K) (tVar 7) (tC (.int 1))) (tCons (tOp (rI0 fun i j => V.int (i + j)) (tVar 2) (tC (.int 1))) tNil))) _ H' _
      refine ⟨_, rfl, ga, _, _, _, rfl, rfl, SqL.of (hS' _ _ g1), at_of (j := 0) rfl rfl, _, rfl, ga, _, _, _, rfl, rfl, SqL.of (hS' _ _ g1), at_of (j := 1) rfl rfl, _, rfl, _, _, rfl, rfl, pl, sl, vs, grp.1, grp.2, ?_, hS' _ _ g2, g3.same hS', hS' _ _ g4, hbound _ (List.mem_of_getElem? hgrp), fun v H4 hS4 tr4 => ?_⟩
      · have e : ((5 - (k + 1) : Nat) : Int) + 1 = ((5 - k : Nat) : Int) := by omega
        show [V.ref pl, V.ref sl, V.int (((5 - (k + 1) : Nat) : Int) + 1)] = _
        rw [e]
      · have line : sizeLine = 2 ^ 24 := rfl
        have tL := tups_lst (ys := acc ++ [v]) (hS4 _ _ hL')
        refine ⟨acc, hS4 _ _ hL', by omega, fun b o e => ?_, acc ++ [v], upd_same, ?_, by rw [List.length_append]; simp only [List.length_cons, List.length_nil]; omega⟩
        · rw [upd_ne (ne_of_none e hDd)]
          exact hS4 _ _ (hS' _ _ e)
        · have et : grps.take (i + 1) = grps.take i ++ [grp] := by rw [List.take_add_one, hgrp]; rfl
          rw [et, List.map_append]
          exact Paired.snoc ((TreesAt.same hTs hS4).mono tL) (tr4.mono tL)
    · rintro H' ⟨hS', acc, hL', hTs, hac⟩
      rw [hglen, List.take_length] at hTs
      rw [← hgr, List.map_cons, List.map_map] at hTs
      have sAll := s0.trans (hSc.trans hS')
      refine ⟨_, rfl, _, rfl, Dd, Fo, hd, acc, due k p (splitAtLev (4 - k) r).1, (splitAtLev (4 - k) r).2.map fun x => due k x.2.1 x.2.2, (splitAtLev (4 - k) r).2.map (·.1), rfl, hL', hTs, hS' _ _ hF, by rw [List.length_map, List.length_map], ?_, (hSc.trans hS') _ _ nhd, fun v H4 hS4 tr4 => ?_⟩
      · rw [List.length_map]
        have e1 := split_len (4 - k) r
        have e2 := groups_len (splitAtLev (4 - k) r).2
        omega
      · rw [← due_succ] at tr4
        exact q v H4 (sAll.trans hS4) tr4
theorem tree_left (D : Df K mg "_law_tree" sTree ["_law_parts", "_law_signs", "_law_level"]) : Gf P w K mg base j "_law_tree" ["_law_parts", "_law_signs", "_law_level"] (spT 0) := by
  obtain ⟨f, fd, F, m, b⟩ := D
  exact ⟨f, fd, ⟨fun vs H Q E h => h.elim, fun A outer s H args us vs Q E _ _ _ _ h => h.elim⟩, b, F.kp, m⟩
theorem trees (D : Df K mg "_law_tree" sTree ["_law_parts", "_law_signs", "_law_level"]) (GS : Gf P w K mg base 1 "_law_split" ["_law_parts", "_law_signs", "_law_wanted"] spSplitL) (GC : Gf P w K mg base 1 "_law_chain" ["_law_parts", "_law_signs", "_law_heads"] spChainL) :
    ∀ k, k ≤ 6 → Gf P w K mg base (k + 1) "_law_tree" ["_law_parts", "_law_signs", "_law_level"] (spT k)
  | 0, _ => tree_left D
  | k + 1, h => ok_tree (by omega) (by omega) D GS GC (trees D GS GC k (by omega))
end
end K2
set_option maxRecDepth 100000
set_option maxHeartbeats 4000000
/-! Trees as data, their text's length, repr of data. -/
namespace K2
open PySem L2 TL
/-- a tree as data -/
def enc : Tree → PyData
  | .int n => .tuple [.str "int", .int n]
  | .bool b => .tuple [.str "bool", .bool b]
  | .var x => .tuple [.str "var", .str x]
  | .member s x => .tuple [.str "member", .str s, .str x]
  | .neg t => .tuple [.str "not", enc t]
  | .bin g t u => .tuple [.str g.head, enc t, enc u]
  | .call f t u => .tuple [.str "call", enc f, .tuple [enc t, enc u]]
theorem enc_at {K : PySem.W.Frag} {H : Hp} : ∀ {t : Tree} {v : V}, TreeAt H v t → Dp K H v (enc t)
  | .int n, _, ⟨_, e, h⟩ => e ▸ .tup (SqT.of h) (.cons (.str _) (.cons (.int n) .nil))
  | .bool b, _, ⟨_, e, h⟩ => e ▸ .tup (SqT.of h) (.cons (.str _) (.cons (.bl b) .nil))
  | .var x, _, ⟨_, e, h⟩ => e ▸ .tup (SqT.of h) (.cons (.str _) (.cons (.str x) .nil))
  | .member s x, _, ⟨_, e, h⟩ => e ▸ .tup (SqT.of h) (.cons (.str _) (.cons (.str s) (.cons (.str x) .nil)))
  | .neg _, _, ⟨_, _, e, h, h1⟩ => e ▸ .tup (SqT.of h) (.cons (.str _) (.cons (enc_at h1) .nil))
  | .bin _ _ _, _, ⟨_, _, _, e, h, h1, h2⟩ => e ▸ .tup (SqT.of h) (.cons (.str _) (.cons (enc_at h1) (.cons (enc_at h2) .nil)))
  | .call _ _ _, _, ⟨_, _, _, _, _, e, h, h0, h1, h2, h3⟩ => e ▸ .tup (SqT.of h) (.cons (.str _) (.cons (enc_at h1) (.cons (.tup (SqT.of h0) (.cons (enc_at h2) (.cons (enc_at h3) .nil))) .nil)))
/-- the items that are due, as data -/
def encL (t : Tree) : PyData := .list [.tuple [.str "let", .str "v", enc t, .int 2]]
theorem encL_at {K : PySem.W.Frag} {H : Hp} {l a : Addr} {v : V} {t : Tree} (hl : H l = some (.lst [.ref a])) (ha : H a = some (.tup [.str "let", .str "v", v, .int 2])) (ht : TreeAt H v t) : Dp K H (.ref l) (encL t) :=
  .lst (SqL.of hl) (.cons (.tup (SqT.of ha) (.cons (.str _) (.cons (.str _) (.cons (enc_at ht) (.cons (.int 2) .nil))))) .nil)
/-- data that repr shows, of m operands -/
structure Fit (m : Nat) (d : PyData) : Prop where
  one : 1 ≤ m
  show_ : d.showable = true
  noDict : d.hasDict = false
  dep : d.depth ≤ m + 3
  short : d.leavesShort 13 = true
  bulk : d.bulk + 10 ≤ 100 * m
theorem head_short (g : Sg) : (PyData.str g.head).leavesShort 13 = true ∧ g.head.cps.size ≤ 3 := by
  cases g <;> exact ⟨by decide +kernel, by decide +kernel⟩
theorem Fit.bin {m n : Nat} {t u : Tree} (g : Sg) (a : Fit m (enc t)) (b : Fit n (enc u)) : Fit (m + n) (enc (.bin g t u)) := by
  obtain ⟨h1, h2⟩ := head_short g
  obtain ⟨a1, a2, a3, a4, a5, a6⟩ := a
  obtain ⟨b1, b2, b3, b4, b5, b6⟩ := b
  refine ⟨by omega, ?_, ?_, ?_, ?_, ?_⟩
  · simp only [enc, PyData.showable, PyData.showableAll, a2, b2, Bool.and_self]
  · simp only [enc, PyData.hasDict, PyData.hasDictAll, a3, b3, Bool.or_self]
  · simp only [enc, PyData.depth, PyData.depthAll]
    omega
  · simp only [enc, PyData.leavesShort, PyData.leavesShortAll, a5, b5, Bool.and_true]
    exact h1
  · simp only [enc, PyData.bulk, PyData.bulkAll]
    omega
theorem int_small {n : Nat} (h : n < 65536) : ((n : Nat) : Int).natAbs.log2 < 1920 := by
  rw [Int.natAbs_natCast]
  by_cases z : n = 0
  · subst z
    decide
  · have h16 : n < 2 ^ 16 := h
    have := (Nat.log2_lt z).mpr h16
    omega
theorem int_short {n : Nat} (h : n < 65536) : (PyData.int n).leavesShort 13 = true := by
  simp only [PyData.leavesShort, decide_eq_true_eq]
  refine PyData.shown_int_le ?_
  rw [Int.natAbs_natCast]
  exact Nat.lt_of_lt_of_le h (by decide)
theorem nm_short (i : Nat) : (PyData.str (nm i)).leavesShort 13 = true ∧ (nm i).cps.size ≤ 3 := by
  match i with
  | 0 => exact ⟨by decide +kernel, by decide +kernel⟩
  | 1 => exact ⟨by decide +kernel, by decide +kernel⟩
  | 2 => exact ⟨by decide +kernel, by decide +kernel⟩
  | n + 3 => exact ⟨by show (PyData.str ("f_1" : Str)).leavesShort 13 = true; decide +kernel, by show ("f_1" : Str).cps.size ≤ 3; decide +kernel⟩
theorem strS {z : Str} (h : (PyData.str z).leavesShort 13 = true) : (z.cps.toList.all fun c => decide (c < 16 ^ 8)) = true := h
theorem fit_opd : ∀ (o : Opd), o.small → Fit 1 (enc o.tree)
  | .num n, h => by
    refine ⟨by decide, ?_, rfl, ?_, ?_, ?_⟩
    · simp only [Opd.tree, enc, PyData.showable, PyData.showableAll, Bool.true_and, Bool.and_true, decide_eq_true_eq]
      exact int_small h
    · simp only [Opd.tree, enc, PyData.depth, PyData.depthAll]
      omega
    · have a := int_short h
      have b : (PyData.str ("int" : Str)).leavesShort 13 = true := by decide +kernel
      simp only [Opd.tree, enc, PyData.leavesShort.eq_6, PyData.leavesShortAll, a, b, Bool.and_self]
    · have b : ("int" : Str).cps.size ≤ 10 := by decide +kernel
      simp only [Opd.tree, enc, PyData.bulk, PyData.bulkAll]
      omega
  | .name i, _ => by
    obtain ⟨n1, n2⟩ := nm_short i
    refine ⟨by decide, rfl, rfl, ?_, ?_, ?_⟩
    · simp only [Opd.tree, enc, PyData.depth, PyData.depthAll]
      omega
    · have b : (PyData.str ("var" : Str)).leavesShort 13 = true := by decide +kernel
      simp only [Opd.tree, enc, PyData.leavesShort.eq_6, PyData.leavesShortAll, n1, b, Bool.and_self]
    · have b : ("var" : Str).cps.size ≤ 10 := by decide +kernel
      simp only [Opd.tree, enc, PyData.bulk, PyData.bulkAll]
      omega
  | .mem i, _ => by
    obtain ⟨n1, n2⟩ := nm_short i
    refine ⟨by decide, rfl, rfl, ?_, ?_, ?_⟩
    · simp only [Opd.tree, enc, PyData.depth, PyData.depthAll]
      omega
    · have b : (PyData.str ("member" : Str)).leavesShort 13 = true := by decide +kernel
      have b2 : (PyData.str ("s" : Str)).leavesShort 13 = true := by decide +kernel
      simp only [Opd.tree, enc, PyData.leavesShort.eq_6, PyData.leavesShortAll, n1, b, b2, Bool.and_self]
    · have b : ("member" : Str).cps.size ≤ 10 := by decide +kernel
      have b2 : ("s" : Str).cps.size ≤ 10 := by decide +kernel
      simp only [Opd.tree, enc, PyData.bulk, PyData.bulkAll]
      omega
  | .call i n, h => by
    obtain ⟨n1, n2⟩ := nm_short i
    refine ⟨by decide, ?_, rfl, ?_, ?_, ?_⟩
    · simp only [Opd.tree, enc, PyData.showable, PyData.showableAll, Bool.true_and, Bool.and_true, decide_eq_true_eq]
      exact int_small h
    · simp only [Opd.tree, enc, PyData.depth, PyData.depthAll]
      omega
    · have a := int_short h
      have b : (PyData.str ("int" : Str)).leavesShort 13 = true := by decide +kernel
      have b2 : (PyData.str ("var" : Str)).leavesShort 13 = true := by decide +kernel
      have b3 : (PyData.str ("call" : Str)).leavesShort 13 = true := by decide +kernel
      have b4 : (PyData.str ("b" : Str)).leavesShort 13 = true := by decide +kernel
      simp only [Opd.tree, enc, PyData.leavesShort.eq_6, PyData.leavesShortAll, a, b, b2, b3, b4, n1, Bool.and_self]
    · have b : ("int" : Str).cps.size ≤ 5 := by decide +kernel
      have b2 : ("var" : Str).cps.size ≤ 5 := by decide +kernel
      have b3 : ("call" : Str).cps.size ≤ 5 := by decide +kernel
      have b4 : ("b" : Str).cps.size ≤ 5 := by decide +kernel
      simp only [Opd.tree, enc, PyData.bulk, PyData.bulkAll]
      omega
  | .neg, _ => by
    refine ⟨by decide, rfl, rfl, ?_, ?_, ?_⟩
    · simp only [Opd.tree, enc, PyData.depth, PyData.depthAll]
      omega
    · show (enc (Tree.neg (.bool true))).leavesShort 13 = true
      decide +kernel
    · show (enc (Tree.neg (.bool true))).bulk + 10 ≤ 100
      decide +kernel
/-- every operand of a tail is small -/
def smallT (r : Tail) : Prop := ∀ x ∈ r, x.2.small
theorem split_small (l : Nat) : ∀ r : Tail, smallT r → smallT (splitAtLev l r).1 ∧ ∀ x ∈ (splitAtLev l r).2, x.2.1.small ∧ smallT x.2.2
  | [], _ => ⟨fun _ z => (nomatch z), fun _ z => (nomatch z)⟩
  | (g, o) :: r, h => by
    obtain ⟨i1, i2⟩ := split_small l r fun x hx => h x (List.mem_cons_of_mem _ hx)
    have ho : o.small := h (g, o) List.mem_cons_self
    unfold splitAtLev
    split
    · refine ⟨fun _ z => (nomatch z), fun x hx => ?_⟩
      rcases List.mem_cons.mp hx with rfl | hx
      · exact ⟨ho, i1⟩
      · exact i2 x hx
    · refine ⟨fun x hx => ?_, i2⟩
      rcases List.mem_cons.mp hx with rfl | hx
      · exact ho
      · exact i1 x hx
theorem fold_fit {k : Nat} (hk : ∀ (p : Opd) (q : Tail), p.small → smallT q → Fit (1 + q.length) (enc (due k p q))) : ∀ (gs : List (Sg × Opd × Tail)) (t : Tree) (n : Nat), (∀ x ∈ gs, x.2.1.small ∧ smallT x.2.2) → Fit n (enc t) →
    Fit (n + groupLen gs) (enc (gs.foldl (fun t x => Tree.bin x.1 t (due k x.2.1 x.2.2)) t))
  | [], t, n, _, h => h
  | (g, o, q) :: gs, t, n, hs, h => by
    obtain ⟨s1, s2⟩ := hs (g, o, q) List.mem_cons_self
    have := fold_fit hk gs (.bin g t (due k o q)) (n + (1 + q.length)) (fun x hx => hs x (List.mem_cons_of_mem _ hx)) (h.bin g (hk o q s1 s2))
    have e : n + (1 + q.length) + groupLen gs = n + groupLen ((g, o, q) :: gs) := by
      show _ = n + (1 + q.length + groupLen gs)
      omega
    rw [e] at this
    exact this
theorem due_fit : ∀ (k : Nat) (p : Opd) (q : Tail), p.small → smallT q → Fit (1 + q.length) (enc (due k p q))
  | 0, p, q, hp, _ => by
    obtain ⟨a1, a2, a3, a4, a5, a6⟩ := fit_opd p hp
    exact ⟨by omega, a2, a3, Nat.le_trans a4 (by omega), a5, Nat.le_trans a6 (by omega)⟩
  | k + 1, p, q, hp, hq => by
    have el := split_len (4 - k) q
    obtain ⟨s1, s2⟩ := split_small (4 - k) q hq
    have h := fold_fit (due_fit k) (splitAtLev (4 - k) q).2 (due k p (splitAtLev (4 - k) q).1) (1 + (splitAtLev (4 - k) q).1.length) s2 (due_fit k _ _ hp s1)
    have e : 1 + (splitAtLev (4 - k) q).1.length + groupLen (splitAtLev (4 - k) q).2 = 1 + q.length := by omega
    rw [e] at h
    unfold due
    exact h
/-- what repr asks of the items -/
theorem encL_facts {t : Tree} (h : Fit 8 (enc t)) : (encL t).showable = true ∧ (encL t).hasDict = false ∧ (encL t).depth ≤ 13 ∧ (encL t).shown.length ≤ sizeLine := by
  obtain ⟨_, a2, a3, a4, a5, a6⟩ := h
  have i2 : (PyData.int 2).leavesShort 13 = true := int_short (n := 2) (by decide)
  have b : (PyData.str ("let" : Str)).leavesShort 13 = true := by decide +kernel
  have b2 : (PyData.str ("v" : Str)).leavesShort 13 = true := by decide +kernel
  have c : ("let" : Str).cps.size ≤ 5 := by decide +kernel
  have c2 : ("v" : Str).cps.size ≤ 5 := by decide +kernel
  have s : (encL t).leavesShort 13 = true := by
    unfold encL
    simp only [PyData.leavesShort.eq_5, PyData.leavesShort.eq_6, PyData.leavesShortAll, a5, b, b2, i2, Bool.and_self]
  have k : (encL t).bulk ≤ 820 := by
    simp only [encL, PyData.bulk, PyData.bulkAll]
    omega
  have sl := PyData.shown_le_bulk 13 (by decide) (encL t) s
  refine ⟨?_, ?_, ?_, ?_⟩
  · simp only [encL, PyData.showable, PyData.showableAll, a2, Bool.true_and, Bool.and_true]
    decide +kernel
  · simp only [encL, PyData.hasDict, PyData.hasDictAll, a3, Bool.or_self]
  · simp only [encL, PyData.depth, PyData.depthAll]
    omega
  · exact Nat.le_trans sl (Nat.le_trans (Nat.add_le_add_right (Nat.mul_le_mul_left 15 k) 13) (by decide))
theorem Fit.up {m n : Nat} {d : PyData} (h : Fit m d) (k : m ≤ n) : Fit n d := by
  obtain ⟨a1, a2, a3, a4, a5, a6⟩ := h
  exact ⟨by omega, a2, a3, by omega, a5, by omega⟩
/-- repr of a list that is read as data; the frame knows no guards -/
def rRepr (K : PySem.W.Frag) : List V → Hp → VK → Prop := fun xs H Q => ∃ (a : Addr) (d : PyData), xs = [.ref a] ∧ Dp K H (.ref a) d ∧ d.showable = true ∧ d.hasDict = false ∧ d.depth ≤ 40 ∧ d.shown.length ≤ sizeLine ∧ Q (.str d.shown) H
theorem repr_data {X : Cx} (hg : X.A.guards = some []) (hu : X.A.units + 64 < cLine) : L2.CallR X (.builtin "repr") (rRepr X.K) := by
  intro pins s σ H xs us Q I r h
  obtain ⟨a, d, rfl, hd, h1, h2, h3, h4, q⟩ := h
  obtain ⟨u, rfl, e⟩ := vals1 r
  obtain ⟨as, rd⟩ := Dp.reads I d (.ref a) u hd e
  cases e
  exact repr_of_reads' rd h1 (PyData.noDict_hsm h2) hg (by omega) (fun _ _ e => e) (fun h' v tk hk => ⟨.str d.shown, H, I.kept hk, ⟨_, rfl⟩, q⟩) h4
end K2
set_option maxRecDepth 100000
set_option maxHeartbeats 4000000
/-! A def's run at one caller, of which more is known than its room; the end of the law there. -/
namespace K2
open PySem PySem.Spec PyProof.Rows L2 TL
section
variable {P : Program} {w : World} {K : PySem.W.Frag} {mg : Str → Option Value} {base : Heap}
theorem run_at {nm qn : Str} {st : Stmt} {g : Addr} {gd : FuncData} {NN pp : List Str} {lev : Nat} {B : Around} {out : List Env} {s0 : Shared} {G : Hp} {ar : Args} {ul : List Value} {xl : List V} {W : VK} {Z : XK}
    (F : Fun K nm qn st g gd) (sc : FnScope NN pp (defScope st)) (room : Room (lev + 1) B) (at0 : Env0 P w K mg base B out s0 G) (bnd : BindsTo s0 gd ar (pp.zip ul)) (vls : Vals xl ul) (hln : xl.length = pp.length)
    (hB : ∀ cdv : Value, Room lev (B.deeper (envOfC qn (defScope st) s0.heap.objs.size g cdv)) → ∃ t, PSs (cxOf CX0 P w K mg base NN qn (defScope st) g cdv B out s0 G Z).nox (defBody st) t ∧ t { nx := fun _ G' => W .non G', rt := W } (start NN xl) G) :
    codeAny (model P w) B (.call (.ref g) ar) (CR CX0 out P w G s0 W Z) s0 := by
  obtain ⟨oc, od, kV, doc, pm, an, cdv, ct, osl, rfl, hlk, hcode⟩ := F.ex
  have inK : K.In s0.heap := at0.mod.kin.keeps fun b o e => (at0.bs b o e).left
  have noLim : s0.heap.NoLimit := at0.mod.nolimit.keeps fun b o e => (at0.bs b o e).left
  have kinds : ∀ y ∈ pp.zip ul, (defScope st).names.lookup y.1 = some .local ∨ ((defScope st).names.lookup y.1 = some .cell ∧ ((cellsFrom (s0.heap.objs.size + 1) (defScope st).names []).lookup y.1).isSome = true) := fun ⟨z, v⟩ hz => (sc.par z (List.of_mem_zip hz).1).elim Or.inl fun c => Or.inr ⟨c, PySem.W.cellsFrom_some _ _ _ (Or.inl c)⟩
  refine codeAny_call_function room.depth (inK _ _ hlk) rfl sc.co sc.gen rfl (PySem.W.codeRec_of inK hcode) (bnd _ _ _ _ (wpAny_newFunctionEnv_cells sc.kind kinds fun env eq sN inC => ?_))
  subst eq
  refine ⟨noLim.keeps inC.toInCall.keep, codeAny_func ?_⟩
  obtain ⟨t, hrun, hwant⟩ := hB cdv (room.deeper _)
  have J0 : Inv (cxOf CX0 P w K mg base NN qn (defScope st) g cdv B out s0 G Z) [] (start NN xl) G sN := inv_start sc room.hd at0 hln vls inC
  have close : ∀ {σ' : L2.St} {G' : Hp} {v : V} {u : Value} {sE : Shared}, Inv (cxOf CX0 P w K mg base NN qn (defScope st) g cdv B out s0 G Z) [] σ' G' sE → RelV v u → W v G' → CE out P w G s0 W u sE :=
    fun {σ' G' v u sE} J rv wanted => ⟨v, G', J.os, J.bare, J.base, J.hok, rv, wanted⟩
  refine wpAny_mono (hrun.nox.run [] sN (start NN xl) G _ J0 hwant) (fun flow sE hE => ?_) fun _ _ hE => hE
  match flow, hE with
  | .ret u, ⟨v, σ', G', J, rv, wanted⟩ => exact close J rv wanted
  | .next, ⟨σ', G', J, wanted⟩ => exact close (v := V.non) (u := Value.none) J rfl wanted
  | .brk, ⟨_, _, _, no⟩ => exact no.elim
  | .cont, ⟨_, _, _, no⟩ => exact no.elim
/-- what the law's def is asked to do at the caller -/
def AtCaller (P : Program) (w : World) (K : PySem.W.Frag) (mg : Str → Option Value) (fa : Addr) : Prop :=
  ∀ (base : Heap) (s : Shared) (H : Hp) (a : Addr) (ns : List Int), K.In base → base.Ns mainGlobals mg → Env0 P w K mg base callerA [] s H → SqL K H a (ns.map V.int) →
    codeAny (model P w) callerA (.call (.ref fa) ⟨[.ref a], []⟩) (CR CX0 [] P w H s (fun v _ => v = .bl true) fun _ _ _ => False) s
theorem law_at {mb : Str → Option Value} {fa a : Addr} {st : Shared} {vals : List Value} {ns : List Int}
    (inK : K.In st.heap) (hmg : st.heap.Ns mainGlobals mg) (hmb : st.heap.Ns builtinsNs mb) (hbb : ∀ x : Str, x ≠ "__name__" → mb x = bootBuiltins x) (noLim : st.heap.NoLimit) (noGen : st.gens = #[])
    (script : st.heap.get? a = some { cls := .type "list", data := .seq vals.toArray }) (isI : IntsAre vals ns) (small : ns.length ≤ sizeLine) (F : AtCaller P w K mg fa) :
    codeAny (model P w) callerA (.call (.ref fa) ⟨[.ref a], []⟩) (fun r s' => r = .ok (.ret (.bool true)) ∧ OldK st.heap s'.heap ∧ s'.os = st.os ∧ AllBare s'.gens) st := by
  have rel := vals_ints isI
  have lens := isI.length
  have key : ∀ H : Hp, Only H → SqL K H a (ns.map V.int) → HOk P w H st.heap → (∀ b, H b ≠ none → b = a) → (H a ≠ none → K.lookup a = none) →
      codeAny (model P w) callerA (.call (.ref fa) ⟨[.ref a], []⟩) (fun r s' => r = .ok (.ret (.bool true)) ∧ OldK st.heap s'.heap ∧ s'.os = st.os ∧ AllBare s'.gens) st := by
    intro H only sq hok one notK
    have track : ∀ {b : Addr}, H b ≠ none → b = a := fun {b} z => one b z
    have dictFree : ∀ {b : Addr} {o : Obj} {es : Array DictEntry} {k : Nat}, st.heap.get? b = some o → o.data = .dict es k → H b = none := fun {b o es k} look isD => by
      refine Classical.byContradiction fun z => ?_
      have ba : b = a := track z
      rw [ba, script] at look
      obtain rfl := Option.some.inj look
      exact Data.noConfusion (show Data.seq vals.toArray _ = Data.dict es k from isD)
    have keepNs : ∀ {b : Addr} {m : Str → Option Value}, st.heap.Ns b m → (hidT st.heap H).Ns b m := fun {b m} ⟨o, es, k, look, isD, rest⟩ => ⟨o, es, k, hidT_get look (dictFree look isD), isD, rest⟩
    have inB : K.In (hidT st.heap H) := fun b o look => hidT_get (inK b o look) (Classical.byContradiction fun z => by
      have ba : b = a := track z
      rw [ba] at z look
      rw [notK z] at look
      cases look)
    have modB : Mod K mg (hidT st.heap H) := ⟨inB, keepNs hmg, ⟨mb, keepNs hmb, hbb⟩, noLim.elim fun mc ⟨c1, c2⟩ => ⟨mc, keepNs c1, c2⟩⟩
    have env0 : Env0 P w K mg (hidT st.heap H) callerA [] st H := ⟨rfl, modB, fun b o look => of_hidT look, Nat.le_of_eq (hidT_size _ _), trivial, fun b hb => (List.not_mem_nil hb).elim, hok, .of_eq noGen⟩
    refine codeAny_mono (F _ st H a ns inB (keepNs hmg) env0 sq) fun r s' out => ?_
    match r, out with
    | .error _, out => exact False.elim out
    | .ok .next, out => exact False.elim out
    | .ok .brk, out => exact False.elim out
    | .ok .cont, out => exact False.elim out
    | .ok (.ret u), ⟨v, H', osE, bareE, un, hokE, relE, isT⟩ =>
      have isT' : v = V.bl true := isT
      subst isT'
      obtain rfl : u = Value.bool true := relE
      refine ⟨rfl, OldK.of_keep fun b o look => ?_, osE, bareE⟩
      rcases only b with z | ⟨ob, xs, z⟩
      · exact un.keep b o look z List.not_mem_nil List.not_mem_nil
      · obtain ⟨at1, _⟩ := hok b _ z
        obtain ⟨at2, _⟩ := hokE b _ (un.frzs b ob _ z)
        exact (Option.some.inj (look.symm.trans at1)) ▸ at2
  cases lk : K.lookup a with
  | none =>
    have known : ∀ b : Addr, (if b = a then (some (HO.frz { cls := .type "list", data := .seq vals.toArray } (.lst (ns.map V.int))) : Option HO) else none) ≠ none → b = a := fun b z => Classical.byContradiction fun n => z (if_neg n)
    refine key (fun b => if b = a then some (.frz { cls := .type "list", data := .seq vals.toArray } (.lst (ns.map V.int))) else none) (fun b => ?_) (.inl (.inr ⟨{ cls := .type "list", data := .seq vals.toArray }, if_pos rfl⟩)) (fun b u z => ?_) known fun _ => lk
    · rcases Classical.em (b = a) with ba | ba
      · exact .inr ⟨_, _, if_pos ba⟩
      · exact .inl (if_neg ba)
    · obtain rfl : b = a := known b (fun n => by
        have n' := n.symm.trans z
        cases n')
      have z' := (if_pos rfl).symm.trans z
      obtain rfl := Option.some.inj z'
      exact ⟨script, by rw [List.length_map]; exact small, vals, _, rel, script⟩
  | some o =>
    obtain rfl := Option.some.inj (script.symm.trans (inK a o lk))
    refine key (fun _ => none) (fun _ => .inl rfl) (.inr ⟨_, vals.toArray, _, lk, rfl, rfl, rfl, ?_, ?_⟩) (fun _ _ z => nomatch (show (none : Option HO) = some _ from z)) (fun _ z => (z rfl).elim) fun z => (z rfl).elim
    · rw [List.size_toArray, lens]
      exact small
    · exact rel
end
/-- the head's goal (case hc) from what the law's def does at the caller -/
theorem walk_at {l : PySem.W.OpenLaw} {n : Nat} {q : Program} {loose : List Str} {XP : (Str → Option Value) → Heap → Prop} {YP : World → Heap → Prop} {d : DefRec} {K : Params → PySem.W.Frag}
    (hmost : l.most = some n) (hsmall : n ≤ sizeLine) (hdef : d.params.defaults = []) (hY : ∀ (w : World) (h : Heap), YP w h → (K w.params).In h)
    (F : ∀ (w : World) (mg : Str → Option Value) (fa : Addr) (h : Heap), (K w.params).In h → h.Ns mainGlobals mg → mg d.name = some (.ref fa) → AtCaller l.prog w (K w.params) mg fa) :
    PySem.W.WalkO q loose XP YP l.row.toRowW d [] (fun f vs => PySem.call f vs) := by
  refine Att.attach_call hmost hdef fun w s₀ s₁ mg mb fa o pm cd doc a vs ns Gr Y hfo hdata hcode hname hscript hints hlen hgens => ?_
  have inK := hY w _ Y
  exact law_at inK Gr.T.g Gr.T.b Gr.T.builtins Gr.T.nolimit hgens hscript hints (Nat.le_trans hlen hsmall) (F w mg fa _ inK Gr.T.g hname)
end K2
set_option maxRecDepth 100000
set_option maxHeartbeats 4000000
/-! The walk of the law. -/
namespace K2
open PySem L2 TL
/-! ### its plain part -/
theorem chain_snoc (p : Opd) (l : List Part) (x : Part) : chain p (l ++ [x]) = chain p l ++ partText x := by
  unfold chain
  rw [List.foldl_append]
  rfl
theorem nm_len (i : Nat) : (nm i).length ≤ 20 := by
  rw [len_tl]
  exact (nm_facts i).2.1
theorem app_len (a b : Str) : (a ++ b).length = a.length + b.length := by
  rw [len_tl, tl_append, List.length_append, ← len_tl, ← len_tl]
theorem strN_len {n : Nat} (h : n < 65536) : (strN n).length ≤ 5 := by
  rw [len_tl]
  unfold strN
  rw [tl_num]
  exact numL_len (by decide) (by omega)
theorem opd_len : ∀ (o : Opd), o.small → o.text.length ≤ 30
  | .num n, h => Nat.le_trans (strN_len h) (by decide)
  | .name i, _ => Nat.le_trans (nm_len i) (by decide)
  | .mem i, _ => by
    have a := nm_len i
    have b : ("s." : Str).length = 2 := by decide +kernel
    show (("s." : Str) ++ nm i).length ≤ 30
    rw [app_len]
    omega
  | .call i n, h => by
    have a := nm_len i
    have b := strN_len h
    have c : ("(" : Str).length = 1 := by decide +kernel
    have d : (", b)" : Str).length = 4 := by decide +kernel
    show ((nm i ++ ("(" : Str)) ++ strN n ++ (", b)" : Str)).length ≤ 30
    rw [app_len, app_len, app_len]
    omega
  | .neg, _ => by
    show ("(not true)" : Str).length ≤ 30
    decide +kernel
theorem sg_len (g : Sg) : g.str.length ≤ 3 := by cases g <;> decide +kernel
theorem blank_len (b : Bool) : (blank b).length ≤ 2 := by cases b <;> decide +kernel
/-- the text as the loop puts it together -/
theorem part_text (t : Str) (b : Bool) (g : Sg) (o : Opd) : (((t ++ blank b) ++ g.str) ++ (" " : Str)) ++ o.text = t ++ partText (b, g, o) := by
  unfold partText
  simp only [PySem.Str.append_assoc]
theorem cmp_in (g : Sg) : decide (g.str ∈ (["<", "=="] : List Str)) = g.cmp := by cases g <;> decide +kernel
theorem log_in (g : Sg) : decide (g.str ∈ (["or", "and"] : List Str)) = g.log := by cases g <;> decide +kernel
/-- what the loop has built -/
def Built (k : Nat) (text : Str) (f : Bool) (vs : List V) (gs : List Sg) (H : Hp) : Prop :=
  (k = 0 ∧ text = "" ∧ f = false ∧ vs = [] ∧ gs = []) ∨
  ∃ (p : Opd) (l : List Part), l.length + 1 = k ∧ text = chain p l ∧ TreesAt H vs (p.tree :: (tailOf l).map fun y => y.2.tree) ∧ gs = sgs (tailOf l) ∧ f = gs.foldl flag false ∧ okS false gs ∧ p.small ∧ ∀ x ∈ l, x.2.2.small
/-! ### readings in short -/
def tIn2 (i : Nat) (ws : List Str) (neg : Bool) : TE := fun σ H Q => ∃ z, σ[i]? = some (some (V.str z)) ∧ ∀ H', Same H H' → Q (.bl (if neg then !decide (z ∈ ws) else decide (z ∈ ws))) H'
theorem set_same {α : Type} : ∀ {l : List α} {i : Nat} {x : α}, l[i]? = some x → l.set i x = l
  | a :: l, 0, x, h => by
    obtain rfl := Option.some.inj h
    rfl
  | a :: l, i + 1, x, h => by
    show a :: l.set i x = a :: l
    rw [set_same (l := l) (i := i) (by simpa using h)]
  | [], i, x, h => by simp at h
section
variable {X : Cx}
theorem pe_weak {e : Expr} {t t' : TE} (h : PE X e t) (k : ∀ σ H Q, t' σ H Q → t σ H Q) : PE X e t' := ⟨fun pins s σ H Q I q => h.run pins s σ H Q I (k _ _ _ q)⟩
theorem pt_weak {e : Expr} {t t' : TT} (h : PT X e t) (k : ∀ σ H Q, t' σ H Q → t σ H Q) : PT X e t' := ⟨fun pins s σ H Q I q => h.run pins s σ H Q I (k _ _ _ q)⟩
theorem ps_weak {st : Stmt} {t t' : TS} (h : PS X st t) (k : ∀ D σ H, t' D σ H → t D σ H) : PS X st t' := ⟨fun pins s σ H D I q => h.run pins s σ H D I (k _ _ _ q)⟩
theorem in2_of {i : Nat} {a b : Str} {neg : Bool} {σ : L2.St} {H : Hp} {Q : VK} (K : PySem.W.Frag) (h : tIn2 i [a, b] neg σ H Q) : tOp (rIn K neg) (tVar i) (tLst (tCons (tC (.str a)) (tCons (tC (.str b)) tNil))) σ H Q := by
  obtain ⟨z, e, q⟩ := h
  refine ⟨_, e, (by show 2 ≤ sizeLine; decide), fun p hp => ⟨p, _, rfl, .inl (SqL.of upd_same), rfl, flat_strs [a, b], ?_⟩⟩
  have w := q _ (Same.one (o := .lst [V.str a, V.str b]) hp)
  have e2 : inV (.str z) ([V.str a, V.str b]) = decide (z ∈ [a, b]) := inV_strs z [a, b]
  show Q (.bl (if neg then !inV (.str z) ([V.str a, V.str b]) else inV (.str z) ([V.str a, V.str b]))) _
  rw [e2]
  exact w
end
/-- the two statements about comparisons -/
def tStar : TS := fun D σ H => ∃ (f : Bool) (g : Sg), σ[4]? = some (some (.bl f)) ∧ σ[9]? = some (some (.str g.str)) ∧ ∀ H' g', Same H H' → g' = (if f = true ∧ g.cmp = true then Sg.mul else g) → D.nx (σ.set 9 (some (.str g'.str))) H'
def tFlag : TS := fun D σ H => ∃ (f : Bool) (g : Sg), σ[4]? = some (some (.bl f)) ∧ σ[9]? = some (some (.str g.str)) ∧ ∀ H', Same H H' → D.nx (σ.set 4 (some (.bl (flag f g)))) H'
theorem star_of {D : Ends} {σ : L2.St} {H : Hp} (h : tStar D σ H) : tIfS (tAnd (tB (tVar 4)) (tTest (tIn2 9 ["<", "=="] false))) (tAsg (tC (.str "*")) (gName 9)) tNext D σ H := by
  obtain ⟨f, g, e4, e9, q⟩ := h
  refine ⟨_, e4, f, rfl, ?_⟩
  cases f with
  | false =>
    refine ifF rfl (ifF rfl ?_)
    have w := q H g (Same.refl H) (if_neg fun z => Bool.false_ne_true z.1).symm
    rw [set_same e9] at w
    exact w
  | true =>
    refine ifT rfl ⟨_, e9, fun H' hS => ⟨_, rfl, ?_⟩⟩
    have ec := cmp_in g
    show if decide (g.str ∈ (["<", "=="] : List Str)) = true then _ else _
    cases hc : g.cmp with
    | true =>
      refine ifT (ec.trans hc) ?_
      exact q H' .mul hS (if_pos ⟨rfl, hc⟩).symm
    | false =>
      refine ifF (ec.trans hc) ?_
      have w := q H' g hS (if_neg fun z => by rw [hc] at z; exact Bool.false_ne_true z.2).symm
      rw [set_same e9] at w
      exact w
theorem flag_of {D : Ends} {σ : L2.St} {H : Hp} (h : tFlag D σ H) : tAsg (tOrV (tIn2 9 ["<", "=="] false) (tAndV (tVar 4) (tIn2 9 ["or", "and"] true))) (gName 4) D σ H := by
  obtain ⟨f, g, e4, e9, q⟩ := h
  refine ⟨_, e9, fun H1 h1 => ⟨_, rfl, ?_⟩⟩
  have ec := cmp_in g
  have el := log_in g
  show if decide (g.str ∈ (["<", "=="] : List Str)) = true then _ else _
  cases hc : g.cmp with
  | true =>
    refine ifT (ec.trans hc) ?_
    have w := q H1 h1
    have e : flag f g = true := by unfold flag; rw [hc]; rfl
    rw [e] at w
    exact w
  | false =>
    refine ifF (ec.trans hc) ⟨_, e4, f, rfl, ?_⟩
    cases f with
    | false =>
      refine ifF rfl ?_
      have w := q H1 h1
      have e : flag false g = false := by unfold flag; rw [hc]; rfl
      rw [e] at w
      exact w
    | true =>
      refine ifT rfl ⟨_, e9, fun H2 h2 => ?_⟩
      have w := q H2 (h1.trans h2)
      have e : flag true g = !decide (g.str ∈ (["or", "and"] : List Str)) := by unfold flag; rw [hc, el]; rfl
      rw [e] at w
      exact w
section
variable {P : Program} {w : World} {K : PySem.W.Frag} {mg : Str → Option Value}
theorem scLaw : FnScope ["_law_script", "_law_parts", "_law_signs", "_law_text", "_law_compared", "_law_k", "_law_cell_here", "_law_shown", "_law_tree_here", "_law_sign", "_law_items", "_law_due"] ["_law_script"] (defScope sLaw) := ⟨rfl, rfl, rfl, by decide +kernel, rfl, by decide +kernel, by decide +kernel⟩
/-- the state of the loop -/
def LawI (a Pp Ss : Addr) (H : Hp) (k : Nat) (st : L2.St) (H' : Hp) : Prop :=
  Same H H' ∧ ∃ (text : Str) (f : Bool) (vs : List V) (gs : List Sg) (v5 v6 v7 v8 v9 : Option V), st = [some (.ref a), some (.ref Pp), some (.ref Ss), some (.str text), some (.bl f), v5, v6, v7, v8, v9, none, none] ∧
    H' Pp = some (.lst vs) ∧ H' Ss = some (.lst (sgV gs)) ∧ text.length ≤ 40 * k ∧ vs.length = k ∧ gs.length ≤ k ∧ Built k text f vs gs H'
theorem law_runs (T : LawT mg) {fa : Addr} {fd : FuncData} (F : Fun K "law" "law" sLaw fa fd) (hb : Binds K fd ["_law_script"] []) (hr : Room 31 callerA)
    (GP : ∀ base : Heap, K.In base → base.Ns mainGlobals mg → Gf P w K mg base 30 "parse" ["text", "module"] spParse) (GC : ∀ base : Heap, Gf P w K mg base 1 "_law_cell" ["_law_script", "_law_k"] (spCellL K))
    (GO : ∀ base : Heap, Gf P w K mg base 1 "_law_operand" ["_law_cell_here"] spOpd) (GT : ∀ base : Heap, Gf P w K mg base 7 "_law_tree" ["_law_parts", "_law_signs", "_law_level"] (spT 6)) : AtCaller P w K mg fa := by
  intro base s H a ns kin hns e0 hS
  obtain ⟨f1, fd1, G1, b1, k1, m1⟩ := (GC base).up (k := 30) (by decide)
  obtain ⟨f2, fd2, G2, b2, k2, m2⟩ := (GO base).up (k := 30) (by decide)
  obtain ⟨f3, fd3, G3, b3, k3, m3⟩ := (GT base).up (k := 30) (by decide)
  obtain ⟨f4, fd4, G4, b4, k4, m4⟩ := GP base kin hns
  refine run_at (lev := 30) F scLaw hr e0 (hb s [.ref a] (kin.keeps fun b o e => (e0.bs b o e).1) rfl) (xl := [.ref a]) (.cons rfl .nil) rfl fun cdv hr => ?_
  have hu : (callerA.deeper (PyProof.Rows.envOfC "law" (defScope sLaw) s.heap.objs.size fa cdv)).units + 64 < cLine := hr.units
  refine ⟨_, pss_cons (ps_set (i := 1) scLaw.nd rfl (Or.inl rfl) (pe_lst pa_nil))
    (pss_cons (ps_set (i := 2) scLaw.nd rfl (Or.inl rfl) (pe_lst pa_nil))
    (pss_cons (ps_set (i := 3) scLaw.nd rfl (Or.inl rfl) pe_str)
    (pss_cons (ps_set (i := 4) scLaw.nd rfl (Or.inl rfl) pe_bl)
    (pss_cons (ps_for PassesOwn.never rfl (pi_range1 rfl T.range (pa_cons (pe_op op_add pe_int (pe_callB (call_min2 rfl) rfl T.min (by decide +kernel) (pa_cons (pe_callB call_len_seq rfl T.len PySem.boot_len (pa_cons (pv 0) pa_nil)) (pa_cons pe_int pa_nil)))) pa_nil)) (pg_name (i := 5) scLaw.nd rfl (Or.inl rfl))
      (pss_cons (ps_set (i := 6) scLaw.nd rfl (Or.inl rfl) (pe_callB call_abs rfl T.abs (by decide +kernel) (pa_cons (pe_call G1 hr rfl m1 k1 b1 .nil pass0 (pa_cons (pv 0) (pa_cons (pv 5) pa_nil))) pa_nil)))
      (pss_cons (ps_asg (pe_call G2 hr rfl m2 k2 b2 .nil pass0 (pa_cons (pe_op op_fdiv (pv 6) pe_int) pa_nil)) (pg_unl (by rfl) (pgs_cons (pg_name (i := 7) scLaw.nd rfl (Or.inl rfl)) (pgs_cons (pg_name (i := 8) scLaw.nd rfl (Or.inl rfl)) pgs_nil))))
      (pss_cons (ps_if (pt_cmpR op_gt (pv 5) pe_int (nomark _))
        (pss_cons (ps_set (i := 9) scLaw.nd rfl (Or.inl rfl) (pe_ix ix_list (pe_lst (pa_cons pe_str (pa_cons pe_str (pa_cons pe_str (pa_cons pe_str (pa_cons pe_str (pa_cons pe_str (pa_cons pe_str (pa_cons pe_str pa_nil))))))))) (pe_op op_mod (pe_callTy call_int1 rfl T.int (by decide +kernel) (pa_cons (pv 6) pa_nil)) pe_int) (fun _ _ => rfl)))
        (pss_cons (ps_weak (t' := tStar) (ps_if (PW.pt (pw_and (pt_val (pv 4)) (pw_and1 (pt_weak (t' := tTest (tIn2 9 ["<", "=="] false)) (pt_cmpR op_in_seq (pv 9) (pe_lst (pa_cons pe_str (pa_cons pe_str pa_nil))) rfl) (fun σ H Q q => (in2_of K q : tOp _ _ _ σ H _)))))) (pss_one (ps_set (i := 9) scLaw.nd rfl (Or.inl rfl) pe_str)) pss_nil) (fun _ _ _ q => star_of q))
        (pss_cons (ps_weak (t' := tFlag) (ps_set (i := 4) scLaw.nd rfl (Or.inl rfl) (pe_or (pe_weak (t' := tIn2 9 ["<", "=="] false) (pe_cmpR op_in_seq (pv 9) (pe_lst (pa_cons pe_str (pa_cons pe_str pa_nil))) rfl) (fun _ _ _ q => in2_of K q))
            (pe_one (pe_and (pv 4) (pe_one (pe_weak (t' := tIn2 9 ["or", "and"] true) (pe_cmpR op_notIn_seq (pv 9) (pe_lst (pa_cons pe_str (pa_cons pe_str pa_nil))) rfl) (fun _ _ _ q => in2_of K q))))))) (fun _ _ _ q => flag_of q))
        (pss_cons (ps_expr (pe_bm PySem.F.plainAttrs_list PySem.F.slot_list_append PySem.F.type_list_append mt_append (pv 2) (pa_cons (pv 9) pa_nil)))
        (pss_one (ps_set (i := 3) scLaw.nd rfl (Or.inl rfl) (pe_op op_add_str (pe_op op_add_str (pe_op op_add_str (pv 3) (pe_ix ix_list (pe_lst (pa_cons pe_str (pa_cons pe_str pa_nil))) (pe_op op_mod (pe_callTy call_int1 rfl T.int (by decide +kernel) (pa_cons (pe_op op_fdiv (pv 6) pe_int) pa_nil)) pe_int) (fun _ _ => rfl))) (pv 9)) pe_str))))))) pss_nil)
      (pss_cons (ps_expr (pe_bm PySem.F.plainAttrs_list PySem.F.slot_list_append PySem.F.type_list_append mt_append (pv 1) (pa_cons (pv 8) pa_nil)))
      (pss_one (ps_set (i := 3) scLaw.nd rfl (Or.inl rfl) (pe_op op_add_str (pv 3) (pv 7)))))))))
    (pss_cons (ps_set (i := 10) scLaw.nd rfl (Or.inl rfl) (pe_call G4 hr rfl m4 k4 b4 .nil pass0 (pa_cons (pe_op op_add_str (pe_op op_add_str pe_str (pv 3)) pe_str) (pa_cons pe_str pa_nil))))
    (pss_cons (ps_set (i := 11) scLaw.nd rfl (Or.inl rfl) (pe_lst (pa_cons (pe_tup (pa_cons pe_str (pa_cons pe_str (pa_cons (pe_call G3 hr rfl m3 k3 b3 .nil pass0 (pa_cons (pv 1) (pa_cons (pv 2) (pa_cons pe_int pa_nil)))) (pa_cons pe_int pa_nil))))) pa_nil)))
    (pss_one (ps_ret (pe_and (pe_callB call_isi rfl T.isinstance (by decide +kernel) (pa_cons (pv 10) (pa_cons (pe_bltn (v := .ty "list") (u := .type "list") rfl T.list (by decide +kernel) rfl) pa_nil)))
      (pe_one (pe_cmpR op_eq (pe_callB (repr_data rfl hu) rfl T.repr (by decide +kernel) (pa_cons (pv 10) pa_nil)) (pe_callB (repr_data rfl hu) rfl T.repr (by decide +kernel) (pa_cons (pv 11) pa_nil)) (nomark _)))))))))))), ?_⟩
  have line : ∀ k, k ≤ 1000 → k ≤ sizeLine := fun k hk => Nat.le_trans hk (by decide)
  have lin' : ∀ k, k ≤ 1000 → k < sizeLine := fun k hk => Nat.lt_of_le_of_lt hk (by decide)
  refine ⟨(by show 0 ≤ sizeLine; decide), fun Pp nP => ⟨(by show 0 ≤ sizeLine; decide), fun Ss nS0 => ?_⟩⟩
  have nS : H Ss = none := (Same.one nP).free nS0
  have hne : Pp ≠ Ss := ne_of_none upd_same nS0
  have s1 : Same H (upd (upd H Pp (.lst [])) Ss (.lst [])) := (Same.one nP).trans (Same.one nS0)
  have hP1 : upd (upd H Pp (.lst [])) Ss (.lst []) Pp = some (.lst []) := (Same.one nS0) _ _ upd_same
  have hS1 : upd (upd H Pp (.lst [])) Ss (.lst []) Ss = some (.lst (sgV [])) := upd_same
  generalize upd (upd H Pp (.lst [])) Ss (.lst []) = H1 at s1 hP1 hS1
  have hlen : (ns.map V.int).length = ns.length := List.length_map _
  obtain ⟨n, hn, hn1, hn8⟩ : ∃ n : Nat, (1 : Int) + (if (7 : Int) < (((ns.map V.int).length : Nat) : Int) then (7 : Int) else (((ns.map V.int).length : Nat) : Int)) = (n : Int) ∧ 1 ≤ n ∧ n ≤ 8 := by
    by_cases h : (7 : Int) < (((ns.map V.int).length : Nat) : Int)
    · exact ⟨8, by rw [if_pos h]; rfl, by decide, by decide⟩
    · refine ⟨1 + (ns.map V.int).length, by rw [if_neg h]; omega, by omega, by omega⟩
  refine ⟨_, rfl, a, _, rfl, .inl (s1.seq hS), _, _, rfl, _, _, rfl, rfl, n, congrArg (fun z => [V.int z]) hn, by omega, by omega, ?_⟩
  refine for_range (lo := 0) (n := ((n : Nat) : Int).toNat) (fun k st H' => LawI a Pp Ss H k st H') ⟨s1, "", false, [], [], none, none, none, none, none, rfl, hP1, hS1, Nat.le_refl _, rfl, Nat.le_refl _, .inl ⟨rfl, rfl, rfl, rfl, rfl⟩⟩ ?_ ?_
  · rintro k st H' hk ⟨hs, text, f, vs, gs, v5, v6, v7, v8, v9, rfl, hP, hSs, htl, hvl, hgl, hB⟩
    rw [Int.toNat_natCast] at hk
    have ek : (0 : Int) + (k : Int) = (k : Int) := Int.zero_add _
    rw [ek]
    refine ⟨_, rfl, _, rfl, a, ns, k, rfl, hs.seq hS, _, rfl, ?_⟩
    obtain ⟨c, hc, hc0⟩ : ∃ c : Int, (if ns.getD k 0 < 0 then -ns.getD k 0 else ns.getD k 0) = c ∧ 0 ≤ c := by
      refine ⟨_, rfl, ?_⟩
      split <;> omega
    rw [hc]
    refine ⟨_, rfl, _, _, rfl, rfl, ⟨by decide, by decide⟩, c / 8, rfl, by omega, fun lo v H2 h2 nlo hlo tr => ?_⟩
    refine ⟨lo, _, rfl, SqL.of hlo, rfl, _, _, rfl, _, _, rfl, rfl, ?_⟩
    have sm := opdOf_small (c / 8)
    have ol := opd_len _ sm
    have hs2 := hs.trans h2
    have hP2 := h2 _ _ hP
    have hSs2 := h2 _ _ hSs
    have mP : ∀ (Hx : Hp) (ys : List V), Same H Hx → Same H (upd Hx Pp (.lst ys)) := fun Hx ys z b u e => by rw [upd_ne (ne_of_none e nP)]; exact z b u e
    have mS : ∀ (Hx : Hp) (ys : List V), Same H Hx → Same H (upd Hx Ss (.lst ys)) := fun Hx ys z b u e => by rw [upd_ne (ne_of_none e nS)]; exact z b u e
    generalize ho : opdOf (c / 8) = o at *
    refine ⟨_, rfl, _, _, rfl, rfl, _, rfl, ?_⟩
    rcases hB with ⟨rfl, rfl, rfl, rfl, rfl⟩ | ⟨p, l, hl, rfl, hT, rfl, rfl, hok, hp, hsm⟩
    · refine ifF (decide_eq_false (by decide)) ?_
      refine ⟨_, rfl, .inl ⟨rfl, _, SqL.of hP2⟩, _, rfl, Pp, _, _, rfl, rfl, hP2, lin' _ (by decide), ?_⟩
      refine ⟨_, rfl, _, rfl, _, _, rfl, rfl, line _ ?_, ?_⟩
      · have e0 : ("" : Str).length = 0 := by decide +kernel
        rw [e0]
        omega
      have et : ("" : Str) ++ o.text = o.text := PySem.Str.empty_append _
      refine ⟨mP _ _ hs2, _, _, _, _, _, _, _, _, _, rfl, upd_same, ?_, ?_, rfl, Nat.zero_le _, .inr ⟨o, [], rfl, et, ?_, rfl, rfl, trivial, sm, fun _ z => nomatch z⟩⟩
      · rw [upd_ne hne.symm]
        exact hSs2
      · rw [et]
        omega
      · exact .cons (tr.mono (tups_lst hP2)) .nil
    · have hk0 : 0 < k := by omega
      refine ifT (decide_eq_true (by omega)) ?_
      refine ⟨(by show 8 ≤ sizeLine; decide), fun l0 hl0 => ⟨_, rfl, .inl ⟨_, rfl, _, _, rfl, rfl, (by show (0 : Int) < 8; decide), l0, (["or", "and", "<", "==", "+", "-", "*", "+"] : List Str).map V.str, c % 8, .str (sgAt c).str, rfl, rfl, SqL.of upd_same, at_of (j := (c % 8).toNat) (by omega) (by rw [List.getElem?_map, sg_at]; rfl), ?_⟩⟩⟩
      have h3 := Same.one (o := .lst [.str "or", .str "and", .str "<", .str "==", .str "+", .str "-", .str "*", .str "+"]) hl0
      show tSeq _ _ _ _ (upd H2 l0 (.lst [.str "or", .str "and", .str "<", .str "==", .str "+", .str "-", .str "*", .str "+"]))
      generalize upd H2 l0 (.lst [.str "or", .str "and", .str "<", .str "==", .str "+", .str "-", .str "*", .str "+"]) = H3 at h3
      refine ⟨_, sgAt c, rfl, rfl, fun H4 g h4 hg => ⟨_, g, rfl, rfl, fun H5 h5 => ?_⟩⟩
      have hpick : g = pick ((sgs (tailOf l)).foldl flag false) c := hg
      have h25 := (h3.trans h4).trans h5
      have hP5 := h25 _ _ hP2
      have hSs5 := h25 _ _ hSs2
      have hs5 := hs2.trans h25
      have gl := sg_len g
      have bl := blank_len (decide (c / 4 % 2 = 1))
      have tr5 := tr.same h25
      have hT5 := (hT.same h2).same h25
      refine ⟨_, rfl, .inl ⟨rfl, _, SqL.of hSs5⟩, _, rfl, Ss, _, _, rfl, rfl, hSs5, lin' _ (by rw [sgV_len]; omega), ?_⟩
      have hs6 := mS H5 (sgV (sgs (tailOf l)) ++ [.str g.str]) hs5
      have t6 := tups_lst (ys := sgV (sgs (tailOf l)) ++ [.str g.str]) hSs5
      have hP6 : upd H5 Ss (.lst (sgV (sgs (tailOf l)) ++ [.str g.str])) Pp = some (.lst vs) := by
        rw [upd_ne hne]
        exact hP5
      have hSs6 : upd H5 Ss (.lst (sgV (sgs (tailOf l)) ++ [.str g.str])) Ss = some (.lst (sgV (sgs (tailOf l)) ++ [.str g.str])) := upd_same
      have tr6 := tr5.mono t6
      have hT6 := hT5.mono t6
      generalize upd H5 Ss (.lst (sgV (sgs (tailOf l)) ++ [.str g.str])) = H6 at hs6 hP6 hSs6 tr6 hT6
      have hbl : ([" ", "\n "] : List Str)[(c / 4 % 2).toNat]? = some (blank (decide (c / 4 % 2 = 1))) := by
        rcases (by omega : c / 4 % 2 = 0 ∨ c / 4 % 2 = 1) with e | e
        · rw [e]
          rfl
        · rw [e]
          rfl
      have sp1 : (" " : Str).length = 1 := by decide +kernel
      refine ⟨_, rfl, (by show 2 ≤ sizeLine; decide), fun l1 hl1 => ⟨_, rfl, _, _, rfl, rfl, ⟨by decide, by decide⟩, .inl ⟨_, rfl, _, _, rfl, rfl, (by show (0 : Int) < 2; decide), l1, ([" ", "\n "] : List Str).map V.str, c / 4 % 2, .str (blank (decide (c / 4 % 2 = 1))), rfl, rfl, SqL.of upd_same, at_of (j := (c / 4 % 2).toNat) (by omega) (by rw [List.getElem?_map, hbl]; rfl), ?_⟩⟩⟩
      have h7 := Same.one (o := .lst [.str " ", .str "\n "]) hl1
      refine ⟨_, _, rfl, rfl, line _ (by omega), _, rfl, _, _, rfl, rfl, line _ ?_, _, _, rfl, rfl, line _ ?_, ?_⟩
      · rw [app_len]
        omega
      · rw [app_len, app_len, sp1]
        omega
      have hs7 := hs6.trans h7
      have hP7 := h7 _ _ hP6
      have hSs7 := h7 _ _ hSs6
      have tr7 := tr6.same h7
      have hT7 := hT6.same h7
      show tSeq _ _ _ _ (upd H6 l1 (.lst [.str " ", .str "\n "]))
      generalize upd H6 l1 (.lst [.str " ", .str "\n "]) = H7 at hs7 hP7 hSs7 tr7 hT7
      refine ⟨_, rfl, .inl ⟨rfl, _, SqL.of hP7⟩, _, rfl, Pp, _, _, rfl, rfl, hP7, lin' _ (by omega), ?_⟩
      have ltot : (((chain p l ++ blank (decide (c / 4 % 2 = 1))) ++ g.str) ++ (" " : Str)).length ≤ 40 * k + 6 := by
        rw [app_len, app_len, app_len, sp1]
        omega
      refine ⟨_, rfl, _, rfl, _, _, rfl, rfl, line _ (by omega), ?_⟩
      have et := part_text (chain p l) (decide (c / 4 % 2 = 1)) g o
      have el : tailOf (l ++ [(decide (c / 4 % 2 = 1), g, o)]) = tailOf l ++ [(g, o)] := by
        unfold tailOf
        rw [List.map_append]
        rfl
      have es : sgs (tailOf l ++ [(g, o)]) = sgs (tailOf l) ++ [g] := by
        unfold sgs
        rw [List.map_append]
        rfl
      refine ⟨mP _ _ hs7, _, _, _, sgs (tailOf l) ++ [g], _, _, _, _, _, rfl, upd_same, ?_, ?_, ?_, ?_, .inr ⟨p, l ++ [(decide (c / 4 % 2 = 1), g, o)], ?_, ?_, ?_, ?_, ?_, ?_, hp, ?_⟩⟩
      · rw [upd_ne hne.symm, hSs7]
        unfold sgV
        rw [List.map_append]
        rfl
      · rw [app_len]
        omega
      · rw [List.length_append, hvl]
        rfl
      · rw [List.length_append]
        show _ + 1 ≤ k + 1
        omega
      · rw [List.length_append]
        show l.length + 1 + 1 = k + 1
        omega
      · rw [et, chain_snoc]
      · rw [el, List.map_append, ← List.cons_append]
        exact Paired.snoc (hT7.mono (tups_lst hP7)) (tr7.mono (tups_lst hP7))
      · rw [el, es]
      · rw [List.foldl_append]
        rfl
      · refine okS_snoc _ false g hok fun hf => ?_
        rw [hpick]
        exact pick_ok _ c hf
      · intro x hx
        rcases List.mem_append.mp hx with hx | hx
        · exact hsm x hx
        · obtain rfl := List.mem_singleton.mp hx
          exact sm
  · rintro st H' ⟨hs, text, f, vs, gs, v5, v6, v7, v8, v9, rfl, hP, hSs, htl, hvl, hgl, hB⟩
    rw [Int.toNat_natCast] at htl hvl hgl hB
    rcases hB with ⟨z, _⟩ | ⟨p, l, hl, rfl, hT, rfl, rfl, hok, hp, hsm⟩
    · omega
    have hl7 : (tailOf l).length ≤ 7 := by
      unfold tailOf
      rw [List.length_map]
      omega
    obtain ⟨us, lex1, lex2⟩ := law_lex p l hp hsm
    have c1 : ("  let v = " : Str).length = 10 := by decide +kernel
    have c2 : (";" : Str).length = 1 := by decide +kernel
    have dd := due_dep 5 p (tailOf l)
    refine ⟨_, rfl, _, _, rfl, rfl, line _ (by rw [c1]; omega), _, _, rfl, rfl, line _ (by rw [app_len, c1, c2]; omega), _, _, "v", 2, us, _, due 5 p (tailOf l), rfl, (by rw [app_len, app_len, c1, c2]; omega), lex1, lex2, read5 p (tailOf l) 1 (.sign ";") [] hok (by omega) stops_semi, by omega, fun l1 a1 t1 H2 h2 hl1 ha1 tr1 => ?_⟩
    refine ⟨_, rfl, _, rfl, Pp, Ss, vs, p, tailOf l, rfl, h2 _ _ hP, hT.same h2, h2 _ _ hSs, hl7, fun t2 H3 h3 tr2 => ⟨(by show 4 ≤ sizeLine; decide), fun a2 na2 => ⟨(by show 1 ≤ sizeLine; decide), fun l2 nl2 => ?_⟩⟩⟩
    have g1 := Same.one (o := .tup [.str "let", .str "v", t2, .int 2]) na2
    have g2 := Same.one (o := .lst [.ref a2]) nl2
    have ha2 := g2 a2 _ upd_same
    have hl2 : upd (upd H3 a2 (.tup [.str "let", .str "v", t2, .int 2])) l2 (.lst [.ref a2]) l2 = some (.lst [.ref a2]) := upd_same
    generalize upd (upd H3 a2 (.tup [.str "let", .str "v", t2, .int 2])) l2 (.lst [.ref a2]) = H4 at g2 ha2 hl2
    have h34 := g1.trans g2
    have d1 : Dp K H4 (.ref l1) (encL (due 5 p (tailOf l))) := encL_at ((h3.trans h34) _ _ hl1) ((h3.trans h34) _ _ ha1) (tr1.same (h3.trans h34))
    have d2 : Dp K H4 (.ref l2) (encL (due 5 p (tailOf l))) := encL_at hl2 ha2 (tr2.same h34)
    have sml : smallT (tailOf l) := fun x hx => by
      unfold tailOf at hx
      obtain ⟨y, hy, rfl⟩ := List.mem_map.mp hx
      exact hsm y hy
    obtain ⟨e1, e2, e3, e4⟩ := encL_facts ((due_fit 5 p (tailOf l) hp sml).up (n := 8) (by omega))
    refine ⟨_, rfl, _, .ty "list", .type "list", .type "list", true, rfl, .ty "list", .base (.lst ((h3.trans h34) _ _ hl1)), kit_ty (by decide +kernel), _, rfl, ifT rfl ?_⟩
    refine ⟨_, rfl, l1, _, rfl, d1, e1, e2, Nat.le_trans e3 (by decide), e4, _, rfl, l2, _, rfl, d2, e1, e2, Nat.le_trans e3 (by decide), e4, rfl, ?_⟩
    exact congrArg V.bl (decide_eq_true rfl)
end
end K2
set_option maxRecDepth 100000
set_option maxHeartbeats 4000000
/-! What the top has written, and the law's end. -/
namespace K2
open PySem PySem.Spec PyProof.Rows L2 TL
abbrev fnAt (x q : Str) (st : Stmt) (kV doc pm : Value) (an : Option Addr) (cdv ct : Value) : FuncData := PySem.W.fnOf x q (defArgs st) (defBody st) (defScope st) .none kV doc pm an cdv ct
section
variable {K : PySem.W.Frag} {h : Heap} {mg : Str → Option Value} {f C : Addr} {oc kV doc pm cdv ct : Value} {od an : Option Addr} {osl : Array (Option Value)} {x q : Str} {st : Stmt} {ps : List Str}
theorem df_of (inK : K.In h) (G : h.Ns mainGlobals mg) (a : PySem.W.nsIn K mainGlobals x = some (some (.ref f))) (l : K.lookup f = some ⟨oc, od, .func (fnAt x x st kV doc pm an cdv ct), osl⟩) (c : PySem.W.codeIn K cdv x = true) (k : PySem.W.keepIn K (.ref f) = true)
    (b : ∀ (kV doc pm : Value) (an : Option Addr) (cdv ct : Value) (us : List Value), us.length = ps.length → bindArgs (fnAt x x st kV doc pm an cdv ct) ⟨us, []⟩ = pure (ps.zip us)) : Df K mg x st ps :=
  have F := fun_mk (st := st) l c k
  ⟨f, _, F, PySem.W.mg_of inK G a, F.binds b⟩
theorem dm_of (a : PySem.W.findIn K (.ref C) x = some (some (.ref f))) (i : PySem.W.isFn K (.ref f) = true) (l : K.lookup f = some ⟨oc, od, .func (fnAt x q st kV doc pm an cdv ct), osl⟩) (c : PySem.W.codeIn K cdv q = true) (k : PySem.W.keepIn K (.ref f) = true)
    (b : ∀ (kV doc pm : Value) (an : Option Addr) (cdv ct : Value) (us : List Value), us.length = ps.length → bindArgs (fnAt x q st kV doc pm an cdv ct) ⟨us, []⟩ = pure (ps.zip us)) : Dm K C x q st ps :=
  have F := fun_mk (st := st) l c k
  ⟨f, _, F, ⟨a, i, k⟩, F.binds b⟩
theorem tup_of {a : Addr} {its : Array Value} {n : Nat} {xs : List V} (l : K.lookup a = some ⟨.type "tuple", od, .seq its n, osl⟩) (z : its.size ≤ 20000) (v : Vals xs its.toList) : KTup K a xs :=
  ⟨_, its, n, l, rfl, rfl, small_line z, v⟩
end
theorem all_mk {P : Program} {w : World} {K : PySem.W.Frag} {h : Heap} {mg : Str → Option Value} {fa C : Addr} (inK : K.In h) (G : h.Ns mainGlobals mg) (hfa : mg "law" = some (.ref fa))
    {f0 : Addr} {oc0 kV0 dc0 pm0 cd0 ct0 : Value} {od0 an0 : Option Addr} {sl0 : Array (Option Value)}
    {f1 : Addr} {oc1 kV1 dc1 pm1 cd1 ct1 : Value} {od1 an1 : Option Addr} {sl1 : Array (Option Value)}
    {f2 : Addr} {oc2 kV2 dc2 pm2 cd2 ct2 : Value} {od2 an2 : Option Addr} {sl2 : Array (Option Value)}
    {f3 : Addr} {oc3 kV3 dc3 pm3 cd3 ct3 : Value} {od3 an3 : Option Addr} {sl3 : Array (Option Value)}
    {f4 : Addr} {oc4 kV4 dc4 pm4 cd4 ct4 : Value} {od4 an4 : Option Addr} {sl4 : Array (Option Value)}
    {f5 : Addr} {oc5 kV5 dc5 pm5 cd5 ct5 : Value} {od5 an5 : Option Addr} {sl5 : Array (Option Value)}
    {f6 : Addr} {oc6 kV6 dc6 pm6 cd6 ct6 : Value} {od6 an6 : Option Addr} {sl6 : Array (Option Value)}
    {f7 : Addr} {oc7 kV7 dc7 pm7 cd7 ct7 : Value} {od7 an7 : Option Addr} {sl7 : Array (Option Value)}
    {f8 : Addr} {oc8 kV8 dc8 pm8 cd8 ct8 : Value} {od8 an8 : Option Addr} {sl8 : Array (Option Value)}
    {f9 : Addr} {oc9 kV9 dc9 pm9 cd9 ct9 : Value} {od9 an9 : Option Addr} {sl9 : Array (Option Value)}
    {f10 : Addr} {oc10 kV10 dc10 pm10 cd10 ct10 : Value} {od10 an10 : Option Addr} {sl10 : Array (Option Value)}
    {f11 : Addr} {oc11 kV11 dc11 pm11 cd11 ct11 : Value} {od11 an11 : Option Addr} {sl11 : Array (Option Value)}
    {f12 : Addr} {oc12 kV12 dc12 pm12 cd12 ct12 : Value} {od12 an12 : Option Addr} {sl12 : Array (Option Value)}
    {f13 : Addr} {oc13 kV13 dc13 pm13 cd13 ct13 : Value} {od13 an13 : Option Addr} {sl13 : Array (Option Value)}
    {f14 : Addr} {oc14 kV14 dc14 pm14 cd14 ct14 : Value} {od14 an14 : Option Addr} {sl14 : Array (Option Value)}
    {f15 : Addr} {oc15 kV15 dc15 pm15 cd15 ct15 : Value} {od15 an15 : Option Addr} {sl15 : Array (Option Value)}
    {f16 : Addr} {oc16 kV16 dc16 pm16 cd16 ct16 : Value} {od16 an16 : Option Addr} {sl16 : Array (Option Value)}
    {f17 : Addr} {oc17 kV17 dc17 pm17 cd17 ct17 : Value} {od17 an17 : Option Addr} {sl17 : Array (Option Value)}
    {f18 : Addr} {oc18 kV18 dc18 pm18 cd18 ct18 : Value} {od18 an18 : Option Addr} {sl18 : Array (Option Value)}
    {f19 : Addr} {oc19 kV19 dc19 pm19 cd19 ct19 : Value} {od19 an19 : Option Addr} {sl19 : Array (Option Value)}
    {f20 : Addr} {oc20 kV20 dc20 pm20 cd20 ct20 : Value} {od20 an20 : Option Addr} {sl20 : Array (Option Value)}
    {f21 : Addr} {oc21 kV21 dc21 pm21 cd21 ct21 : Value} {od21 an21 : Option Addr} {sl21 : Array (Option Value)}
    {f22 : Addr} {oc22 kV22 dc22 pm22 cd22 ct22 : Value} {od22 an22 : Option Addr} {sl22 : Array (Option Value)}
    {f23 : Addr} {oc23 kV23 dc23 pm23 cd23 ct23 : Value} {od23 an23 : Option Addr} {sl23 : Array (Option Value)}
    {f24 : Addr} {oc24 kV24 dc24 pm24 cd24 ct24 : Value} {od24 an24 : Option Addr} {sl24 : Array (Option Value)}
    {f25 : Addr} {oc25 kV25 dc25 pm25 cd25 ct25 : Value} {od25 an25 : Option Addr} {sl25 : Array (Option Value)}
    {f26 : Addr} {oc26 kV26 dc26 pm26 cd26 ct26 : Value} {od26 an26 : Option Addr} {sl26 : Array (Option Value)}
    {f27 : Addr} {oc27 kV27 dc27 pm27 cd27 ct27 : Value} {od27 an27 : Option Addr} {sl27 : Array (Option Value)}
    {f100 : Addr} {oc100 kV100 dc100 pm100 cd100 ct100 : Value} {od100 an100 : Option Addr} {sl100 : Array (Option Value)}
    {f101 : Addr} {oc101 kV101 dc101 pm101 cd101 ct101 : Value} {od101 an101 : Option Addr} {sl101 : Array (Option Value)}
    {f102 : Addr} {oc102 kV102 dc102 pm102 cd102 ct102 : Value} {od102 an102 : Option Addr} {sl102 : Array (Option Value)}
    {f103 : Addr} {oc103 kV103 dc103 pm103 cd103 ct103 : Value} {od103 an103 : Option Addr} {sl103 : Array (Option Value)}
    {f104 : Addr} {oc104 kV104 dc104 pm104 cd104 ct104 : Value} {od104 an104 : Option Addr} {sl104 : Array (Option Value)}
    {f105 : Addr} {oc105 kV105 dc105 pm105 cd105 ct105 : Value} {od105 an105 : Option Addr} {sl105 : Array (Option Value)}
    {f106 : Addr} {oc106 kV106 dc106 pm106 cd106 ct106 : Value} {od106 an106 : Option Addr} {sl106 : Array (Option Value)}
    {f107 : Addr} {oc107 kV107 dc107 pm107 cd107 ct107 : Value} {od107 an107 : Option Addr} {sl107 : Array (Option Value)}
    {t_MAX_TEXT : PySem.Tok}
    {t_MAX_NAME : PySem.Tok}
    {t_MAX_NESTING : PySem.Tok}
    {t_MAX_DEPTH : PySem.Tok}
    {q_RESERVED : Addr} {i_RESERVED : Array Value} {j_RESERVED : Nat} {o_RESERVED : Option Addr} {s_RESERVED : Array (Option Value)}
    {q_SIGNS : Addr} {i_SIGNS : Array Value} {j_SIGNS : Nat} {o_SIGNS : Option Addr} {s_SIGNS : Array (Option Value)}
    {q_SUMS : Addr} {e_SUMS : Array DictEntry} {j_SUMS : Nat} {x_SUMS y_SUMS : PySem.Tok}
    {q_COMPARISONS : Addr} {e_COMPARISONS : Array DictEntry} {j_COMPARISONS : Nat} {x_COMPARISONS y_COMPARISONS : PySem.Tok}
    (a0 : PySem.W.nsIn K mainGlobals "is_letter" = some (some (.ref f0)))
    (l0 : K.lookup f0 = some ⟨oc0, od0, .func (fnAt "is_letter" "is_letter" sLetter kV0 dc0 pm0 an0 cd0 ct0), sl0⟩)
    (c0 : PySem.W.codeIn K cd0 "is_letter" = true)
    (k0 : PySem.W.keepIn K (.ref f0) = true)
    (a1 : PySem.W.nsIn K mainGlobals "is_digit" = some (some (.ref f1)))
    (l1 : K.lookup f1 = some ⟨oc1, od1, .func (fnAt "is_digit" "is_digit" sDigit kV1 dc1 pm1 an1 cd1 ct1), sl1⟩)
    (c1 : PySem.W.codeIn K cd1 "is_digit" = true)
    (k1 : PySem.W.keepIn K (.ref f1) = true)
    (a2 : PySem.W.nsIn K mainGlobals "in_name" = some (some (.ref f2)))
    (l2 : K.lookup f2 = some ⟨oc2, od2, .func (fnAt "in_name" "in_name" sInName kV2 dc2 pm2 an2 cd2 ct2), sl2⟩)
    (c2 : PySem.W.codeIn K cd2 "in_name" = true)
    (k2 : PySem.W.keepIn K (.ref f2) = true)
    (a3 : PySem.W.nsIn K mainGlobals "run_end" = some (some (.ref f3)))
    (l3 : K.lookup f3 = some ⟨oc3, od3, .func (fnAt "run_end" "run_end" sRunEnd kV3 dc3 pm3 an3 cd3 ct3), sl3⟩)
    (c3 : PySem.W.codeIn K cd3 "run_end" = true)
    (k3 : PySem.W.keepIn K (.ref f3) = true)
    (a4 : PySem.W.nsIn K mainGlobals "read_word" = some (some (.ref f4)))
    (l4 : K.lookup f4 = some ⟨oc4, od4, .func (fnAt "read_word" "read_word" sWord kV4 dc4 pm4 an4 cd4 ct4), sl4⟩)
    (c4 : PySem.W.codeIn K cd4 "read_word" = true)
    (k4 : PySem.W.keepIn K (.ref f4) = true)
    (a5 : PySem.W.nsIn K mainGlobals "read_number" = some (some (.ref f5)))
    (l5 : K.lookup f5 = some ⟨oc5, od5, .func (fnAt "read_number" "read_number" sNumber kV5 dc5 pm5 an5 cd5 ct5), sl5⟩)
    (c5 : PySem.W.codeIn K cd5 "read_number" = true)
    (k5 : PySem.W.keepIn K (.ref f5) = true)
    (a6 : PySem.W.nsIn K mainGlobals "read_sign" = some (some (.ref f6)))
    (l6 : K.lookup f6 = some ⟨oc6, od6, .func (fnAt "read_sign" "read_sign" sSign kV6 dc6 pm6 an6 cd6 ct6), sl6⟩)
    (c6 : PySem.W.codeIn K cd6 "read_sign" = true)
    (k6 : PySem.W.keepIn K (.ref f6) = true)
    (a7 : PySem.W.nsIn K mainGlobals "read_token" = some (some (.ref f7)))
    (l7 : K.lookup f7 = some ⟨oc7, od7, .func (fnAt "read_token" "read_token" sToken kV7 dc7 pm7 an7 cd7 ct7), sl7⟩)
    (c7 : PySem.W.codeIn K cd7 "read_token" = true)
    (k7 : PySem.W.keepIn K (.ref f7) = true)
    (a8 : PySem.W.nsIn K mainGlobals "tokens" = some (some (.ref f8)))
    (l8 : K.lookup f8 = some ⟨oc8, od8, .func (fnAt "tokens" "tokens" sTokens kV8 dc8 pm8 an8 cd8 ct8), sl8⟩)
    (c8 : PySem.W.codeIn K cd8 "tokens" = true)
    (k8 : PySem.W.keepIn K (.ref f8) = true)
    (a9 : PySem.W.nsIn K mainGlobals "read_arguments" = some (some (.ref f9)))
    (l9 : K.lookup f9 = some ⟨oc9, od9, .func (fnAt "read_arguments" "read_arguments" sArgs kV9 dc9 pm9 an9 cd9 ct9), sl9⟩)
    (c9 : PySem.W.codeIn K cd9 "read_arguments" = true)
    (k9 : PySem.W.keepIn K (.ref f9) = true)
    (a10 : PySem.W.nsIn K mainGlobals "read_primary" = some (some (.ref f10)))
    (l10 : K.lookup f10 = some ⟨oc10, od10, .func (fnAt "read_primary" "read_primary" sPrim kV10 dc10 pm10 an10 cd10 ct10), sl10⟩)
    (c10 : PySem.W.codeIn K cd10 "read_primary" = true)
    (k10 : PySem.W.keepIn K (.ref f10) = true)
    (a11 : PySem.W.nsIn K mainGlobals "read_call" = some (some (.ref f11)))
    (l11 : K.lookup f11 = some ⟨oc11, od11, .func (fnAt "read_call" "read_call" sCall kV11 dc11 pm11 an11 cd11 ct11), sl11⟩)
    (c11 : PySem.W.codeIn K cd11 "read_call" = true)
    (k11 : PySem.W.keepIn K (.ref f11) = true)
    (a12 : PySem.W.nsIn K mainGlobals "read_product" = some (some (.ref f12)))
    (l12 : K.lookup f12 = some ⟨oc12, od12, .func (fnAt "read_product" "read_product" sProd kV12 dc12 pm12 an12 cd12 ct12), sl12⟩)
    (c12 : PySem.W.codeIn K cd12 "read_product" = true)
    (k12 : PySem.W.keepIn K (.ref f12) = true)
    (a13 : PySem.W.nsIn K mainGlobals "read_sum" = some (some (.ref f13)))
    (l13 : K.lookup f13 = some ⟨oc13, od13, .func (fnAt "read_sum" "read_sum" sSum kV13 dc13 pm13 an13 cd13 ct13), sl13⟩)
    (c13 : PySem.W.codeIn K cd13 "read_sum" = true)
    (k13 : PySem.W.keepIn K (.ref f13) = true)
    (a14 : PySem.W.nsIn K mainGlobals "read_plain" = some (some (.ref f14)))
    (l14 : K.lookup f14 = some ⟨oc14, od14, .func (fnAt "read_plain" "read_plain" sPlain kV14 dc14 pm14 an14 cd14 ct14), sl14⟩)
    (c14 : PySem.W.codeIn K cd14 "read_plain" = true)
    (k14 : PySem.W.keepIn K (.ref f14) = true)
    (a15 : PySem.W.nsIn K mainGlobals "read_both" = some (some (.ref f15)))
    (l15 : K.lookup f15 = some ⟨oc15, od15, .func (fnAt "read_both" "read_both" sBoth kV15 dc15 pm15 an15 cd15 ct15), sl15⟩)
    (c15 : PySem.W.codeIn K cd15 "read_both" = true)
    (k15 : PySem.W.keepIn K (.ref f15) = true)
    (a16 : PySem.W.nsIn K mainGlobals "read_expression" = some (some (.ref f16)))
    (l16 : K.lookup f16 = some ⟨oc16, od16, .func (fnAt "read_expression" "read_expression" sExpr kV16 dc16 pm16 an16 cd16 ct16), sl16⟩)
    (c16 : PySem.W.codeIn K cd16 "read_expression" = true)
    (k16 : PySem.W.keepIn K (.ref f16) = true)
    (a17 : PySem.W.nsIn K mainGlobals "read_let" = some (some (.ref f17)))
    (l17 : K.lookup f17 = some ⟨oc17, od17, .func (fnAt "read_let" "read_let" sLet kV17 dc17 pm17 an17 cd17 ct17), sl17⟩)
    (c17 : PySem.W.codeIn K cd17 "read_let" = true)
    (k17 : PySem.W.keepIn K (.ref f17) = true)
    (a18 : PySem.W.nsIn K mainGlobals "read_statement" = some (some (.ref f18)))
    (l18 : K.lookup f18 = some ⟨oc18, od18, .func (fnAt "read_statement" "read_statement" sStmt kV18 dc18 pm18 an18 cd18 ct18), sl18⟩)
    (c18 : PySem.W.codeIn K cd18 "read_statement" = true)
    (k18 : PySem.W.keepIn K (.ref f18) = true)
    (a19 : PySem.W.nsIn K mainGlobals "expression_depth" = some (some (.ref f19)))
    (l19 : K.lookup f19 = some ⟨oc19, od19, .func (fnAt "expression_depth" "expression_depth" sEDepth kV19 dc19 pm19 an19 cd19 ct19), sl19⟩)
    (c19 : PySem.W.codeIn K cd19 "expression_depth" = true)
    (k19 : PySem.W.keepIn K (.ref f19) = true)
    (a20 : PySem.W.nsIn K mainGlobals "depth" = some (some (.ref f20)))
    (l20 : K.lookup f20 = some ⟨oc20, od20, .func (fnAt "depth" "depth" sDepth kV20 dc20 pm20 an20 cd20 ct20), sl20⟩)
    (c20 : PySem.W.codeIn K cd20 "depth" = true)
    (k20 : PySem.W.keepIn K (.ref f20) = true)
    (a21 : PySem.W.nsIn K mainGlobals "parse" = some (some (.ref f21)))
    (l21 : K.lookup f21 = some ⟨oc21, od21, .func (fnAt "parse" "parse" sParse kV21 dc21 pm21 an21 cd21 ct21), sl21⟩)
    (c21 : PySem.W.codeIn K cd21 "parse" = true)
    (k21 : PySem.W.keepIn K (.ref f21) = true)
    (a22 : PySem.W.nsIn K mainGlobals "_law_cell" = some (some (.ref f22)))
    (l22 : K.lookup f22 = some ⟨oc22, od22, .func (fnAt "_law_cell" "_law_cell" sCell kV22 dc22 pm22 an22 cd22 ct22), sl22⟩)
    (c22 : PySem.W.codeIn K cd22 "_law_cell" = true)
    (k22 : PySem.W.keepIn K (.ref f22) = true)
    (a23 : PySem.W.nsIn K mainGlobals "_law_operand" = some (some (.ref f23)))
    (l23 : K.lookup f23 = some ⟨oc23, od23, .func (fnAt "_law_operand" "_law_operand" sOpd kV23 dc23 pm23 an23 cd23 ct23), sl23⟩)
    (c23 : PySem.W.codeIn K cd23 "_law_operand" = true)
    (k23 : PySem.W.keepIn K (.ref f23) = true)
    (a24 : PySem.W.nsIn K mainGlobals "_law_chain" = some (some (.ref f24)))
    (l24 : K.lookup f24 = some ⟨oc24, od24, .func (fnAt "_law_chain" "_law_chain" sChain kV24 dc24 pm24 an24 cd24 ct24), sl24⟩)
    (c24 : PySem.W.codeIn K cd24 "_law_chain" = true)
    (k24 : PySem.W.keepIn K (.ref f24) = true)
    (a25 : PySem.W.nsIn K mainGlobals "_law_split" = some (some (.ref f25)))
    (l25 : K.lookup f25 = some ⟨oc25, od25, .func (fnAt "_law_split" "_law_split" sSplit kV25 dc25 pm25 an25 cd25 ct25), sl25⟩)
    (c25 : PySem.W.codeIn K cd25 "_law_split" = true)
    (k25 : PySem.W.keepIn K (.ref f25) = true)
    (a26 : PySem.W.nsIn K mainGlobals "_law_tree" = some (some (.ref f26)))
    (l26 : K.lookup f26 = some ⟨oc26, od26, .func (fnAt "_law_tree" "_law_tree" sTree kV26 dc26 pm26 an26 cd26 ct26), sl26⟩)
    (c26 : PySem.W.codeIn K cd26 "_law_tree" = true)
    (k26 : PySem.W.keepIn K (.ref f26) = true)
    (a27 : PySem.W.nsIn K mainGlobals "law" = some (some (.ref f27)))
    (l27 : K.lookup f27 = some ⟨oc27, od27, .func (fnAt "law" "law" sLaw kV27 dc27 pm27 an27 cd27 ct27), sl27⟩)
    (c27 : PySem.W.codeIn K cd27 "law" = true)
    (k27 : PySem.W.keepIn K (.ref f27) = true)
    (aC : PySem.W.nsIn K mainGlobals "Reader" = some (some (.ref C)))
    (a100 : PySem.W.findIn K (.ref C) "__init__" = some (some (.ref f100)))
    (i100 : PySem.W.isFn K (.ref f100) = true)
    (l100 : K.lookup f100 = some ⟨oc100, od100, .func (fnAt "__init__" "Reader.__init__" (sReader 0) kV100 dc100 pm100 an100 cd100 ct100), sl100⟩)
    (c100 : PySem.W.codeIn K cd100 "Reader.__init__" = true)
    (k100 : PySem.W.keepIn K (.ref f100) = true)
    (a101 : PySem.W.findIn K (.ref C) "at" = some (some (.ref f101)))
    (i101 : PySem.W.isFn K (.ref f101) = true)
    (l101 : K.lookup f101 = some ⟨oc101, od101, .func (fnAt "at" "Reader.at" (sReader 1) kV101 dc101 pm101 an101 cd101 ct101), sl101⟩)
    (c101 : PySem.W.codeIn K cd101 "Reader.at" = true)
    (k101 : PySem.W.keepIn K (.ref f101) = true)
    (a102 : PySem.W.findIn K (.ref C) "sees" = some (some (.ref f102)))
    (i102 : PySem.W.isFn K (.ref f102) = true)
    (l102 : K.lookup f102 = some ⟨oc102, od102, .func (fnAt "sees" "Reader.sees" (sReader 2) kV102 dc102 pm102 an102 cd102 ct102), sl102⟩)
    (c102 : PySem.W.codeIn K cd102 "Reader.sees" = true)
    (k102 : PySem.W.keepIn K (.ref f102) = true)
    (a103 : PySem.W.findIn K (.ref C) "sees_kind" = some (some (.ref f103)))
    (i103 : PySem.W.isFn K (.ref f103) = true)
    (l103 : K.lookup f103 = some ⟨oc103, od103, .func (fnAt "sees_kind" "Reader.sees_kind" (sReader 3) kV103 dc103 pm103 an103 cd103 ct103), sl103⟩)
    (c103 : PySem.W.codeIn K cd103 "Reader.sees_kind" = true)
    (k103 : PySem.W.keepIn K (.ref f103) = true)
    (a104 : PySem.W.findIn K (.ref C) "accept" = some (some (.ref f104)))
    (i104 : PySem.W.isFn K (.ref f104) = true)
    (l104 : K.lookup f104 = some ⟨oc104, od104, .func (fnAt "accept" "Reader.accept" (sReader 5) kV104 dc104 pm104 an104 cd104 ct104), sl104⟩)
    (c104 : PySem.W.codeIn K cd104 "Reader.accept" = true)
    (k104 : PySem.W.keepIn K (.ref f104) = true)
    (a105 : PySem.W.findIn K (.ref C) "expect" = some (some (.ref f105)))
    (i105 : PySem.W.isFn K (.ref f105) = true)
    (l105 : K.lookup f105 = some ⟨oc105, od105, .func (fnAt "expect" "Reader.expect" (sReader 6) kV105 dc105 pm105 an105 cd105 ct105), sl105⟩)
    (c105 : PySem.W.codeIn K cd105 "Reader.expect" = true)
    (k105 : PySem.W.keepIn K (.ref f105) = true)
    (a106 : PySem.W.findIn K (.ref C) "read" = some (some (.ref f106)))
    (i106 : PySem.W.isFn K (.ref f106) = true)
    (l106 : K.lookup f106 = some ⟨oc106, od106, .func (fnAt "read" "Reader.read" (sReader 7) kV106 dc106 pm106 an106 cd106 ct106), sl106⟩)
    (c106 : PySem.W.codeIn K cd106 "Reader.read" = true)
    (k106 : PySem.W.keepIn K (.ref f106) = true)
    (a107 : PySem.W.findIn K (.ref C) "deeper" = some (some (.ref f107)))
    (i107 : PySem.W.isFn K (.ref f107) = true)
    (l107 : K.lookup f107 = some ⟨oc107, od107, .func (fnAt "deeper" "Reader.deeper" (sReader 8) kV107 dc107 pm107 an107 cd107 ct107), sl107⟩)
    (c107 : PySem.W.codeIn K cd107 "Reader.deeper" = true)
    (k107 : PySem.W.keepIn K (.ref f107) = true)
    (pg : PySem.W.plainGet K C Str.empty = true)
    (hd : PySem.W.hasDictIn K C = true)
    (po : PySem.W.plainOver K C = true)
    (sa : PySem.W.findIn K (.ref C) "__setattr__" = some (some (.builtin "object.__setattr__")))
    (mk : PySem.W.makesIn K C = true)
    (kc : PySem.W.keepIn K (.ref C) = true)
    (n_rest : PySem.W.findIn K (.ref C) "rest" = some none)
    (n_module : PySem.W.findIn K (.ref C) "module" = some none)
    (n_place : PySem.W.findIn K (.ref C) "place" = some none)
    (n_limit : PySem.W.findIn K (.ref C) "limit" = some none)
    (n_inside : PySem.W.findIn K (.ref C) "inside" = some none)
    (z_len : PySem.W.nsIn K mainGlobals "len" = some none)
    (z_all : PySem.W.nsIn K mainGlobals "all" = some none)
    (z_int : PySem.W.nsIn K mainGlobals "int" = some none)
    (z_tuple : PySem.W.nsIn K mainGlobals "tuple" = some none)
    (z_max : PySem.W.nsIn K mainGlobals "max" = some none)
    (z_min : PySem.W.nsIn K mainGlobals "min" = some none)
    (z_abs : PySem.W.nsIn K mainGlobals "abs" = some none)
    (z_str : PySem.W.nsIn K mainGlobals "str" = some none)
    (z_range : PySem.W.nsIn K mainGlobals "range" = some none)
    (z_isinstance : PySem.W.nsIn K mainGlobals "isinstance" = some none)
    (z_list : PySem.W.nsIn K mainGlobals "list" = some none)
    (z_repr : PySem.W.nsIn K mainGlobals "repr" = some none)
    (m_MAX_TEXT : PySem.W.nsIn K mainGlobals "MAX_TEXT" = some (some (.int 20000 t_MAX_TEXT)))
    (m_MAX_NAME : PySem.W.nsIn K mainGlobals "MAX_NAME" = some (some (.int 20 t_MAX_NAME)))
    (m_MAX_NESTING : PySem.W.nsIn K mainGlobals "MAX_NESTING" = some (some (.int 40 t_MAX_NESTING)))
    (m_MAX_DEPTH : PySem.W.nsIn K mainGlobals "MAX_DEPTH" = some (some (.int 12 t_MAX_DEPTH)))
    (m_RESERVED : PySem.W.nsIn K mainGlobals "RESERVED" = some (some (.ref q_RESERVED)))
    (l_RESERVED : K.lookup q_RESERVED = some ⟨.type "tuple", o_RESERVED, .seq i_RESERVED j_RESERVED, s_RESERVED⟩)
    (g_RESERVED : i_RESERVED.size ≤ 20000)
    (v_RESERVED : Vals (reserved.map V.str) i_RESERVED.toList)
    (m_SIGNS : PySem.W.nsIn K mainGlobals "SIGNS" = some (some (.ref q_SIGNS)))
    (l_SIGNS : K.lookup q_SIGNS = some ⟨.type "tuple", o_SIGNS, .seq i_SIGNS j_SIGNS, s_SIGNS⟩)
    (g_SIGNS : i_SIGNS.size ≤ 20000)
    (v_SIGNS : Vals (signs.map V.str) i_SIGNS.toList)
    (m_SUMS : PySem.W.nsIn K mainGlobals "SUMS" = some (some (.ref q_SUMS)))
    (l_SUMS : K.lookup q_SUMS = some ⟨.type "dict", none, .dict e_SUMS j_SUMS, #[]⟩)
    (g_SUMS : PySem.W.KeysLit w.params e_SUMS.toList)
    (u_SUMS : PySem.W.nsIn K q_SUMS "+" = some (some (.str "add" x_SUMS)))
    (w_SUMS : PySem.W.nsIn K q_SUMS "-" = some (some (.str "sub" y_SUMS)))
    (m_COMPARISONS : PySem.W.nsIn K mainGlobals "COMPARISONS" = some (some (.ref q_COMPARISONS)))
    (l_COMPARISONS : K.lookup q_COMPARISONS = some ⟨.type "dict", none, .dict e_COMPARISONS j_COMPARISONS, #[]⟩)
    (g_COMPARISONS : PySem.W.KeysLit w.params e_COMPARISONS.toList)
    (u_COMPARISONS : PySem.W.nsIn K q_COMPARISONS "<" = some (some (.str "lt" x_COMPARISONS)))
    (w_COMPARISONS : PySem.W.nsIn K q_COMPARISONS "==" = some (some (.str "eq" y_COMPARISONS)))
    (p_COMPARISONS : Paired (fun (k : Str) (e : DictEntry) => ∃ t, e.key = .str k t) ["<", "=="] e_COMPARISONS.toList)
    (r_COMPARISONS : (q_COMPARISONS == sysModules) = false)
    : AtCaller P w K mg fa := by
  have d0 : Df K mg "is_letter" sLetter ["char"] := df_of inK G a0 l0 c0 k0 (fun _ _ _ _ _ _ us hl => match us, hl with | [_], _ => rfl)
  have d1 : Df K mg "is_digit" sDigit ["char"] := df_of inK G a1 l1 c1 k1 (fun _ _ _ _ _ _ us hl => match us, hl with | [_], _ => rfl)
  have d2 : Df K mg "in_name" sInName ["char"] := df_of inK G a2 l2 c2 k2 (fun _ _ _ _ _ _ us hl => match us, hl with | [_], _ => rfl)
  have d3 : Df K mg "run_end" sRunEnd ["text", "at"] := df_of inK G a3 l3 c3 k3 (fun _ _ _ _ _ _ us hl => match us, hl with | [_, _], _ => rfl)
  have d4 : Df K mg "read_word" sWord ["text", "at", "module"] := df_of inK G a4 l4 c4 k4 (fun _ _ _ _ _ _ us hl => match us, hl with | [_, _, _], _ => rfl)
  have d5 : Df K mg "read_number" sNumber ["text", "at", "module"] := df_of inK G a5 l5 c5 k5 (fun _ _ _ _ _ _ us hl => match us, hl with | [_, _, _], _ => rfl)
  have d6 : Df K mg "read_sign" sSign ["text", "at", "module"] := df_of inK G a6 l6 c6 k6 (fun _ _ _ _ _ _ us hl => match us, hl with | [_, _, _], _ => rfl)
  have d7 : Df K mg "read_token" sToken ["text", "at", "module"] := df_of inK G a7 l7 c7 k7 (fun _ _ _ _ _ _ us hl => match us, hl with | [_, _, _], _ => rfl)
  have d8 : Df K mg "tokens" sTokens ["text", "module"] := df_of inK G a8 l8 c8 k8 (fun _ _ _ _ _ _ us hl => match us, hl with | [_, _], _ => rfl)
  have d9 : Df K mg "read_arguments" sArgs ["reader", "level"] := df_of inK G a9 l9 c9 k9 (fun _ _ _ _ _ _ us hl => match us, hl with | [_, _], _ => rfl)
  have d10 : Df K mg "read_primary" sPrim ["reader", "level"] := df_of inK G a10 l10 c10 k10 (fun _ _ _ _ _ _ us hl => match us, hl with | [_, _], _ => rfl)
  have d11 : Df K mg "read_call" sCall ["reader", "level"] := df_of inK G a11 l11 c11 k11 (fun _ _ _ _ _ _ us hl => match us, hl with | [_, _], _ => rfl)
  have d12 : Df K mg "read_product" sProd ["reader", "level"] := df_of inK G a12 l12 c12 k12 (fun _ _ _ _ _ _ us hl => match us, hl with | [_, _], _ => rfl)
  have d13 : Df K mg "read_sum" sSum ["reader", "level"] := df_of inK G a13 l13 c13 k13 (fun _ _ _ _ _ _ us hl => match us, hl with | [_, _], _ => rfl)
  have d14 : Df K mg "read_plain" sPlain ["reader", "level"] := df_of inK G a14 l14 c14 k14 (fun _ _ _ _ _ _ us hl => match us, hl with | [_, _], _ => rfl)
  have d15 : Df K mg "read_both" sBoth ["reader", "level"] := df_of inK G a15 l15 c15 k15 (fun _ _ _ _ _ _ us hl => match us, hl with | [_, _], _ => rfl)
  have d16 : Df K mg "read_expression" sExpr ["reader", "level"] := df_of inK G a16 l16 c16 k16 (fun _ _ _ _ _ _ us hl => match us, hl with | [_, _], _ => rfl)
  have d17 : Df K mg "read_let" sLet ["reader", "at", "level"] := df_of inK G a17 l17 c17 k17 (fun _ _ _ _ _ _ us hl => match us, hl with | [_, _, _], _ => rfl)
  have d18 : Df K mg "read_statement" sStmt ["reader", "level"] := df_of inK G a18 l18 c18 k18 (fun _ _ _ _ _ _ us hl => match us, hl with | [_, _], _ => rfl)
  have d19 : Df K mg "expression_depth" sEDepth ["e"] := df_of inK G a19 l19 c19 k19 (fun _ _ _ _ _ _ us hl => match us, hl with | [_], _ => rfl)
  have d20 : Df K mg "depth" sDepth ["item"] := df_of inK G a20 l20 c20 k20 (fun _ _ _ _ _ _ us hl => match us, hl with | [_], _ => rfl)
  have d21 : Df K mg "parse" sParse ["text", "module"] := df_of inK G a21 l21 c21 k21 (fun _ _ _ _ _ _ us hl => match us, hl with | [_, _], _ => rfl)
  have d22 : Df K mg "_law_cell" sCell ["_law_script", "_law_k"] := df_of inK G a22 l22 c22 k22 (fun _ _ _ _ _ _ us hl => match us, hl with | [_, _], _ => rfl)
  have d23 : Df K mg "_law_operand" sOpd ["_law_cell_here"] := df_of inK G a23 l23 c23 k23 (fun _ _ _ _ _ _ us hl => match us, hl with | [_], _ => rfl)
  have d24 : Df K mg "_law_chain" sChain ["_law_parts", "_law_signs", "_law_heads"] := df_of inK G a24 l24 c24 k24 (fun _ _ _ _ _ _ us hl => match us, hl with | [_, _, _], _ => rfl)
  have d25 : Df K mg "_law_split" sSplit ["_law_parts", "_law_signs", "_law_wanted"] := df_of inK G a25 l25 c25 k25 (fun _ _ _ _ _ _ us hl => match us, hl with | [_, _, _], _ => rfl)
  have d26 : Df K mg "_law_tree" sTree ["_law_parts", "_law_signs", "_law_level"] := df_of inK G a26 l26 c26 k26 (fun _ _ _ _ _ _ us hl => match us, hl with | [_, _, _], _ => rfl)
  have d101 : Dm K C "at" "Reader.at" (sReader 1) ["self"] := dm_of a101 i101 l101 c101 k101 (fun _ _ _ _ _ _ us hl => match us, hl with | [_], _ => rfl)
  have d102 : Dm K C "sees" "Reader.sees" (sReader 2) ["self", "kind", "value"] := dm_of a102 i102 l102 c102 k102 (fun _ _ _ _ _ _ us hl => match us, hl with | [_, _, _], _ => rfl)
  have d103 : Dm K C "sees_kind" "Reader.sees_kind" (sReader 3) ["self", "kind"] := dm_of a103 i103 l103 c103 k103 (fun _ _ _ _ _ _ us hl => match us, hl with | [_, _], _ => rfl)
  have d104 : Dm K C "accept" "Reader.accept" (sReader 5) ["self", "kind", "value"] := dm_of a104 i104 l104 c104 k104 (fun _ _ _ _ _ _ us hl => match us, hl with | [_, _, _], _ => rfl)
  have d105 : Dm K C "expect" "Reader.expect" (sReader 6) ["self", "kind", "value"] := dm_of a105 i105 l105 c105 k105 (fun _ _ _ _ _ _ us hl => match us, hl with | [_, _, _], _ => rfl)
  have d106 : Dm K C "read" "Reader.read" (sReader 7) ["self", "kind"] := dm_of a106 i106 l106 c106 k106 (fun _ _ _ _ _ _ us hl => match us, hl with | [_, _], _ => rfl)
  have d107 : Dm K C "deeper" "Reader.deeper" (sReader 8) ["self", "level"] := dm_of a107 i107 l107 c107 k107 (fun _ _ _ _ _ _ us hl => match us, hl with | [_, _], _ => rfl)
  obtain rfl : fa = f27 := by
    have e := hfa.symm.trans (PySem.W.mg_of inK G a27)
    cases e
    rfl
  have T : LexT K mg := ⟨(PySem.W.mg_none_of inK G z_len), (PySem.W.mg_none_of inK G z_all), (PySem.W.mg_none_of inK G z_int), ⟨_, (PySem.W.mg_of inK G m_MAX_TEXT)⟩, ⟨_, (PySem.W.mg_of inK G m_MAX_NAME)⟩, ⟨_, (PySem.W.mg_of inK G m_RESERVED), tup_of l_RESERVED g_RESERVED v_RESERVED⟩, ⟨_, (PySem.W.mg_of inK G m_SIGNS), tup_of l_SIGNS g_SIGNS v_SIGNS⟩⟩
  have rd : RdT K mg C := ⟨⟨pg, hd, po, sa⟩, n_rest, n_module, n_place, n_limit, n_inside, PySem.W.mg_of inK G aC, (PySem.W.mg_none_of inK G z_len), ⟨_, (PySem.W.mg_of inK G m_MAX_NESTING)⟩⟩
  have O : OpT K w mg := ⟨⟨_, (PySem.W.mg_of inK G m_SUMS), ⟨_, _, _, l_SUMS, g_SUMS, u_SUMS, ⟨_, rfl⟩⟩, ⟨_, _, _, l_SUMS, g_SUMS, w_SUMS, ⟨_, rfl⟩⟩⟩, ⟨_, (PySem.W.mg_of inK G m_COMPARISONS), ⟨_, _, l_COMPARISONS, p_COMPARISONS, r_COMPARISONS⟩, ⟨_, _, _, l_COMPARISONS, g_COMPARISONS, u_COMPARISONS, ⟨_, rfl⟩⟩, ⟨_, _, _, l_COMPARISONS, g_COMPARISONS, w_COMPARISONS, ⟨_, rfl⟩⟩⟩⟩
  have rs : Rds K mg := ⟨(PySem.W.mg_none_of inK G z_tuple), d9, d10, d11, d12, d13, d14, d15, d16⟩
  have LT : LawT mg := ⟨(PySem.W.mg_none_of inK G z_len), (PySem.W.mg_none_of inK G z_int), (PySem.W.mg_none_of inK G z_str), (PySem.W.mg_none_of inK G z_range), (PySem.W.mg_none_of inK G z_min), (PySem.W.mg_none_of inK G z_abs), (PySem.W.mg_none_of inK G z_isinstance), (PySem.W.mg_none_of inK G z_list), (PySem.W.mg_none_of inK G z_repr)⟩
  have F0 := fun_mk (st := sReader 0) l100 c100 k100
  have b0 : Binds K _ ["self", "text", "module"] [] := F0.binds (fun _ _ _ _ _ _ us hl => match us, hl with | [_, _, _], _ => rfl)
  have FL := fun_mk (st := sLaw) l27 c27 k27
  have bL : Binds K _ ["_law_script"] [] := FL.binds (fun _ _ _ _ _ _ us hl => match us, hl with | [_], _ => rfl)
  refine law_runs LT FL bL ⟨rfl, by decide, by decide⟩ (fun base _ _ => ?_) (fun base => ok_cell LT d22) (fun base => ok_opd LT d23) (fun base => trees d26 (ok_split LT d25) (ok_chain LT d24) 6 (Nat.le_refl _))
  have gl := ok_letter (P := P) (w := w) (base := base) d0
  have gd := ok_digit (P := P) (w := w) (base := base) d1
  have gr := ok_runEnd T d3 (ok_inName d2 gl gd)
  have gt := ok_tokens T d8 (ok_token d7 gl gd (ok_word T d4 gr) (ok_number T d5 gr gd) (ok_sign T d6))
  have gs := ok_sees (P := P) (w := w) (base := base) rd d102
  have gk := ok_seesKind (P := P) (w := w) (base := base) rd d103
  have ga := ok_accept rd d104 gs
  have M : Ms P w K mg base C 3 := ⟨rd, (ok_at rd d101).up (by decide), gs.up (by decide), gk.up (by decide), ga.up (by decide), ok_expect rd d105 ga, (ok_read rd d106 gk).up (by decide), (ok_deeper rd d107).up (by decide)⟩
  have ge := (readers M O rs 3).1
  have gst := ok_stmt (M.up (k := 28) (by decide)) d18 (ok_let (M.up (k := 27) (by decide)) d17 ge)
  exact ok_parse (M.up (by decide)) ⟨_, (PySem.W.mg_of inK G m_MAX_DEPTH)⟩ ⟨mk, a100, i100, kc⟩ (ok_init rd F0 gt) b0 d21 gst (ok_depth d20 (depths ⟨(PySem.W.mg_none_of inK G z_max)⟩ d19 10))
end K2
open PySem PySem.W PyProof.Rows
set_option maxRecDepth 100000 in
set_option maxHeartbeats 0 in
theorem PySem.Challenge.cw_fascicle_k02_chains_of_operators_holds : PySem.Challenge.rw_fascicle_k02_chains_of_operators.Holds := by
  w_on; o_law; k_head; (case hw => w_witness2)
  k_fill
  refine K2.walk_at (l := PySem.Challenge.rw_fascicle_k02_chains_of_operators) (n := 63) rfl (by decide) rfl (fun w h Y => PySem.W.kIn_of Y) ?F
  case F =>
    intro w mg fa h KX G hmg
    refine' K2.all_mk KX G hmg ?a0 ?l0 ?c0 ?k0 ?a1 ?l1 ?c1 ?k1 ?a2 ?l2 ?c2 ?k2 ?a3 ?l3 ?c3 ?k3 ?a4 ?l4 ?c4 ?k4 ?a5 ?l5 ?c5 ?k5 ?a6 ?l6 ?c6 ?k6 ?a7 ?l7 ?c7 ?k7 ?a8 ?l8 ?c8 ?k8 ?a9 ?l9 ?c9 ?k9 ?a10 ?l10 ?c10 ?k10 ?a11 ?l11 ?c11 ?k11 ?a12 ?l12 ?c12 ?k12 ?a13 ?l13 ?c13 ?k13 ?a14 ?l14 ?c14 ?k14 ?a15 ?l15 ?c15 ?k15 ?a16 ?l16 ?c16 ?k16 ?a17 ?l17 ?c17 ?k17 ?a18 ?l18 ?c18 ?k18 ?a19 ?l19 ?c19 ?k19 ?a20 ?l20 ?c20 ?k20 ?a21 ?l21 ?c21 ?k21 ?a22 ?l22 ?c22 ?k22 ?a23 ?l23 ?c23 ?k23 ?a24 ?l24 ?c24 ?k24 ?a25 ?l25 ?c25 ?k25 ?a26 ?l26 ?c26 ?k26 ?a27 ?l27 ?c27 ?k27 ?aC ?a100 ?i100 ?l100 ?c100 ?k100 ?a101 ?i101 ?l101 ?c101 ?k101 ?a102 ?i102 ?l102 ?c102 ?k102 ?a103 ?i103 ?l103 ?c103 ?k103 ?a104 ?i104 ?l104 ?c104 ?k104 ?a105 ?i105 ?l105 ?c105 ?k105 ?a106 ?i106 ?l106 ?c106 ?k106 ?a107 ?i107 ?l107 ?c107 ?k107 ?pg ?hd ?po ?sa ?mk ?kc ?n_rest ?n_module ?n_place ?n_limit ?n_inside ?z_len ?z_all ?z_int ?z_tuple ?z_max ?z_min ?z_abs ?z_str ?z_range ?z_isinstance ?z_list ?z_repr ?m_MAX_TEXT ?m_MAX_NAME ?m_MAX_NESTING ?m_MAX_DEPTH ?m_RESERVED ?l_RESERVED ?g_RESERVED ?v_RESERVED ?m_SIGNS ?l_SIGNS ?g_SIGNS ?v_SIGNS ?m_SUMS ?l_SUMS ?g_SUMS ?u_SUMS ?w_SUMS ?m_COMPARISONS ?l_COMPARISONS ?g_COMPARISONS ?u_COMPARISONS ?w_COMPARISONS ?p_COMPARISONS ?r_COMPARISONS
    (case a0 => k_is)
    (case l0 => k_is)
    (case c0 => k_is)
    (case k0 => k_is)
    (case a1 => k_is)
    (case l1 => k_is)
    (case c1 => k_is)
    (case k1 => k_is)
    (case a2 => k_is)
    (case l2 => k_is)
    (case c2 => k_is)
    (case k2 => k_is)
    (case a3 => k_is)
    (case l3 => k_is)
    (case c3 => k_is)
    (case k3 => k_is)
    (case a4 => k_is)
    (case l4 => k_is)
    (case c4 => k_is)
    (case k4 => k_is)
    (case a5 => k_is)
    (case l5 => k_is)
    (case c5 => k_is)
    (case k5 => k_is)
    (case a6 => k_is)
    (case l6 => k_is)
    (case c6 => k_is)
    (case k6 => k_is)
    (case a7 => k_is)
    (case l7 => k_is)
    (case c7 => k_is)
    (case k7 => k_is)
    (case a8 => k_is)
    (case l8 => k_is)
    (case c8 => k_is)
    (case k8 => k_is)
    (case a9 => k_is)
    (case l9 => k_is)
    (case c9 => k_is)
    (case k9 => k_is)
    (case a10 => k_is)
    (case l10 => k_is)
    (case c10 => k_is)
    (case k10 => k_is)
    (case a11 => k_is)
    (case l11 => k_is)
    (case c11 => k_is)
    (case k11 => k_is)
    (case a12 => k_is)
    (case l12 => k_is)
    (case c12 => k_is)
    (case k12 => k_is)
    (case a13 => k_is)
    (case l13 => k_is)
    (case c13 => k_is)
    (case k13 => k_is)
    (case a14 => k_is)
    (case l14 => k_is)
    (case c14 => k_is)
    (case k14 => k_is)
    (case a15 => k_is)
    (case l15 => k_is)
    (case c15 => k_is)
    (case k15 => k_is)
    (case a16 => k_is)
    (case l16 => k_is)
    (case c16 => k_is)
    (case k16 => k_is)
    (case a17 => k_is)
    (case l17 => k_is)
    (case c17 => k_is)
    (case k17 => k_is)
    (case a18 => k_is)
    (case l18 => k_is)
    (case c18 => k_is)
    (case k18 => k_is)
    (case a19 => k_is)
    (case l19 => k_is)
    (case c19 => k_is)
    (case k19 => k_is)
    (case a20 => k_is)
    (case l20 => k_is)
    (case c20 => k_is)
    (case k20 => k_is)
    (case a21 => k_is)
    (case l21 => k_is)
    (case c21 => k_is)
    (case k21 => k_is)
    (case a22 => k_is)
    (case l22 => k_is)
    (case c22 => k_is)
    (case k22 => k_is)
    (case a23 => k_is)
    (case l23 => k_is)
    (case c23 => k_is)
    (case k23 => k_is)
    (case a24 => k_is)
    (case l24 => k_is)
    (case c24 => k_is)
    (case k24 => k_is)
    (case a25 => k_is)
    (case l25 => k_is)
    (case c25 => k_is)
    (case k25 => k_is)
    (case a26 => k_is)
    (case l26 => k_is)
    (case c26 => k_is)
    (case k26 => k_is)
    (case a27 => k_is)
    (case l27 => k_is)
    (case c27 => k_is)
    (case k27 => k_is)
    (case aC => k_is)
    (case a100 => k_is)
    (case i100 => k_is)
    (case l100 => k_is)
    (case c100 => k_is)
    (case k100 => k_is)
    (case a101 => k_is)
    (case i101 => k_is)
    (case l101 => k_is)
    (case c101 => k_is)
    (case k101 => k_is)
    (case a102 => k_is)
    (case i102 => k_is)
    (case l102 => k_is)
    (case c102 => k_is)
    (case k102 => k_is)
    (case a103 => k_is)
    (case i103 => k_is)
    (case l103 => k_is)
    (case c103 => k_is)
    (case k103 => k_is)
    (case a104 => k_is)
    (case i104 => k_is)
    (case l104 => k_is)
    (case c104 => k_is)
    (case k104 => k_is)
    (case a105 => k_is)
    (case i105 => k_is)
    (case l105 => k_is)
    (case c105 => k_is)
    (case k105 => k_is)
    (case a106 => k_is)
    (case i106 => k_is)
    (case l106 => k_is)
    (case c106 => k_is)
    (case k106 => k_is)
    (case a107 => k_is)
    (case i107 => k_is)
    (case l107 => k_is)
    (case c107 => k_is)
    (case k107 => k_is)
    (case pg => k_is)
    (case hd => k_is)
    (case po => k_is)
    (case sa => k_is)
    (case mk => k_is)
    (case kc => k_is)
    (case n_rest => k_is)
    (case n_module => k_is)
    (case n_place => k_is)
    (case n_limit => k_is)
    (case n_inside => k_is)
    (case z_len => k_is)
    (case z_all => k_is)
    (case z_int => k_is)
    (case z_tuple => k_is)
    (case z_max => k_is)
    (case z_min => k_is)
    (case z_abs => k_is)
    (case z_str => k_is)
    (case z_range => k_is)
    (case z_isinstance => k_is)
    (case z_list => k_is)
    (case z_repr => k_is)
    (case m_MAX_TEXT => k_is)
    (case m_MAX_NAME => k_is)
    (case m_MAX_NESTING => k_is)
    (case m_MAX_DEPTH => k_is)
    (case m_RESERVED => k_is)
    (case l_RESERVED => k_is)
    (case g_RESERVED => decide)
    (case v_RESERVED => exact .cons ⟨_, rfl⟩ (.cons ⟨_, rfl⟩ (.cons ⟨_, rfl⟩ (.cons ⟨_, rfl⟩ (.cons ⟨_, rfl⟩ (.cons ⟨_, rfl⟩ (.cons ⟨_, rfl⟩ (.cons ⟨_, rfl⟩ (.cons ⟨_, rfl⟩ (.cons ⟨_, rfl⟩ (.cons ⟨_, rfl⟩ (.cons ⟨_, rfl⟩ (.cons ⟨_, rfl⟩ (.cons ⟨_, rfl⟩ (.cons ⟨_, rfl⟩ (.cons ⟨_, rfl⟩ (.cons ⟨_, rfl⟩ (.cons ⟨_, rfl⟩ (.cons ⟨_, rfl⟩ (.cons ⟨_, rfl⟩ (.cons ⟨_, rfl⟩ (.nil))))))))))))))))))))))
    (case m_SIGNS => k_is)
    (case l_SIGNS => k_is)
    (case g_SIGNS => decide)
    (case v_SIGNS => exact .cons ⟨_, rfl⟩ (.cons ⟨_, rfl⟩ (.cons ⟨_, rfl⟩ (.cons ⟨_, rfl⟩ (.cons ⟨_, rfl⟩ (.cons ⟨_, rfl⟩ (.cons ⟨_, rfl⟩ (.cons ⟨_, rfl⟩ (.cons ⟨_, rfl⟩ (.cons ⟨_, rfl⟩ (.cons ⟨_, rfl⟩ (.cons ⟨_, rfl⟩ (.cons ⟨_, rfl⟩ (.nil))))))))))))))
    (case m_SUMS => k_is)
    (case l_SUMS => k_is)
    (case g_SUMS => exact ⟨⟨_, _, rfl, rfl⟩, ⟨_, _, rfl, rfl⟩, trivial⟩)
    (case u_SUMS => k_is)
    (case w_SUMS => k_is)
    (case m_COMPARISONS => k_is)
    (case l_COMPARISONS => k_is)
    (case g_COMPARISONS => exact ⟨⟨_, _, rfl, rfl⟩, ⟨_, _, rfl, rfl⟩, trivial⟩)
    (case u_COMPARISONS => k_is)
    (case w_COMPARISONS => k_is)
    (case p_COMPARISONS => exact .cons ⟨_, rfl⟩ (.cons ⟨_, rfl⟩ .nil))
    (case r_COMPARISONS => decide)
